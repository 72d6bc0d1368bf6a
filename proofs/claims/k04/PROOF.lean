import PyProof.Rows.All
import Wide.All
import OpenK.AllK
import Wide.FinOn
import HandS.ForMost
import HandS.Walk
import HandS.Style
import HandS.Conv
import HandS.IsInst
import HandS.TupAny
import HandS.TupMul
import HandS.SortInts
import HandS.Deep
import HandS.ExcOwn
import HandS.ExcIs
import HandS.WordsExc
import HandS.ExcValue
import PySem.Challenge.RW_medianroots_k04_whole_roots
set_option Elab.async false
set_option linter.all false
set_option maxRecDepth 100000
set_option maxHeartbeats 4000000
namespace MR
open PySem
/-! ### plain data and what the built-ins make of it -/
abbrev D := PyData
def LIM : Nat := 100000
def intsOf : List D → Option (List Int)
  | [] => some []
  | .int i :: r => (intsOf r).map (i :: ·)
  | _ => none
def boolsOf : List D → Option (List Bool)
  | [] => some []
  | .bool i :: r => (boolsOf r).map (i :: ·)
  | _ => none
def strsOf : List D → Option (List Str)
  | [] => some []
  | .str i :: r => (strsOf r).map (i :: ·)
  | _ => none
theorem intsOf_map : ∀ xs : List Int, intsOf (xs.map PyData.int) = some xs
  | [] => rfl
  | x :: r => by
    show (intsOf (r.map PyData.int)).map (x :: ·) = some (x :: r)
    rw [intsOf_map r]
    rfl
theorem of_intsOf : ∀ {ds : List D} {xs : List Int}, intsOf ds = some xs → ds = xs.map PyData.int
  | [], xs, h => by
    cases h
    rfl
  | .int i :: r, xs, h => by
    have h' : (intsOf r).map (i :: ·) = some xs := h
    cases e : intsOf r with
    | none => rw [e] at h'; cases h'
    | some ys =>
      rw [e] at h'
      cases h'
      rw [of_intsOf e]
      rfl
  | .none :: _, _, h => nomatch h
  | .bool _ :: _, _, h => nomatch h
  | .str _ :: _, _, h => nomatch h
  | .list _ :: _, _, h => nomatch h
  | .tuple _ :: _, _, h => nomatch h
  | .dict _ :: _, _, h => nomatch h
theorem boolsOf_map : ∀ xs : List Bool, boolsOf (xs.map PyData.bool) = some xs
  | [] => rfl
  | x :: r => by
    show (boolsOf (r.map PyData.bool)).map (x :: ·) = some (x :: r)
    rw [boolsOf_map r]
    rfl
theorem of_boolsOf : ∀ {ds : List D} {xs : List Bool}, boolsOf ds = some xs → ds = xs.map PyData.bool
  | [], xs, h => by
    cases h
    rfl
  | .bool i :: r, xs, h => by
    have h' : (boolsOf r).map (i :: ·) = some xs := h
    cases e : boolsOf r with
    | none => rw [e] at h'; cases h'
    | some ys =>
      rw [e] at h'
      cases h'
      rw [of_boolsOf e]
      rfl
  | .none :: _, _, h => nomatch h
  | .int _ :: _, _, h => nomatch h
  | .str _ :: _, _, h => nomatch h
  | .list _ :: _, _, h => nomatch h
  | .tuple _ :: _, _, h => nomatch h
  | .dict _ :: _, _, h => nomatch h
theorem strsOf_map : ∀ xs : List Str, strsOf (xs.map PyData.str) = some xs
  | [] => rfl
  | x :: r => by
    show (strsOf (r.map PyData.str)).map (x :: ·) = some (x :: r)
    rw [strsOf_map r]
    rfl
theorem of_strsOf : ∀ {ds : List D} {xs : List Str}, strsOf ds = some xs → ds = xs.map PyData.str
  | [], xs, h => by
    cases h
    rfl
  | .str i :: r, xs, h => by
    have h' : (strsOf r).map (i :: ·) = some xs := h
    cases e : strsOf r with
    | none => rw [e] at h'; cases h'
    | some ys =>
      rw [e] at h'
      cases h'
      rw [of_strsOf e]
      rfl
  | .none :: _, _, h => nomatch h
  | .int _ :: _, _, h => nomatch h
  | .bool _ :: _, _, h => nomatch h
  | .list _ :: _, _, h => nomatch h
  | .tuple _ :: _, _, h => nomatch h
  | .dict _ :: _, _, h => nomatch h
/-- sorting, by insertion -/
def insI (x : Int) : List Int → List Int
  | [] => [x]
  | y :: r => if x ≤ y then x :: y :: r else y :: insI x r
def isort : List Int → List Int
  | [] => []
  | x :: r => insI x (isort r)
theorem insI_perm (x : Int) : ∀ l : List Int, (insI x l).Perm (x :: l)
  | [] => .refl _
  | y :: r => by
    unfold insI
    split
    · exact .refl _
    · exact ((insI_perm x r).cons y).trans (.swap x y r)
theorem isort_perm : ∀ l : List Int, (isort l).Perm l
  | [] => .refl _
  | x :: r => (insI_perm x (isort r)).trans ((isort_perm r).cons x)
theorem insI_sorted (x : Int) : ∀ l : List Int, l.Pairwise (· ≤ ·) → (insI x l).Pairwise (· ≤ ·)
  | [], _ => List.pairwise_singleton _ _
  | y :: r, h => by
    unfold insI
    have h1 := List.pairwise_cons.mp h
    split
    · rename_i hxy
      refine List.pairwise_cons.mpr ⟨fun z hz => ?_, h⟩
      rcases List.mem_cons.mp hz with e | hz
      · rw [e]; exact hxy
      · exact Int.le_trans hxy (h1.1 z hz)
    · rename_i hxy
      refine List.pairwise_cons.mpr ⟨fun z hz => ?_, insI_sorted x r h1.2⟩
      rcases List.mem_cons.mp ((insI_perm x r).mem_iff.mp hz) with e | hz
      · rw [e]; omega
      · exact h1.1 z hz
theorem isort_sorted : ∀ l : List Int, (isort l).Pairwise (· ≤ ·)
  | [] => List.Pairwise.nil
  | x :: r => insI_sorted x _ (isort_sorted r)
theorem isort_eq {a b : List Int} (hp : a.Perm b) (ha : a.Pairwise (· ≤ ·)) : a = isort b :=
  PySem.W.ksm_same (hp.trans (isort_perm b).symm) ha (isort_sorted b)
theorem isort_length (l : List Int) : (isort l).length = l.length := (isort_perm l).length_eq
/-- the greatest, the least -/
def maxL : List Int → Int
  | [] => 0
  | x :: r => r.foldl (fun a b => if b > a then b else a) x
def minL : List Int → Int
  | [] => 0
  | x :: r => r.foldl (fun a b => if b < a then b else a) x
theorem foldmax : ∀ (r : List Int) (x : Int), (r.foldl (fun a b => if b > a then b else a) x = x ∨ r.foldl (fun a b => if b > a then b else a) x ∈ r) ∧ x ≤ r.foldl (fun a b => if b > a then b else a) x ∧ ∀ y ∈ r, y ≤ r.foldl (fun a b => if b > a then b else a) x
  | [], x => ⟨.inl rfl, Int.le_refl _, fun _ h => nomatch h⟩
  | z :: r, x => by
    rw [List.foldl_cons]
    obtain ⟨h1, h2, h3⟩ := foldmax r (if z > x then z else x)
    refine ⟨?_, ?_, fun y hy => ?_⟩
    · rcases h1 with h1 | h1
      · rw [h1]
        split
        · exact .inr (List.mem_cons_self)
        · exact .inl rfl
      · exact .inr (List.mem_cons_of_mem _ h1)
    · refine Int.le_trans ?_ h2
      split <;> omega
    · rcases List.mem_cons.mp hy with e | hy
      · subst e
        refine Int.le_trans ?_ h2
        split <;> omega
      · exact h3 y hy
theorem foldmin : ∀ (r : List Int) (x : Int), (r.foldl (fun a b => if b < a then b else a) x = x ∨ r.foldl (fun a b => if b < a then b else a) x ∈ r) ∧ r.foldl (fun a b => if b < a then b else a) x ≤ x ∧ ∀ y ∈ r, r.foldl (fun a b => if b < a then b else a) x ≤ y
  | [], x => ⟨.inl rfl, Int.le_refl _, fun _ h => nomatch h⟩
  | z :: r, x => by
    rw [List.foldl_cons]
    obtain ⟨h1, h2, h3⟩ := foldmin r (if z < x then z else x)
    refine ⟨?_, ?_, fun y hy => ?_⟩
    · rcases h1 with h1 | h1
      · rw [h1]
        split
        · exact .inr (List.mem_cons_self)
        · exact .inl rfl
      · exact .inr (List.mem_cons_of_mem _ h1)
    · refine Int.le_trans h2 ?_
      split <;> omega
    · rcases List.mem_cons.mp hy with e | hy
      · subst e
        refine Int.le_trans h2 ?_
        split <;> omega
      · exact h3 y hy
theorem maxL_mem {l : List Int} (h : l ≠ []) : maxL l ∈ l := by
  cases l with
  | nil => exact absurd rfl h
  | cons x r =>
    rcases (foldmax r x).1 with e | e
    · show r.foldl _ x ∈ _
      rw [e]; exact List.mem_cons_self
    · exact List.mem_cons_of_mem _ e
theorem le_maxL {l : List Int} {y : Int} (h : y ∈ l) : y ≤ maxL l := by
  cases l with
  | nil => cases h
  | cons x r =>
    rcases List.mem_cons.mp h with e | e
    · rw [e]; exact (foldmax r x).2.1
    · exact (foldmax r x).2.2 y e
theorem minL_mem {l : List Int} (h : l ≠ []) : minL l ∈ l := by
  cases l with
  | nil => exact absurd rfl h
  | cons x r =>
    rcases (foldmin r x).1 with e | e
    · show r.foldl _ x ∈ _
      rw [e]; exact List.mem_cons_self
    · exact List.mem_cons_of_mem _ e
theorem minL_le {l : List Int} {y : Int} (h : y ∈ l) : minL l ≤ y := by
  cases l with
  | nil => cases h
  | cons x r =>
    rcases List.mem_cons.mp h with e | e
    · rw [e]; exact (foldmin r x).2.1
    · exact (foldmin r x).2.2 y e
/-- data of few levels, without dicts: what == takes -/
def lvl : Nat → D → Bool
  | _, .none => true
  | _, .bool _ => true
  | _, .int _ => true
  | _, .str x => PyData.strOk x
  | n + 1, .list xs => xs.all (lvl n)
  | n + 1, .tuple xs => xs.all (lvl n)
  | _, _ => false
def okD (d : D) : Bool := lvl 5 d
theorem lvl_ok : ∀ (n : Nat) (d : D), lvl n d = true → d.canLay0 = true ∧ d.depth ≤ n
  | _, .none, _ => ⟨by simp only [PyData.canLay0], by simp only [PyData.depth]; omega⟩
  | _, .bool _, _ => ⟨by simp only [PyData.canLay0], by simp only [PyData.depth]; omega⟩
  | _, .int _, _ => ⟨by simp only [PyData.canLay0], by simp only [PyData.depth]; omega⟩
  | n, .str x, h => ⟨by
      have h' : PyData.strOk x = true := by cases n <;> exact h
      simpa only [PyData.canLay0] using h', by simp only [PyData.depth]; omega⟩
  | 0, .list xs, h => nomatch h
  | 0, .tuple xs, h => nomatch h
  | 0, .dict _, h => nomatch h
  | _ + 1, .dict _, h => nomatch h
  | n + 1, .list xs, h => by
    have h' : xs.all (lvl n) = true := h
    have all : ∀ ys : List D, ys.all (lvl n) = true → PyData.canLayAll0 ys = true ∧ PyData.depthAll ys ≤ n := by
      intro ys
      induction ys with
      | nil => intro _; exact ⟨by simp only [PyData.canLayAll0], by simp only [PyData.depthAll]; omega⟩
      | cons y r ih =>
        intro hy
        rw [List.all_cons, Bool.and_eq_true] at hy
        have a := lvl_ok n y hy.1
        have b := ih hy.2
        refine ⟨by simp only [PyData.canLayAll0, a.1, b.1, Bool.and_self], ?_⟩
        simp only [PyData.depthAll]
        omega
    obtain ⟨a, b⟩ := all xs h'
    exact ⟨by simpa only [PyData.canLay0] using a, by simp only [PyData.depth]; omega⟩
  | n + 1, .tuple xs, h => by
    have h' : xs.all (lvl n) = true := h
    have all : ∀ ys : List D, ys.all (lvl n) = true → PyData.canLayAll0 ys = true ∧ PyData.depthAll ys ≤ n := by
      intro ys
      induction ys with
      | nil => intro _; exact ⟨by simp only [PyData.canLayAll0], by simp only [PyData.depthAll]; omega⟩
      | cons y r ih =>
        intro hy
        rw [List.all_cons, Bool.and_eq_true] at hy
        have a := lvl_ok n y hy.1
        have b := ih hy.2
        refine ⟨by simp only [PyData.canLayAll0, a.1, b.1, Bool.and_self], ?_⟩
        simp only [PyData.depthAll]
        omega
    obtain ⟨a, b⟩ := all xs h'
    exact ⟨by simpa only [PyData.canLay0] using a, by simp only [PyData.depth]; omega⟩
theorem okD_shaped {d : D} (h : okD d = true) : SeqAt.shaped d = true := by
  obtain ⟨a, b⟩ := lvl_ok 5 d h
  unfold SeqAt.shaped
  rw [a, Bool.true_and]
  exact decide_eq_true (by omega)
inductive Bop where
  | add | sub | mul | fdiv | mod | pow | eq | ne | lt | le | gt | ge | is | isnot | inn | notin
def opD : Bop → D → D → Option D
  | .add, .int i, .int j => some (.int (i + j))
  | .add, .list xs, .list ys => if xs.length + ys.length ≤ LIM then some (.list (xs ++ ys)) else none
  | .add, .tuple xs, .tuple ys => if xs.length + ys.length ≤ LIM then some (.tuple (xs ++ ys)) else none
  | .add, .str x, .str y => if x.length + y.length ≤ LIM then some (.str (x ++ y)) else none
  | .sub, .int i, .int j => some (.int (i - j))
  | .mul, .int i, .int j => if (-18446744073709551616 < i ∧ i < 18446744073709551616) ∨ (-18446744073709551616 < j ∧ j < 18446744073709551616) then some (.int (i * j)) else none
  | .mul, .list xs, .int k => if xs.length ≤ 100 ∧ -1000 ≤ k ∧ k ≤ 1000 then some (.list (List.replicate k.toNat xs).flatten) else none
  | .mul, .tuple xs, .int k => if xs ≠ [] ∧ xs.length ≤ 100 ∧ 2 ≤ k ∧ k ≤ 1000 then some (.tuple (List.replicate k.toNat xs).flatten) else none
  | .fdiv, .int i, .int j => if 0 < j ∧ j < 1073741824 then some (.int (i / j)) else none
  | .mod, .int i, .int j => if 0 < j then some (.int (i % j)) else none
  | .pow, .int i, .int j => if 0 ≤ j ∧ j ≤ 1000000 ∧ i.natAbs < 18446744073709551616 then some (.int (i ^ j.toNat)) else none
  | .eq, x, y => if okD x = true ∧ okD y = true then some (.bool (PyData.eqv x y)) else none
  | .ne, x, y => if okD x = true ∧ okD y = true then some (.bool (!PyData.eqv x y)) else none
  | .lt, .int i, .int j => some (.bool (decide (i < j)))
  | .le, .int i, .int j => some (.bool (decide (i ≤ j)))
  | .gt, .int i, .int j => some (.bool (decide (j < i)))
  | .ge, .int i, .int j => some (.bool (decide (j ≤ i)))
  | .is, .bool a, .bool b => some (.bool (decide (a = b)))
  | .isnot, .bool a, .bool b => some (.bool (!decide (a = b)))
  | .is, .none, .none => some (.bool true)
  | .is, .int _, .none => some (.bool false)
  | .is, .bool _, .none => some (.bool false)
  | .is, .str _, .none => some (.bool false)
  | .is, .list _, .none => some (.bool false)
  | .is, .tuple _, .none => some (.bool false)
  | .is, .dict _, .none => some (.bool false)
  | .isnot, .none, .none => some (.bool false)
  | .isnot, .int _, .none => some (.bool true)
  | .isnot, .bool _, .none => some (.bool true)
  | .isnot, .str _, .none => some (.bool true)
  | .isnot, .list _, .none => some (.bool true)
  | .isnot, .tuple _, .none => some (.bool true)
  | .isnot, .dict _, .none => some (.bool true)
  | .inn, x, .list ys => if okD x = true ∧ okD (.list ys) = true then some (.bool (ys.any fun z => PyData.eqv z x)) else none
  | .notin, x, .list ys => if okD x = true ∧ okD (.list ys) = true then some (.bool (!ys.any fun z => PyData.eqv z x)) else none
  | .inn, x, .tuple ys => if okD x = true ∧ okD (.tuple ys) = true then some (.bool (ys.any fun z => PyData.eqv z x)) else none
  | .notin, x, .tuple ys => if okD x = true ∧ okD (.tuple ys) = true then some (.bool (!ys.any fun z => PyData.eqv z x)) else none
  | _, _, _ => none
inductive Ty where
  | int | bool | list | tuple | str
def isiD : Ty → D → Option Bool
  | _, .dict _ => none
  | .int, .int _ => some true
  | .int, .bool _ => some true
  | .bool, .bool _ => some true
  | .list, .list _ => some true
  | .tuple, .tuple _ => some true
  | .str, .str _ => some true
  | _, _ => some false
def atD (xs : List D) (i : Int) : Option D := L2.atI xs i
def idxD : D → D → Option D
  | .list xs, .int i => L2.atI xs i
  | .tuple xs, .int i => L2.atI xs i
  | _, _ => none
def cutD {α : Type} (xs : List α) (lo hi : Option Int) : List α := (xs.drop (HT.sIx xs.length 0 lo)).take (HT.sIx xs.length xs.length hi - HT.sIx xs.length 0 lo)
def slcD (x : D) (lo hi : Option Int) : Option D := match x with
  | .list xs => some (.list (cutD xs lo hi))
  | .tuple xs => some (.tuple (cutD xs lo hi))
  | _ => none
/-- what is walked -/
inductive Srk where
  | seq | rng | enm | zip | zip3
def BIG (i : Int) : Prop := -4611686018427387904 ≤ i ∧ i < 4611686018427387904
instance (i : Int) : Decidable (BIG i) := by unfold BIG; infer_instance
def upto (lo : Int) (n : Nat) : List D := (List.range n).map fun (i : Nat) => PyData.int (lo + (i : Int))
def dnto (hi : Int) (n : Nat) : List D := (List.range n).map fun (i : Nat) => PyData.int (hi + (i : Int) * (-1))
inductive Blt where
  | len | min | max | sorted | sum | all | any | abs | list | tuple | lrng | trng | isx (k : Nat) | lcnt | lidx
deriving DecidableEq
/-- is the class c one of the class k's? 0 to 5: the errors, 6: MedianError, 7: ValueError -/
def subB (c k : Nat) : Bool := c == k || k == 6 || k == 7
def bltD : Blt → List D → Option D
  | .len, [.list xs] => some (.int xs.length)
  | .len, [.tuple xs] => some (.int xs.length)
  | .min, [.list xs] => match intsOf xs with | some (y :: r) => some (.int (minL (y :: r))) | _ => none
  | .max, [.list xs] => match intsOf xs with | some (y :: r) => some (.int (maxL (y :: r))) | _ => none
  | .min, [.int i, .int j] => some (.int (if j < i then j else i))
  | .max, [.int i, .int j] => some (.int (if j > i then j else i))
  | .sorted, [.list xs] => match intsOf xs with | some l => some (.list ((isort l).map .int)) | _ => none
  | .sum, [.list xs] => match intsOf xs with | some l => some (.int l.sum) | _ => none
  | .all, [.list xs] => match boolsOf xs with | some l => some (.bool (l.all id)) | _ => none
  | .any, [.list xs] => match boolsOf xs with | some l => some (.bool (l.any id)) | _ => none
  | .abs, [.int i] => some (.int (if i < 0 then -i else i))
  | .list, [.list xs] => some (.list xs)
  | .list, [.tuple xs] => some (.list xs)
  | .tuple, [.list xs] => some (.tuple xs)
  | .tuple, [.tuple xs] => some (.tuple xs)
  | .sorted, [.tuple xs] => match intsOf xs with | some l => some (.list ((isort l).map .int)) | _ => none
  | .isx k, [.dict [(.none, .int c)]] => if 0 ≤ c ∧ c < 6 then some (.bool (subB c.toNat k)) else none
  | .lcnt, [.list xs, y] => if okD (.list xs) = true ∧ okD y = true then some (.int ((xs.countP fun z => PyData.eqv z y : Nat) : Int)) else none
  | .lidx, [.list xs, y] => if okD (.list xs) = true ∧ okD y = true then (xs.findIdx? fun z => PyData.eqv z y).map fun (j : Nat) => PyData.int (j : Int) else none
  | .lrng, [.int i, .int j] => if BIG i ∧ BIG j ∧ j - i ≤ 100000 then some (.list (upto i (j - i).toNat)) else none
  | .trng, [.int i, .int j] => if BIG i ∧ BIG j ∧ j - i ≤ 100000 then some (.tuple (upto i (j - i).toNat)) else none
  | .lrng, [.int j] => if BIG j ∧ j ≤ 100000 then some (.list (upto 0 j.toNat)) else none
  | .trng, [.int j] => if BIG j ∧ j ≤ 100000 then some (.tuple (upto 0 j.toNat)) else none
  | _, _ => none
theorem lcnt_inv {d d2 u : D} (h : bltD .lcnt [d, d2] = some u) : ∃ xs, d = .list xs ∧ okD (.list xs) = true ∧ okD d2 = true ∧ u = .int ((xs.countP fun z => PyData.eqv z d2 : Nat) : Int) := by
  cases d <;> first | (cases d2 <;> cases h; done) | skip
  have h' : (if okD (.list _) = true ∧ okD d2 = true then some (PyData.int ((List.countP (fun z => PyData.eqv z d2) _ : Nat) : Int)) else none) = some u := h
  split at h'
  · rename_i hc
    cases h'
    exact ⟨_, rfl, hc.1, hc.2, rfl⟩
  · cases h'
theorem lidx_inv {d d2 u : D} (h : bltD .lidx [d, d2] = some u) : ∃ xs j, d = .list xs ∧ okD (.list xs) = true ∧ okD d2 = true ∧ xs.findIdx? (fun z => PyData.eqv z d2) = some j ∧ u = .int ((j : Nat) : Int) := by
  cases d <;> first | (cases d2 <;> cases h; done) | skip
  rename_i xs
  have h' : (if okD (.list xs) = true ∧ okD d2 = true then (xs.findIdx? fun z => PyData.eqv z d2).map fun (j : Nat) => PyData.int (j : Int) else none) = some u := h
  split at h'
  · rename_i hc
    cases q : xs.findIdx? (fun z => PyData.eqv z d2) with
    | none => rw [q] at h'; cases h'
    | some j =>
      rw [q] at h'
      cases h'
      exact ⟨xs, j, rfl, hc.1, hc.2, q, rfl⟩
  · cases h'
theorem isx_inv {d u : D} {k : Nat} (h : bltD (.isx k) [d] = some u) : ∃ n : Nat, n < 6 ∧ d = .dict [(.none, .int (n : Int))] ∧ u = .bool (subB n k) := by
  unfold bltD at h
  split at h <;> first | (cases h; done) | skip
  all_goals rename_i e1 e2
  all_goals first | (cases e1; done) | skip
  cases e1
  cases e2
  split at h
  · rename_i hc
    cases h
    exact ⟨_, by omega, by rw [Int.toNat_of_nonneg hc.1], rfl⟩
  · cases h
def zipD : List D → List D → List D
  | x :: xs, y :: ys => .tuple [x, y] :: zipD xs ys
  | _, _ => []
def zip3D : List D → List D → List D → List D
  | x :: xs, y :: ys, z :: zs => .tuple [x, y, z] :: zip3D xs ys zs
  | _, _, _ => []
def enmD : Nat → List D → List D
  | _, [] => []
  | n, x :: xs => .tuple [.int (n : Int), x] :: enmD (n + 1) xs
def srcD : Srk → List D → Option (List D)
  | .seq, [.list xs] => some xs
  | .seq, [.tuple xs] => some xs
  | .rng, [.int j] => if BIG j then some (upto 0 j.toNat) else none
  | .rng, [.int i, .int j] => if BIG i ∧ BIG j then some (upto i (j - i).toNat) else none
  | .rng, [.int i, .int j, .int c] => if BIG i ∧ BIG j ∧ c = -1 then some (dnto i (i - j).toNat) else none
  | .enm, [.list xs] => some (enmD 0 xs)
  | .zip, [.list xs, .list ys] => some (zipD xs ys)
  | .zip3, [.list xs, .list ys, .list zs] => some (zip3D xs ys zs)
  | _, _ => none
/-! ### the small language -/
inductive Tg where
  | one (i : Nat) | two (i j : Nat)
def Tg.slots : Tg → List Nat
  | .one i => [i]
  | .two i j => [i, j]
inductive Xp where
  | var (i : Nat)
  | lit (d : D)
  | bin (o : Bop) (a b : Xp)
  | neg (a : Xp)
  | not (a : Xp)
  | and (a b : Xp)
  | or (a b : Xp)
  | chn (o p : Bop) (a b c : Xp)
  | ite (c a b : Xp)
  | list (es : List Xp)
  | tup (es : List Xp)
  | idx (a i : Xp)
  | slc (a lo hi : Xp)
  | rev (a : Xp)
  | blt (f : Blt) (es : List Xp)
  | isi (t : Ty) (a : Xp)
  | call (f : Nat) (es : List Xp)
  | callF (f : Nat) (es : List Xp)
  | comp (elt : Xp) (tg : Tg) (k : Srk) (src : List Xp) (cond : Option Xp)
def bndX : Xp → D → Option (Option Int)
  | .lit .none, _ => some none
  | _, .int i => some (some i)
  | _, _ => none
inductive Slt where
  | un | val (d : D) | own (ds : List D)
inductive Rs (T A : Type) where
  | ok (a : A) (s : T)
  | exc (c : Nat) (s : T)
  | stuck
def Rs.bind {T A B : Type} (r : Rs T A) (f : A → T → Rs T B) : Rs T B := match r with
  | .ok a s => f a s
  | .exc c s => .exc c s
  | .stuck => .stuck
def Rs.of {T A : Type} (o : Option A) (s : T) : Rs T A := match o with
  | some a => .ok a s
  | none => .stuck
@[simp] theorem Rs.bind_ok {T A B : Type} (a : A) (s : T) (f : A → T → Rs T B) : (Rs.ok a s).bind f = f a s := Eq.trans rfl rfl
@[simp] theorem Rs.bind_exc {T A B : Type} (c : Nat) (s : T) (f : A → T → Rs T B) : (Rs.exc (A := A) c s).bind f = .exc c s := Eq.trans rfl rfl
@[simp] theorem Rs.bind_stuck {T A B : Type} (f : A → T → Rs T B) : (Rs.stuck (T := T) (A := A)).bind f = .stuck := Eq.trans rfl rfl
@[simp] theorem Rs.of_some {T A : Type} (a : A) (s : T) : Rs.of (some a) s = .ok a s := Eq.trans rfl rfl
@[simp] theorem Rs.of_none {T A : Type} (s : T) : Rs.of (none : Option A) s = .stuck := Eq.trans rfl rfl
abbrev MRho := List Slt
def getV (b : Bool) (r : MRho) (i : Nat) : Option D := match r[i]? with
  | some (.val d) => some d
  | some (.own ds) => if b then some (.list ds) else none
  | _ => none
def wipeR (r : MRho) : List Nat → MRho
  | [] => r
  | v :: vs => (wipeR r vs).set v .un
def bindT (tg : Tg) (d : D) (r : MRho) : Option MRho := match tg, d with
  | .one i, d => some (r.set i (.val d))
  | .two i j, .tuple [x, y] => some ((r.set i (.val x)).set j (.val y))
  | _, _ => none
/-- a comprehension's turns -/
def compM {T : Type} (f : D → T → Rs T (Option D)) : List D → T → Rs T (List D)
  | [], s => .ok [] s
  | d :: ds, s => (f d s).bind fun o s1 => (compM f ds s1).bind fun r s2 => .ok (o.toList ++ r) s2
def noX {T A : Type} : Rs T A → Rs T A
  | .ok a s => .ok a s
  | _ => .stuck
structure Tab (T : Type) where
  F : Nat → List D → T → Rs T D
  FF : Nat → List D → T → Rs T (List D)
  ar : Nat → Nat
section
variable {T : Type} (G : Tab T)
mutual
def ev (b : Bool) (r : MRho) : Xp → T → Rs T D
  | .var i, s => .of (getV b r i) s
  | .lit d, s => .ok d s
  | .bin o x y, s => (ev true r x s).bind fun d s1 => (ev true r y s1).bind fun e s2 => .of (opD o d e) s2
  | .neg x, s => (ev false r x s).bind fun d s1 => match d with
    | .int i => .ok (.int (-i)) s1
    | _ => .stuck
  | .not x, s => (ev false r x s).bind fun d s1 => match d with
    | .bool c => .ok (.bool (!c)) s1
    | _ => .stuck
  | .and x y, s => (ev false r x s).bind fun d s1 => match d with
    | .bool true => ev false r y s1
    | .bool false => .ok (.bool false) s1
    | _ => .stuck
  | .or x y, s => (ev false r x s).bind fun d s1 => match d with
    | .bool true => .ok (.bool true) s1
    | .bool false => ev false r y s1
    | _ => .stuck
  | .chn o p x y z, s => (ev true r x s).bind fun d s1 => (ev true r y s1).bind fun e s2 => match opD o d e with
    | some (.bool true) => (ev true r z s2).bind fun f s3 => .of (opD p e f) s3
    | some (.bool false) => .ok (.bool false) s2
    | _ => .stuck
  | .ite c x y, s => (ev false r c s).bind fun d s1 => match d with
    | .bool true => ev false r x s1
    | .bool false => ev false r y s1
    | _ => .stuck
  | .list es, s => (evs false r es s).bind fun ds s1 => if ds.length ≤ LIM then .ok (.list ds) s1 else .stuck
  | .tup es, s => (evs false r es s).bind fun ds s1 => if ds.length ≤ LIM then .ok (.tuple ds) s1 else .stuck
  | .idx x y, s => (ev true r x s).bind fun d s1 => (ev false r y s1).bind fun e s2 => .of (idxD d e) s2
  | .slc x lo hi, s => (ev true r x s).bind fun d s1 => (ev false r lo s1).bind fun l s2 => match bndX lo l with
    | some l' => (ev false r hi s2).bind fun h s3 => match bndX hi h with
      | some h' => .of (slcD d l' h') s3
      | none => .stuck
    | none => .stuck
  | .rev x, s => (ev true r x s).bind fun d s1 => match d with
    | .list ds => .ok (.list ds.reverse) s1
    | _ => .stuck
  | .blt f es, s => (evs true r es s).bind fun ds s1 => .of (bltD f ds) s1
  | .isi t x, s => (ev true r x s).bind fun d s1 => match isiD t d with
    | some c => .ok (.bool c) s1
    | none => .stuck
  | .call f es, s => if es.length = G.ar f then (evs false r es s).bind fun ds s1 => G.F f ds s1 else .stuck
  | .callF f es, s => if es.length = G.ar f then (evs false r es s).bind fun ds s1 => (G.FF f ds s1).bind fun l s2 => .ok (.list l) s2 else .stuck
  | .comp elt tg k src none, s => (evs true r src s).bind fun ss s1 => match srcD k ss with
    | some ds => if ds.length ≤ LIM then (noX (compM (fun d s => match bindT tg d (wipeR r tg.slots) with
        | some r' => (ev false r' elt s).bind fun x s2 => .ok (some x) s2
        | none => .stuck) ds s1)).bind fun l s2 => .ok (.list l) s2 else .stuck
    | none => .stuck
  | .comp elt tg k src (some c), s => (evs true r src s).bind fun ss s1 => match srcD k ss with
    | some ds => if ds.length ≤ LIM then (noX (compM (fun d s => match bindT tg d (wipeR r tg.slots) with
        | some r' => (ev false r' c s).bind fun y s1 => match y with
          | .bool true => (ev false r' elt s1).bind fun x s2 => .ok (some x) s2
          | .bool false => .ok none s1
          | _ => .stuck
        | none => .stuck) ds s1)).bind fun l s2 => .ok (.list l) s2 else .stuck
    | none => .stuck
def evs (b : Bool) (r : MRho) : List Xp → T → Rs T (List D)
  | [], s => .ok [] s
  | e :: es, s => (ev b r e s).bind fun d s1 => (evs b r es s1).bind fun ds s2 => .ok (d :: ds) s2
end
end
end MR

namespace MR
open PySem PySem.Spec PyProof.Rows L2
/-! ### data as it lies in the heap -/
/-- a world: where the plain data lies, where the state lies, the addresses of the exceptions' classes -/
structure Wl where
  P : Addr → Prop
  Z : Addr → Prop
  X : Nat → Addr
instance : CoeFun Wl (fun _ => Addr → Prop) := ⟨Wl.P⟩
/-- an exception of the class at C, held as a value -/
def ExV (C a : Addr) : HO := .ext fun h => ∃ (oe : Obj) (vs : Array Value), h.get? a = some oe ∧ Zc (.ref C) none oe ∧ oe.data = .fields vs
def excD (c : Nat) : D := .dict [(.none, .int (c : Int))]
def tokD (a : Addr) : D := .dict [(.int (a : Int), .none)]
mutual
inductive Rep (S : Wl) (H : Hp) : V → D → Prop
  | non : Rep S H .non .none
  | bl (b : Bool) : Rep S H (.bl b) (.bool b)
  | int (i : Int) : Rep S H (.int i) (.int i)
  | str (x : Str) : Rep S H (.str x) (.str x)
  | lst {a : Addr} {xs : List V} {ds : List D} : S a → H a = some (.lst xs) → Reps S H xs ds → Rep S H (.ref a) (.list ds)
  | tup {a : Addr} {xs : List V} {ds : List D} : H a = some (.tup xs) → Reps S H xs ds → Rep S H (.ref a) (.tuple ds)
  | tok (a : Addr) : Rep S H (.ref a) (.dict [(.int (a : Int), .none)])
  | exc {a : Addr} (c : Nat) : S a → H a = some (ExV (S.X c) a) → Rep S H (.ref a) (.dict [(.none, .int (c : Int))])
inductive Reps (S : Wl) (H : Hp) : List V → List D → Prop
  | nil : Reps S H [] []
  | cons {v : V} {vs : List V} {d : D} {ds : List D} : Rep S H v d → Reps S H vs ds → Reps S H (v :: vs) (d :: ds)
end
/-- the state beside the plain data: where it lies, what holds of it -/
structure SS where
  T : Type
  R : T → Wl → Hp → Prop
  stab : ∀ st (S : Wl) H (S' : Wl) H', R st S H → S'.Z = S.Z → S'.X = S.X → (∀ a, S a → S' a) → (∀ a, S.Z a → H' a = H a) → (∀ a o, S a → H a = some o → H' a = some o) → (∀ a xs, H a = some (.tup xs) → H' a = some (.tup xs)) → R st S' H'
  live : ∀ st (S : Wl) H a, R st S H → S.Z a → H a ≠ none
  ntup : ∀ st (S : Wl) H a xs, R st S H → S.Z a → H a ≠ some (.tup xs)
structure Wd (G : SS) (S : Wl) (H : Hp) (st : G.T) : Prop where
  r : G.R st S H
  dis : ∀ a, S a → ¬ S.Z a
  dom : ∀ a, S a → H a ≠ none
/-- the heap has grown; the state may have changed -/
structure Ext (G : SS) (S : Wl) (H : Hp) (S' : Wl) (H' : Hp) : Prop where
  sub : ∀ a, S a → S' a
  new : ∀ a, S' a → S a ∨ H a = none
  keep : ∀ a o, H a = some o → ¬ S.Z a → H' a = some o
  kn : ∀ a, H' a = none → H a = none
  zn : ∀ a, S'.Z a → S.Z a ∨ H a = none
  xs : S'.X = S.X
theorem Ext.refl {G : SS} {S : Wl} {H : Hp} : Ext G S H S H := ⟨fun _ h => h, fun _ h => .inl h, fun _ _ h _ => h, fun _ h => h, fun _ h => .inl h, rfl⟩
theorem Ext.nz {G : SS} {S S' : Wl} {H H' : Hp} (x : Ext G S H S' H') {a : Addr} {o : HO} (h : H a = some o) (n : ¬ S.Z a) : ¬ S'.Z a := fun z => (x.zn a z).elim n fun e => by rw [h] at e; cases e
theorem Ext.trans {G : SS} {S S1 S2 : Wl} {H H1 H2 : Hp} (x : Ext G S H S1 H1) (y : Ext G S1 H1 S2 H2) : Ext G S H S2 H2 :=
  ⟨fun a h => y.sub a (x.sub a h), fun a h => (y.new a h).elim (x.new a) fun z => .inr (x.kn a z), fun a o h z => y.keep a o (x.keep a o h z) (x.nz h z), fun a h => x.kn a (y.kn a h), fun a h => (y.zn a h).elim (x.zn a) fun z => .inr (x.kn a z), y.xs.trans x.xs⟩
theorem Wd.ntup {G : SS} {S : Wl} {H : Hp} {st : G.T} (w : Wd G S H st) {a : Addr} {xs : List V} (h : H a = some (.tup xs)) : ¬ S.Z a := fun z => G.ntup st S H a xs w.r z h
theorem Wd.fresh {G : SS} {S : Wl} {H : Hp} {st : G.T} (w : Wd G S H st) {a : Addr} (h : H a = none) : ¬ S.Z a := fun z => G.live st S H a w.r z h
/-- a new object -/
theorem Ext.laid {G : SS} {S : Wl} {H : Hp} {p : Addr} {o : HO} (h : H p = none) : Ext G S H S (upd H p o) :=
  ⟨fun _ h => h, fun _ h => .inl h, fun a u e _ => by rw [upd_ne (ne_of_none e h)]; exact e, fun a e => by
    by_cases q : a = p
    · rw [q]; exact h
    · rw [upd_ne q] at e; exact e, fun _ h => .inl h, rfl⟩
theorem Wd.laid {G : SS} {S : Wl} {H : Hp} {st : G.T} {p : Addr} {o : HO} (w : Wd G S H st) (h : H p = none) : Wd G S (upd H p o) st :=
  ⟨G.stab st S H S _ w.r rfl rfl (fun _ z => z) (fun a z => upd_ne fun e => w.fresh h (e ▸ z)) (fun a u _ e => by rw [upd_ne (ne_of_none e h)]; exact e) (fun a xs e => by rw [upd_ne (ne_of_none e h)]; exact e), w.dis, fun a z => by
    by_cases q : a = p
    · rw [q, upd_same]; exact fun z => nomatch z
    · rw [upd_ne q]; exact w.dom a z⟩
theorem Wd.nS {G : SS} {S : Wl} {H : Hp} {st : G.T} (w : Wd G S H st) {a : Addr} (h : H a = none) : ¬ S a := fun z => w.dom a z h
/-- a fresh address becomes part of the plain data -/
def addS (S : Wl) (p : Addr) : Wl := { S with P := fun a => S a ∨ a = p }
theorem Ext.addS {G : SS} {S : Wl} {H H' : Hp} {S' : Wl} {p : Addr} (x : Ext G S H S' H') (h : H p = none) : Ext G S H (addS S' p) H' :=
  ⟨fun a z => .inl (x.sub a z), fun a z => z.elim (x.new a) fun e => .inr (e ▸ h), x.keep, x.kn, x.zn, x.xs⟩
theorem Wd.addS {G : SS} {S : Wl} {H : Hp} {st : G.T} {p : Addr} (w : Wd G S H st) (h : ¬ S.Z p) (hp : H p ≠ none) : Wd G (addS S p) H st :=
  ⟨G.stab st S H (MR.addS S p) H w.r rfl rfl (fun _ z => .inl z) (fun _ _ => rfl) (fun _ _ _ e => e) (fun _ _ e => e), fun a z => z.elim (w.dis a) fun e => e ▸ h, fun a z => z.elim (w.dom a) fun e => e ▸ hp⟩
section
variable {G : SS} {S S' : Wl} {H H' : Hp} {st : G.T}
mutual
theorem Rep.mono (hs : ∀ a, S a → S' a) (hX : S'.X = S.X) (hl : ∀ a o, S a → H a = some o → H' a = some o) (ht : ∀ a xs, H a = some (.tup xs) → H' a = some (.tup xs)) : ∀ (d : D) (v : V), Rep S H v d → Rep S' H' v d
  | .none, _, h => by cases h; exact .non
  | .bool b, _, h => by cases h; exact .bl b
  | .int b, _, h => by cases h; exact .int b
  | .str b, _, h => by cases h; exact .str b
  | .list ds, _, h => by
    cases h with
    | lst a b c => exact .lst (hs _ a) (hl _ _ a b) (Reps.mono hs hX hl ht ds _ c)
  | .tuple ds, _, h => by
    cases h with
    | tup b c => exact .tup (ht _ _ b) (Reps.mono hs hX hl ht ds _ c)
  | .dict kvs, _, h => by
    cases h with
    | tok a => exact .tok a
    | exc c a b => exact .exc c (hs _ a) (by rw [hX]; exact hl _ _ a b)
theorem Reps.mono (hs : ∀ a, S a → S' a) (hX : S'.X = S.X) (hl : ∀ a o, S a → H a = some o → H' a = some o) (ht : ∀ a xs, H a = some (.tup xs) → H' a = some (.tup xs)) : ∀ (ds : List D) (vs : List V), Reps S H vs ds → Reps S' H' vs ds
  | [], _, h => by cases h; exact .nil
  | d :: ds, _, h => by
    cases h with
    | cons a b => exact .cons (Rep.mono hs hX hl ht d _ a) (Reps.mono hs hX hl ht ds _ b)
end
theorem Rep.ext {v : V} {d : D} (w : Wd G S H st) (x : Ext G S H S' H') (h : Rep S H v d) : Rep S' H' v d :=
  Rep.mono x.sub x.xs (fun a o s e => x.keep a _ e (w.dis a s)) (fun a xs e => x.keep a _ e (w.ntup e)) d v h
theorem Reps.ext {v : List V} {d : List D} (w : Wd G S H st) (x : Ext G S H S' H') (h : Reps S H v d) : Reps S' H' v d :=
  Reps.mono x.sub x.xs (fun a o s e => x.keep a _ e (w.dis a s)) (fun a xs e => x.keep a _ e (w.ntup e)) d v h
theorem Reps.length : ∀ {vs : List V} {ds : List D}, Reps S H vs ds → vs.length = ds.length
  | _, [], h => by cases h; rfl
  | _, _ :: ds, h => by
    cases h with
    | cons a b => simp only [List.length_cons, Reps.length b]
theorem Reps.append : ∀ {vs us : List V} {ds es : List D}, Reps S H vs ds → Reps S H us es → Reps S H (vs ++ us) (ds ++ es)
  | _, _, [], _, h, k => by cases h; exact k
  | _, _, _ :: ds, _, h, k => by
    cases h with
    | cons a b => exact .cons a (Reps.append b k)
theorem Reps.take : ∀ {vs : List V} {ds : List D} (n : Nat), Reps S H vs ds → Reps S H (vs.take n) (ds.take n)
  | _, _, 0, _ => .nil
  | _, [], _ + 1, h => by cases h; exact .nil
  | _, _ :: ds, n + 1, h => by
    cases h with
    | cons a b => exact .cons a (Reps.take n b)
theorem Reps.drop : ∀ {vs : List V} {ds : List D} (n : Nat), Reps S H vs ds → Reps S H (vs.drop n) (ds.drop n)
  | _, _, 0, h => h
  | _, [], _ + 1, h => by cases h; exact .nil
  | _, _ :: ds, n + 1, h => by
    cases h with
    | cons a b => exact Reps.drop n b
theorem Reps.reverse : ∀ {vs : List V} {ds : List D}, Reps S H vs ds → Reps S H vs.reverse ds.reverse
  | _, [], h => by cases h; exact .nil
  | _, d :: ds, h => by
    cases h with
    | cons a b =>
      rw [List.reverse_cons, List.reverse_cons]
      exact (Reps.reverse b).append (.cons a .nil)
theorem Reps.flat : ∀ {vs : List V} {ds : List D} (n : Nat), Reps S H vs ds → Reps S H (List.replicate n vs).flatten (List.replicate n ds).flatten
  | _, _, 0, _ => .nil
  | _, _, n + 1, h => by
    rw [List.replicate_succ, List.replicate_succ, List.flatten_cons, List.flatten_cons]
    exact h.append (Reps.flat n h)
theorem Reps.get : ∀ {vs : List V} {ds : List D} {i : Nat} {d : D}, Reps S H vs ds → ds[i]? = some d → ∃ v, vs[i]? = some v ∧ Rep S H v d
  | _, [], _, _, h, e => by simp at e
  | _, _ :: ds, 0, _, h, e => by
    cases h with
    | cons a b =>
      simp at e
      subst e
      exact ⟨_, rfl, a⟩
  | _, _ :: ds, i + 1, d, h, e => by
    cases h with
    | cons a b =>
      obtain ⟨v, e1, e2⟩ := Reps.get (i := i) (d := d) b (by simpa using e)
      exact ⟨v, by simpa using e1, e2⟩
theorem Reps.get' : ∀ {vs : List V} {ds : List D} {i : Nat} {v : V}, Reps S H vs ds → vs[i]? = some v → ∃ d, ds[i]? = some d ∧ Rep S H v d
  | _, [], _, _, h, e => by cases h; simp at e
  | _, _ :: ds, 0, _, h, e => by
    cases h with
    | cons a b =>
      simp at e
      subst e
      exact ⟨_, rfl, a⟩
  | _, _ :: ds, i + 1, v, h, e => by
    cases h with
    | cons a b =>
      obtain ⟨d, e1, e2⟩ := Reps.get' (i := i) (v := v) b (by simpa using e)
      exact ⟨d, by simpa using e1, e2⟩
theorem Reps.set : ∀ {vs : List V} {ds : List D} {v : V} {d : D} (i : Nat), Reps S H vs ds → Rep S H v d → Reps S H (vs.set i v) (ds.set i d)
  | _, [], _, _, _, h, _ => by cases h; exact .nil
  | _, _ :: ds, _, _, 0, h, r => by
    cases h with
    | cons a b => exact .cons r b
  | _, _ :: ds, _, _, i + 1, h, r => by
    cases h with
    | cons a b => exact .cons a (Reps.set i b r)
theorem Reps.ints : ∀ {vs : List V} {xs : List Int}, Reps S H vs (xs.map PyData.int) → vs = xs.map V.int
  | _, [], h => by cases h; rfl
  | _, _ :: xs, h => by
    cases h with
    | cons a b =>
      cases a
      rw [Reps.ints b]
      rfl
theorem Reps.bools : ∀ {vs : List V} {xs : List Bool}, Reps S H vs (xs.map PyData.bool) → vs = xs.map V.bl
  | _, [], h => by cases h; rfl
  | _, _ :: xs, h => by
    cases h with
    | cons a b =>
      cases a
      rw [Reps.bools b]
      rfl
theorem Reps.strs : ∀ {vs : List V} {xs : List Str}, Reps S H vs (xs.map PyData.str) → vs = xs.map V.str
  | _, [], h => by cases h; rfl
  | _, _ :: xs, h => by
    cases h with
    | cons a b =>
      cases a
      rw [Reps.strs b]
      rfl
theorem Reps.ofInts : ∀ {xs : List Int}, Reps S H (xs.map V.int) (xs.map PyData.int)
  | [] => .nil
  | x :: _ => .cons (.int x) Reps.ofInts
mutual
theorem Rep.dp {K : PySem.W.Frag} : ∀ (n : Nat) (d : D) (v : V), lvl n d = true → Rep S H v d → Dp K H v d
  | _, .none, _, _, h => by cases h; exact .non
  | _, .bool b, _, _, h => by cases h; exact .bl b
  | _, .int b, _, _, h => by cases h; exact .int b
  | _, .str b, _, _, h => by cases h; exact .str b
  | n, .list ds, _, l, h => by
    cases h with
    | lst a b c =>
      cases n with
      | zero => cases l
      | succ n => exact .lst (.inl (.inl b)) (Reps.dp n ds _ l c)
  | n, .tuple ds, _, l, h => by
    cases h with
    | tup b c =>
      cases n with
      | zero => cases l
      | succ n => exact .tup (.inl (.inl b)) (Reps.dp n ds _ l c)
  | n, .dict kvs, _, l, h => by cases n <;> cases l
theorem Reps.dp {K : PySem.W.Frag} : ∀ (n : Nat) (ds : List D) (vs : List V), ds.all (lvl n) = true → Reps S H vs ds → DpAll K H vs ds
  | _, [], _, _, h => by cases h; exact .nil
  | n, d :: ds, _, l, h => by
    rw [List.all_cons, Bool.and_eq_true] at l
    cases h with
    | cons a b => exact .cons (Rep.dp n d _ l.1 a) (Reps.dp n ds _ l.2 b)
end
end
/-- a value to be read: plain data, or a list of this frame's own -/
def RepB (G : SS) (b : Bool) (S : Wl) (H : Hp) (v : V) (d : D) : Prop :=
  Rep S H v d ∨ (b = true ∧ ∃ a xs ds, v = .ref a ∧ d = .list ds ∧ ¬ S.Z a ∧ H a = some (.lst xs) ∧ Reps S H xs ds)
section
variable {G : SS} {S S' : Wl} {H H' : Hp} {st : G.T} {b : Bool} {v : V} {d : D}
theorem RepB.rep (h : RepB G false S H v d) : Rep S H v d := h.elim id fun z => nomatch z.1
theorem RepB.ext (w : Wd G S H st) (x : Ext G S H S' H') (h : RepB G b S H v d) : RepB G b S' H' v d := by
  rcases h with h | ⟨e, a, xs, ds, e1, e2, z, h1, h2⟩
  · exact .inl (h.ext w x)
  · exact .inr ⟨e, a, xs, ds, e1, e2, x.nz h1 z, x.keep a _ h1 z, h2.ext w x⟩
/-- a list to be read -/
theorem RepB.list {ds : List D} (h : RepB G b S H v (.list ds)) : ∃ a xs, v = .ref a ∧ H a = some (.lst xs) ∧ Reps S H xs ds := by
  rcases h with h | ⟨_, a, xs, es, e1, e2, z, h1, h2⟩
  · cases h with
    | lst s e r => exact ⟨_, _, rfl, e, r⟩
  · cases e2
    exact ⟨a, xs, e1, h1, h2⟩
theorem RepB.tuple {ds : List D} (h : RepB G b S H v (.tuple ds)) : ∃ a xs, v = .ref a ∧ H a = some (.tup xs) ∧ Reps S H xs ds := by
  rcases h with h | ⟨_, a, xs, es, e1, e2, z, h1, h2⟩
  · cases h with
    | tup e r => exact ⟨_, _, rfl, e, r⟩
  · cases e2
theorem RepB.int {i : Int} (h : RepB G b S H v (.int i)) : v = .int i := by
  rcases h with h | ⟨_, a, xs, es, e1, e2, z, h1, h2⟩
  · cases h; rfl
  · cases e2
theorem RepB.bool {i : Bool} (h : RepB G b S H v (.bool i)) : v = .bl i := by
  rcases h with h | ⟨_, a, xs, es, e1, e2, z, h1, h2⟩
  · cases h; rfl
  · cases e2
theorem RepB.str {i : Str} (h : RepB G b S H v (.str i)) : v = .str i := by
  rcases h with h | ⟨_, a, xs, es, e1, e2, z, h1, h2⟩
  · cases h; rfl
  · cases e2
theorem RepB.non (h : RepB G b S H v .none) : v = .non := by
  rcases h with h | ⟨_, a, xs, es, e1, e2, z, h1, h2⟩
  · cases h; rfl
  · cases e2
theorem RepB.dp {K : PySem.W.Frag} (hd : okD d = true) (h : RepB G b S H v d) : Dp K H v d := by
  rcases h with h | ⟨_, a, xs, es, e1, e2, z, h1, h2⟩
  · exact Rep.dp 5 d v hd h
  · subst e1 e2
    exact .lst (.inl (.inl h1)) (Reps.dp 4 es xs hd h2)
end
inductive RepBs (G : SS) (b : Bool) (S : Wl) (H : Hp) : List V → List D → Prop
  | nil : RepBs G b S H [] []
  | cons {v : V} {vs : List V} {d : D} {ds : List D} : RepB G b S H v d → RepBs G b S H vs ds → RepBs G b S H (v :: vs) (d :: ds)
theorem RepBs.reps {G : SS} {S : Wl} {H : Hp} : ∀ {vs : List V} {ds : List D}, RepBs G false S H vs ds → Reps S H vs ds
  | _, _, .nil => .nil
  | _, _, .cons a b => .cons a.rep (RepBs.reps b)
theorem RepBs.length {G : SS} {b : Bool} {S : Wl} {H : Hp} : ∀ {vs : List V} {ds : List D}, RepBs G b S H vs ds → vs.length = ds.length
  | _, _, .nil => rfl
  | _, _, .cons _ b => by simp only [List.length_cons, RepBs.length b]
theorem RepBs.ext {G : SS} {b : Bool} {S S' : Wl} {H H' : Hp} {st : G.T} (w : Wd G S H st) (x : Ext G S H S' H') : ∀ {vs : List V} {ds : List D}, RepBs G b S H vs ds → RepBs G b S' H' vs ds
  | _, _, .nil => .nil
  | _, _, .cons a b => .cons (a.ext w x) (RepBs.ext w x b)
/-! ### a frame's slots -/
structure Fm (G : SS) (H0 : Hp) (S : Wl) (H : Hp) (sg : L2.St) (r : MRho) : Prop where
  val : ∀ (i : Nat) d, r[i]? = some (.val d) → ∃ v, sg[i]? = some (some v) ∧ Rep S H v d
  own : ∀ (i : Nat) ds, r[i]? = some (.own ds) → ∃ a xs, sg[i]? = some (some (.ref a)) ∧ ¬ S a ∧ ¬ S.Z a ∧ H0 a = none ∧ H a = some (.lst xs) ∧ Reps S H xs ds
  inj : ∀ (i j : Nat) ds es a, r[i]? = some (.own ds) → r[j]? = some (.own es) → sg[i]? = some (some (.ref a)) → sg[j]? = some (some (.ref a)) → i = j
  len : r.length = sg.length
section
variable {G : SS} {S S' : Wl} {H0 H H' : Hp} {st : G.T} {sg : L2.St} {r : MRho}
theorem Fm.ext (e : Fm G H0 S H sg r) (w : Wd G S H st) (x : Ext G S H S' H') : Fm G H0 S' H' sg r := by
  refine ⟨fun i d h => ?_, fun i ds h => ?_, e.inj, e.len⟩
  · obtain ⟨v, a, b⟩ := e.val i d h
    exact ⟨v, a, b.ext w x⟩
  · obtain ⟨a, xs, h1, h2, h3, h4, h5, h6⟩ := e.own i ds h
    refine ⟨a, xs, h1, fun z => ?_, x.nz h5 h3, h4, x.keep a _ h5 h3, h6.ext w x⟩
    rcases x.new a z with q | q
    · exact h2 q
    · rw [h5] at q; cases q
theorem Fm.get {b : Bool} {i : Nat} {d : D} (e : Fm G H0 S H sg r) (h : getV b r i = some d) : ∃ v, sg[i]? = some (some v) ∧ RepB G b S H v d := by
  unfold getV at h
  split at h
  · rename_i d' q
    cases h
    obtain ⟨v, a, c⟩ := e.val i _ q
    exact ⟨v, a, .inl c⟩
  · rename_i ds q
    split at h
    · rename_i hb
      cases h
      obtain ⟨a, xs, h1, h2, h3, h4, h5, h6⟩ := e.own i _ q
      exact ⟨_, h1, .inr ⟨hb, a, xs, ds, rfl, rfl, h3, h5, h6⟩⟩
    · cases h
  · cases h
theorem Fm.set {i : Nat} {v : V} {d : D} (e : Fm G H0 S H sg r) (h : Rep S H v d) : Fm G H0 S H (sg.set i (some v)) (r.set i (.val d)) := by
  refine ⟨fun j d' q => ?_, fun j ds q => ?_, fun j k ds es a q1 q2 q3 q4 => ?_, by simpa using e.len⟩
  · by_cases hj : i = j
    · subst hj
      rw [List.getElem?_set] at q ⊢
      rw [← e.len]
      split at q
      · rename_i hh
        split at q
        · rename_i h2
          cases q
          rw [if_pos rfl, if_pos h2]
          exact ⟨v, rfl, h⟩
        · cases q
      · rename_i hh
        exact absurd rfl hh
    · rw [List.getElem?_set_ne hj] at q ⊢
      exact e.val j d' q
  · by_cases hj : i = j
    · subst hj
      rw [List.getElem?_set] at q
      split at q
      · split at q <;> cases q
      · rename_i hh
        exact absurd rfl hh
    · rw [List.getElem?_set_ne hj] at q ⊢
      exact e.own j ds q
  · have nj : ∀ (k : Nat) (es : List D), (r.set i (Slt.val d))[k]? = some (.own es) → i ≠ k ∧ r[k]? = some (.own es) := fun k es q => by
      by_cases hj : i = k
      · subst hj
        rw [List.getElem?_set] at q
        split at q
        · split at q <;> cases q
        · rename_i hh
          exact absurd rfl hh
      · rw [List.getElem?_set_ne hj] at q
        exact ⟨hj, q⟩
    obtain ⟨n1, q1⟩ := nj j ds q1
    obtain ⟨n2, q2⟩ := nj k es q2
    rw [List.getElem?_set_ne n1] at q3
    rw [List.getElem?_set_ne n2] at q4
    exact e.inj j k ds es a q1 q2 q3 q4
/-- a new list of the frame's own -/
theorem Fm.setOwn {i : Nat} {a : Addr} {xs : List V} {ds : List D} (e : Fm G H0 S H sg r) (h1 : ¬ S a) (h2 : ¬ S.Z a) (h3 : H0 a = none) (h4 : H a = some (.lst xs)) (h5 : Reps S H xs ds)
    (h6 : ∀ (j : Nat) es, r[j]? = some (.own es) → sg[j]? ≠ some (some (.ref a))) : Fm G H0 S H (sg.set i (some (.ref a))) (r.set i (.own ds)) := by
  have nj : ∀ (k : Nat) (s : Slt), (r.set i (Slt.own ds))[k]? = some s → (i = k ∧ s = .own ds ∧ k < r.length) ∨ (i ≠ k ∧ r[k]? = some s) := fun k s q => by
    by_cases hj : i = k
    · subst hj
      rw [List.getElem?_set] at q
      split at q
      · split at q
        · rename_i hk
          cases q
          exact .inl ⟨rfl, rfl, hk⟩
        · cases q
      · rename_i hh
        exact absurd rfl hh
    · rw [List.getElem?_set_ne hj] at q
      exact .inr ⟨hj, q⟩
  refine ⟨fun j d' q => ?_, fun j es q => ?_, fun j k es fs b q1 q2 q3 q4 => ?_, by simpa using e.len⟩
  · rcases nj j _ q with ⟨_, z, _⟩ | ⟨hj, q⟩
    · cases z
    · rw [List.getElem?_set_ne hj]
      exact e.val j d' q
  · rcases nj j _ q with ⟨hj, z, hl⟩ | ⟨hj, q⟩
    · subst hj
      cases z
      rw [List.getElem?_set_self (by rw [← e.len]; exact hl)]
      exact ⟨a, xs, rfl, h1, h2, h3, h4, h5⟩
    · rw [List.getElem?_set_ne hj]
      exact e.own j es q
  · rcases nj j _ q1 with ⟨hj, z, hl⟩ | ⟨hj, q1⟩
    · rcases nj k _ q2 with ⟨hk, _, _⟩ | ⟨hk, q2⟩
      · exact hj.symm.trans hk
      · subst hj
        rw [List.getElem?_set_self (by rw [← e.len]; exact hl)] at q3
        rw [List.getElem?_set_ne hk] at q4
        cases q3
        exact absurd q4 (h6 k _ q2)
    · rcases nj k _ q2 with ⟨hk, _, hl⟩ | ⟨hk, q2⟩
      · subst hk
        rw [List.getElem?_set_self (by rw [← e.len]; exact hl)] at q4
        rw [List.getElem?_set_ne hj] at q3
        cases q4
        exact absurd q3 (h6 j _ q1)
      · rw [List.getElem?_set_ne hj] at q3
        rw [List.getElem?_set_ne hk] at q4
        exact e.inj j k es fs b q1 q2 q3 q4
theorem Fm.un {i : Nat} {x : Option V} (e : Fm G H0 S H sg r) : Fm G H0 S H (sg.set i x) (r.set i .un) := by
  have nj : ∀ (k : Nat) (s : Slt), s ≠ .un → (r.set i Slt.un)[k]? = some s → (i ≠ k ∧ r[k]? = some s) := fun k s hs q => by
    by_cases hj : i = k
    · subst hj
      rw [List.getElem?_set] at q
      split at q
      · split at q
        · cases q; exact absurd rfl hs
        · cases q
      · rename_i hh
        exact absurd rfl hh
    · rw [List.getElem?_set_ne hj] at q
      exact ⟨hj, q⟩
  refine ⟨fun j d' q => ?_, fun j es q => ?_, fun j k es fs b q1 q2 q3 q4 => ?_, by simpa using e.len⟩
  · obtain ⟨hj, q⟩ := nj j (.val d') (fun z => nomatch z) q
    rw [List.getElem?_set_ne hj]
    exact e.val j d' q
  · obtain ⟨hj, q⟩ := nj j (.own es) (fun z => nomatch z) q
    rw [List.getElem?_set_ne hj]
    exact e.own j es q
  · obtain ⟨hj, q1⟩ := nj j (.own es) (fun z => nomatch z) q1
    obtain ⟨hk, q2⟩ := nj k (.own fs) (fun z => nomatch z) q2
    rw [List.getElem?_set_ne hj] at q3
    rw [List.getElem?_set_ne hk] at q4
    exact e.inj j k es fs b q1 q2 q3 q4
theorem Fm.wipe (e : Fm G H0 S H sg r) : ∀ vs : List Nat, Fm G H0 S H (L2.wipe sg vs) (wipeR r vs)
  | [] => e
  | v :: vs => (e.wipe vs).un
end
/-- own lists become plain data -/
def frz (r : MRho) : List Nat → MRho
  | [] => r
  | i :: is => match r[i]? with
    | some (.own ds) => frz (r.set i (.val (.list ds))) is
    | _ => frz r is
theorem List.set_same {α : Type} : ∀ {l : List α} {i : Nat} {x : α}, l[i]? = some x → l.set i x = l
  | [], _, _, h => by simp at h
  | y :: r, 0, x, h => by simp at h; subst h; rfl
  | y :: r, i + 1, x, h => by
    have h' : r[i]? = some x := by simpa using h
    show y :: r.set i x = y :: r
    rw [List.set_same h']
theorem Fm.frz {G : SS} {H0 H : Hp} {st : G.T} {sg : L2.St} : ∀ (is : List Nat) {S : Wl} {r : MRho}, Fm G H0 S H sg r → Wd G S H st →
    ∃ S' : Wl, (∀ a, S a → S' a) ∧ (∀ a, S' a → S a ∨ H0 a = none) ∧ S'.Z = S.Z ∧ S'.X = S.X ∧ Wd G S' H st ∧ Fm G H0 S' H sg (MR.frz r is)
  | [], S, r, e, w => ⟨S, fun _ h => h, fun _ h => .inl h, rfl, rfl, w, e⟩
  | i :: is, S, r, e, w => by
    unfold MR.frz
    split
    · rename_i ds q
      obtain ⟨a, xs, h1, h2, h3, h4, h5, h6⟩ := e.own i ds q
      have hs : ∀ b, S b → addS S a b := fun b z => .inl z
      have m : ∀ {v : V} {d : D}, Rep S H v d → Rep (addS S a) H v d := fun h => Rep.mono hs rfl (fun _ _ _ h => h) (fun _ _ h => h) _ _ h
      have ms : ∀ {v : List V} {d : List D}, Reps S H v d → Reps (addS S a) H v d := fun h => Reps.mono hs rfl (fun _ _ _ h => h) (fun _ _ h => h) _ _ h
      have nj : ∀ (k : Nat) (es : List D), (r.set i (Slt.val (.list ds)))[k]? = some (.own es) → i ≠ k ∧ r[k]? = some (.own es) := fun k es q => by
        by_cases hj : i = k
        · subst hj
          rw [List.getElem?_set] at q
          split at q
          · split at q <;> cases q
          · rename_i hh
            exact absurd rfl hh
        · rw [List.getElem?_set_ne hj] at q
          exact ⟨hj, q⟩
      have e' : Fm G H0 (addS S a) H sg (r.set i (.val (.list ds))) := by
        refine ⟨fun j d q' => ?_, fun j es q' => ?_, fun j k es fs b q1 q2 q3 q4 => ?_, by simpa using e.len⟩
        · by_cases hj : i = j
          · subst hj
            rw [List.getElem?_set] at q'
            split at q'
            · split at q'
              · cases q'
                exact ⟨_, h1, .lst (.inr rfl) h5 (ms h6)⟩
              · cases q'
            · rename_i hh
              exact absurd rfl hh
          · rw [List.getElem?_set_ne hj] at q'
            obtain ⟨v, b, c⟩ := e.val j d q'
            exact ⟨v, b, m c⟩
        · obtain ⟨hj, q'⟩ := nj j es q'
          obtain ⟨b, ys, k1, k2, k3, k4, k5, k6⟩ := e.own j es q'
          refine ⟨b, ys, k1, fun z => ?_, k3, k4, k5, ms k6⟩
          rcases z with z | z
          · exact k2 z
          · subst z
            exact hj (e.inj i j ds es b q q' h1 k1)
        · obtain ⟨hj, q1⟩ := nj j es q1
          obtain ⟨hk, q2⟩ := nj k fs q2
          exact e.inj j k es fs b q1 q2 q3 q4
      obtain ⟨S', t1, t2, tz, tx, t3, t4⟩ := Fm.frz is e' (w.addS h3 (by rw [h5]; exact fun z => nomatch z))
      refine ⟨S', fun b z => t1 b (.inl z), fun b z => ?_, tz, tx, t3, t4⟩
      rcases t2 b z with (z | z) | z
      · exact .inl z
      · subst z; exact .inr h4
      · exact .inr z
    · exact Fm.frz is e w
end MR

/-! ### rules that HandS lacks: sorted of a tuple of ints, in of a tuple -/
namespace SrtO
open PySem PyProof.Rows Srt
section
variable {prog : Program} {w : World} {A : Around} {E : Value → Shared → Prop} {s : Shared}
theorem collectT {t : Addr} {vs : List Value} {Q : List Value → Shared → Prop} {o : Obj} {n : Nat} (ho : s.heap.get? t = some o) (hc : o.cls = .type "tuple") (hd : o.data = .seq vs.toArray n) (hsz : vs.length ≤ sizeLine)
    (h : Q vs { s with heap := (s.heap.push (seqObj "list" #[] 0)).update s.heap.objs.size (Obj.mapSeq (· ++ vs.toArray)) }) : wpAny (model prog w) A (collect (.ref t)) Q E s := by
  have ho2 : (s.heap.push (seqObj "list" #[] 0)).get? t = some o := Heap.get?_push_of_some _ ho
  unfold collect
  refine wpAny_bind (wpAny_runValue (codeAny_builtin entry_proto_collect' (show wpAny _ _ (do again (.builtin "list.__iadd__" ⟨[← newList [], .ref t], []⟩)) _ _ s from
    wpAny_bind (wpAny_newList (wpAny_pure ⟨Code.quiet_builtin _ (by decide +kernel), codeAny_builtin entry_list_iadd' ?_⟩)))))
  show wpAny _ _ (Builtin.List.listExtendWith (.ref s.heap.objs.size) (.ref t) (.ref s.heap.objs.size)) _ _ { s with heap := s.heap.push (seqObj "list" #[] 0) }
  unfold Builtin.List.listExtendWith
  refine wpAny_bind (wpAny_typeOf (T := "tuple") ⟨o, ho2, hc⟩ ?_)
  rw [if_pos (by rw [show (Value.type "tuple" == Value.type "tuple") = true by rfl]; simp)]
  refine wpAny_bind (listItems_at ho2 hd (wpAny_bind (listItems_at (xs := #[]) (n := 0) (Heap.get?_push_size _ rfl) rfl ?_)))
  rw [if_neg (by simp)]
  refine wpAny_bind (listUpdate_at (xs := #[]) (n := 0) (Heap.get?_push_size _ rfl) rfl (wpAny_pure ?_) (Nat.zero_le _) (by simp only [Array.size_append, List.size_toArray, List.length_nil]; omega))
  show wpAny (model prog w) A (load s.heap.objs.size >>= fun o => match o.data with
    | .seq xs _ => pure xs.toList
    | _ => unsupported "internal:collect") Q E { s with heap := (s.heap.push (seqObj "list" #[] 0)).update s.heap.objs.size (Obj.mapSeq (· ++ vs.toArray)) }
  refine wpAny_bind (wpAny_load (get?_update_seq (Heap.get?_push_size _ rfl) _) (show wpAny _ _ (pure ((#[] : Array Value) ++ vs.toArray).toList) Q E _ from ?_))
  rw [show ((#[] : Array Value) ++ vs.toArray).toList = vs by simp]
  exact wpAny_pure h
theorem sortedT {t : Addr} {vs : List Value} {ltv : Value → Value → Bool} {Q : Value → Shared → Prop} {o : Obj} {n : Nat} (O : Swo ltv) (ho : s.heap.get? t = some o) (hc : o.cls = .type "tuple") (hd : o.data = .seq vs.toArray n) (hz : vs.length ≤ sizeLine)
    (hS : 2 ≤ vs.length → ∀ (g : Heap) (a : Addr), g.get? a = some (seqObj "list" vs.toArray 0) → (∀ b u, s.heap.get? b = some u → b ≠ a ∧ g.get? b = some u) → SortableO prog w A.in1.in1 { s with heap := g } a vs ltv)
    (h : ∀ out : List Value, Srtd ltv out → Stb ltv out vs → Q (.ref (s.heap.objs.size + 1)) { s with heap := sortedAll s.heap vs out.toArray }) : wpAny (model prog w) A (call (.builtin "sorted") [.ref t]) Q E s := by
  refine Calls.call_function_entry kind_sorted plain_sorted entry_sorted (args_sorted1 _) ?_
  unfold Builtin.«sorted»
  refine wpAny_bind (m := checkCount "sorted" 1 1 _) (wpAny_pure (wpAny_bind (collectT ho hc hd hz (wpAny_bind (wpAny_newList ?_ hz)))))
  have hs1 : ((s.heap.push (seqObj "list" #[] 0)).update s.heap.objs.size (Obj.mapSeq (· ++ vs.toArray))).objs.size = s.heap.objs.size + 1 := Eq.trans (Heap.size_update ..) (size_push' ..)
  have at1 : (((s.heap.push (seqObj "list" #[] 0)).update s.heap.objs.size (Obj.mapSeq (· ++ vs.toArray))).push (seqObj "list" vs.toArray 0)).get? (s.heap.objs.size + 1) = some (seqObj "list" vs.toArray 0) := by
    conv => lhs; rw [← hs1]
    exact Heap.get?_push_size _ rfl
  have old : ∀ b u, s.heap.get? b = some u → b ≠ s.heap.objs.size + 1 ∧ (((s.heap.push (seqObj "list" #[] 0)).update s.heap.objs.size (Obj.mapSeq (· ++ vs.toArray))).push (seqObj "list" vs.toArray 0)).get? b = some u := fun b u q => by
    have hb := Heap.lt_size q
    exact ⟨Nat.ne_of_lt (Nat.lt_succ_of_lt hb), Heap.get?_push_of_some _ (by rw [Heap.get?_update_ne _ _ _ _ (Nat.ne_of_lt hb)]; exact Heap.get?_push_of_some _ q)⟩
  show wpAny _ _ _ _ _ { s with heap := ((s.heap.push (seqObj "list" #[] 0)).update s.heap.objs.size (Obj.mapSeq (· ++ vs.toArray))).push (seqObj "list" vs.toArray 0) }
  rw [hs1]
  exact wpAny_bind (wpAny_holding (wpAny_call_entry slot_list_sort ⟨_, at1, rfl⟩ entry_list_sort (list_sort_ord O at1 hz (fun h2 => hS h2 _ _ at1 old) fun out h1 h2 => ⟨_, rfl, wpAny_pure ⟨_, rfl, h out h1 h2⟩⟩) (args_list_sort _)))
end
end SrtO
namespace MR
open PySem PySem.Spec PyProof.Rows L2
section
variable {X : Cx}
theorem cr_sortedTup : CallR X (.builtin "sorted") (fun vs H Q => ∃ (a : Addr) (ns : List Int), vs = [V.ref a] ∧ H a = some (.tup (ns.map V.int)) ∧ ∀ (ms : List Int) (p : Addr), ms.Perm ns → ms.Pairwise (· ≤ ·) → H p = none → Q (.ref p) (upd H p (.lst (ms.map V.int)))) := by
  intro pins s sg H vs us Q I r h
  obtain ⟨a, ns, rfl, hs, q⟩ := h
  obtain ⟨its, rv, ⟨o, ho, hc, n, hd⟩, hz⟩ := I.tuple (.inl (.inl hs))
  rw [Vals.ref1 r]
  have hi := rv.ints
  refine SrtO.sortedT SrtO.swo_int ho hc hd (by rw [← rv.length]; exact hz) (fun h2 g a' _ _ => SrtO.ints_sortable hi h2) fun out h1 h2 => ?_
  obtain ⟨k1, k2, k3⟩ := SrtO.ints_out hi h1 h2
  obtain ⟨ep, hq⟩ := PyProof.Rows.sortedAll_at s.heap its out.toArray
  have hlen : ((out.map SrtO.iv).map V.int).length ≤ sizeLine := by
    have e := k2.length_eq
    rw [List.length_map] at hz ⊢
    omega
  exact ⟨.ref _, upd H (s.heap.objs.size + 1) (.lst ((out.map SrtO.iv).map V.int)), I.laid (t' := s.toks) (fun _ _ => PyProof.Rows.sortedAll_old) (Nat.le_succ _) ⟨hlen, out, ep, vals_of_ints k1, hq⟩, rfl, q _ _ k2 k3 (I.hok.fresh (Nat.le_succ _))⟩
theorem op_inTup (hu : X.A.units + 65 < cLine) : OpR X (compareOp .In) (fun x y H Q => ∃ (d : D) (ds : List D), Dp X.K H x d ∧ Dp X.K H y (.tuple ds) ∧ SeqAt.shaped d = true ∧ SeqAt.shaped (.tuple ds) = true ∧ Q (.bl (ds.any fun z => PyData.eqv z d)) H) := by
  intro pins s sg H x y v u Q I rx ry h
  obtain ⟨d, ds, hd, he, sd, se, q⟩ := h
  obtain ⟨as, r1⟩ := Dp.reads I d x v hd rx
  obtain ⟨bs, r2⟩ := Dp.reads I (.tuple ds) y u he ry
  exact SeqAt.in_tuple_reads r2 r1 (SeqAt.canLay_of_shaped se) (SeqAt.canLay_of_shaped sd) (room_in_shaped sd hu) ⟨.bl _, H, I, rfl, q⟩
theorem op_notInTup (hu : X.A.units + 65 < cLine) : OpR X (compareOp .NotIn) (fun x y H Q => ∃ (d : D) (ds : List D), Dp X.K H x d ∧ Dp X.K H y (.tuple ds) ∧ SeqAt.shaped d = true ∧ SeqAt.shaped (.tuple ds) = true ∧ Q (.bl (!ds.any fun z => PyData.eqv z d)) H) := by
  intro pins s sg H x y v u Q I rx ry h
  obtain ⟨d, ds, hd, he, sd, se, q⟩ := h
  obtain ⟨as, r1⟩ := Dp.reads I d x v hd rx
  obtain ⟨bs, r2⟩ := Dp.reads I (.tuple ds) y u he ry
  exact SeqAt.notIn_tuple_reads r2 r1 (SeqAt.canLay_of_shaped se) (SeqAt.canLay_of_shaped sd) (room_in_shaped sd hu) ⟨.bl _, H, I, rfl, q⟩
end
end MR

/-! ### rules that HandS lacks: list.count of data, isinstance of an exception that is held -/
namespace MR
open PySem PySem.Spec PyProof.Rows L2
section
variable {X : Cx}
theorem mt_countD (hu : X.A.units + 65 < cLine) : MtR X "list.count" (fun x xs H Q => ∃ (a : Addr) (y : V) (d : D) (ds : List D), x = V.ref a ∧ xs = [y] ∧ Dp X.K H (V.ref a) (.list ds) ∧ Dp X.K H y d ∧ SeqAt.shaped (.list ds) = true ∧ SeqAt.shaped d = true ∧ Q (.int ((ds.countP fun z => PyData.eqv z d : Nat) : Int)) H) := by
  intro pins s sg H x xs v us Q I rx rxs h
  obtain ⟨a, y, d, ds, rfl, rfl, hl, hy, sl, sd, q⟩ := h
  cases rx
  obtain ⟨uy, rfl, ry⟩ := rxs.one
  obtain ⟨bs, r1⟩ := Dp.reads I d y uy hy ry
  have lay := SeqAt.canLay_of_shaped sl
  cases hl with
  | lst hs ha =>
    obtain ⟨its, rv, ⟨⟨cls, dd, data, sls⟩, n, ho, hc, hdn, hdt⟩, hlen⟩ := I.list hs
    dsimp only at hc hdt
    subst hc hdt
    obtain ⟨as, h4⟩ := Dp.readsAll I ds _ its ha rv
    have hmap : its.map (SeqAt.readOf s.heap) = ds := SeqAt.readsAll_map ds its as lay h4
    refine call_meets PySem.F.slot_list_count ⟨_, ho, rfl⟩ PySem.F.entry_list_count (PySem.F.args_list_count_2 _ _) (SeqAt.list_countAt a its.toArray n dd sls uy (fun u => PyData.eqv (SeqAt.readOf s.heap u) d))
      ⟨ho, SeqAt.items_eqAt (vs := its.toArray) (show ReadsAll s.heap its.toArray.toList ds as from h4) r1 lay (SeqAt.canLay_of_shaped sd) (room_in_shaped sd hu), ?_⟩
    have ec : its.toArray.toList.countP (fun u => PyData.eqv (SeqAt.readOf s.heap u) d) = ds.countP fun z => PyData.eqv z d := by
      rw [← hmap, List.countP_map]
      rfl
    refine ⟨.int ((ds.countP fun z => PyData.eqv z d : Nat) : Int), H, I.tok _, ⟨s.toks, ?_⟩, q⟩
    show Value.int ((its.toArray.toList.countP (fun u => PyData.eqv (SeqAt.readOf s.heap u) d) : Nat) : Int) s.toks = _
    rw [ec]
theorem bR_isxV : CallR X (.builtin "isinstance") (fun xs H Q => ∃ (a C : Addr) (c : V) (cv : Value) (b : Bool), xs = [.ref a, c] ∧ H a = some (ExV C a) ∧ (∀ u, RelV c u → u = cv) ∧ ExcC X.K C ∧ PySem.W.kitOne X.K (.ref C) cv = some b ∧ Q (.bl b) H) := by
  intro pins s sg H xs us Q I r h
  obtain ⟨a, D, c, cv, b, rfl, ha, hcv, C, e, q⟩ := h
  cases r with
  | cons rx rr =>
    cases rr with
    | cons rt rr =>
      cases rr
      cases rx
      have ec := hcv _ rt
      subst ec
      obtain ⟨⟨oe, vs, hg, hz, hv⟩, _⟩ := I.hok a _ ha
      have J : PySem.W.InstAt s.heap a oe D none := by
        obtain ⟨oc, od, oda, osl⟩ := oe
        obtain ⟨h1, h2⟩ := hz
        dsimp only at h1 h2 hv
        subst h1 h2 hv
        exact ⟨hg, rfl, rfl, trivial⟩
      exact PySem.W.kia_one (PySem.W.handS_kitx_exc C.hg C.hk C.hs C.hd C.ha C.hn C.ht C.hm) I.kIn J e (fun z => nomatch z) fun tk => ⟨.bl b, H, I.kept (t' := tk) fun _ _ z => z, rfl, q⟩
end
end MR

namespace MR
open PySem PySem.Spec PyProof.Rows L2
/-! ### what comes of a reckoning -/
abbrev Ef : XK := fun _ _ _ => False
def Out (G : SS) (E : XK) (xc : Nat → Value) (S : Wl) (H : Hp) {A : Type} (r : Rs G.T A) (P : A → Wl → Hp → G.T → Prop) : Prop := match r with
  | .ok a st => ∀ S' H', Ext G S H S' H' → Wd G S' H' st → P a S' H' st
  | .exc c st => ∀ S' H', Ext G S H S' H' → Wd G S' H' st → E (xc c) none H'
  | .stuck => False
section
variable {G : SS} {E : XK} {xc : Nat → Value} {S S' : Wl} {H H' : Hp} {A B : Type}
theorem Out.ext {r : Rs G.T A} {P : A → Wl → Hp → G.T → Prop} (h : Out G E xc S H r P) (x : Ext G S H S' H') : Out G E xc S' H' r P := by
  cases r with
  | ok a st => exact fun S2 H2 y w => h S2 H2 (x.trans y) w
  | exc c st => exact fun S2 H2 y w => h S2 H2 (x.trans y) w
  | stuck => exact h
theorem Out.imp {r : Rs G.T A} {P Q : A → Wl → Hp → G.T → Prop} (h : Out G E xc S H r P) (f : ∀ a S' H' st, Ext G S H S' H' → Wd G S' H' st → P a S' H' st → Q a S' H' st) : Out G E xc S H r Q := by
  cases r with
  | ok a st => exact fun S2 H2 y w => f a S2 H2 st y w (h S2 H2 y w)
  | exc c st => exact h
  | stuck => exact h
theorem Out.bind {r : Rs G.T A} {f : A → G.T → Rs G.T B} {P : B → Wl → Hp → G.T → Prop} (h : Out G E xc S H (r.bind f) P) : Out G E xc S H r (fun a S1 H1 st => Out G E xc S1 H1 (f a st) P) := by
  cases r with
  | ok a st => exact fun S2 H2 y w => Out.ext (r := f a st) h y
  | exc c st => exact h
  | stuck => exact h
theorem Out.sw {E' : XK} {o : Option A} {st : G.T} {P : A → Wl → Hp → G.T → Prop} (h : Out G E xc S H (Rs.of o st) P) : Out G E' xc S H (Rs.of o st) P := by
  cases o with
  | none => exact h
  | some a => exact h
theorem Out.of {o : Option A} {st : G.T} {P : A → Wl → Hp → G.T → Prop} (h : Out G E xc S H (Rs.of o st) P) : ∃ a, o = some a ∧ Out G E xc S H (.ok a st) P := by
  cases o with
  | none => exact h.elim
  | some a => exact ⟨a, rfl, h⟩
end
/-- what is wanted of plain data that comes -/
abbrev Gets (Q : VK) : D → Wl → Hp → Unit → Prop := fun d S' H' _ => ∀ v, Rep S' H' v d → Q v H'
abbrev WantD (G : SS) (Q : VK) : D → Wl → Hp → G.T → Prop := fun d S' H' _ => ∀ v, Rep S' H' v d → Q v H'
abbrev WantB (G : SS) (b : Bool) (Q : VK) : D → Wl → Hp → G.T → Prop := fun d S' H' _ => ∀ v, RepB G b S' H' v d → Q v H'
section
variable {G : SS} {E : XK} {xc : Nat → Value} {S : Wl} {H : Hp} {st : G.T} {Q : VK} {v : V} {d : D}
theorem Out.here (h : Out G E xc S H (.ok d st) (WantD G Q)) (w : Wd G S H st) (r : Rep S H v d) : Q v H := h S H .refl w v r
theorem Out.newL {p : Addr} {xs : List V} {ds : List D} (h : Out G E xc S H (.ok (.list ds) st) (WantD G Q)) (w : Wd G S H st) (r : Reps S H xs ds) (hp : H p = none) : Q (.ref p) (upd H p (.lst xs)) := by
  have x : Ext G S H (addS S p) (upd H p (.lst xs)) := (Ext.laid hp).addS hp
  exact h _ _ x ((w.laid hp).addS (w.fresh hp) (by rw [upd_same]; exact fun z => nomatch z)) _ (.lst (.inr rfl) upd_same (r.ext w x))
theorem Out.newT {p : Addr} {xs : List V} {ds : List D} (h : Out G E xc S H (.ok (.tuple ds) st) (WantD G Q)) (w : Wd G S H st) (r : Reps S H xs ds) (hp : H p = none) : Q (.ref p) (upd H p (.tup xs)) := by
  have x : Ext G S H S (upd H p (.tup xs)) := Ext.laid hp
  exact h _ _ x (w.laid hp) _ (.tup upd_same (r.ext w x))
end
/-- an operator on plain data -/
def rD (G : SS) (E : XK) (xc : Nat → Value) (o : Bop) : R2 := fun x y H Q => ∃ S d e st, Wd G S H st ∧ RepB G true S H x d ∧ RepB G true S H y e ∧ Out G E xc S H (Rs.of (opD o d e) st) (WantD G Q)
theorem lim_size {n : Nat} (h : n ≤ LIM) : n ≤ sizeLine := by
  rw [sizeLine_eq]
  unfold LIM at h
  omega
section
variable {G : SS} {E : XK} {xc : Nat → Value} {X : Cx}
theorem opR_add : OpR X (binaryOp .Add) (rD G E xc .add) := by
  intro pins s sg H x y v u Q I rx ry ⟨S, d, e, st, w, hx, hy, h⟩
  obtain ⟨f, hf, h⟩ := h.of
  unfold opD at hf
  split at hf
  · cases hf
    cases hx.int
    cases hy.int
    exact op_add pins s sg H _ _ v u Q I rx ry ⟨_, _, rfl, rfl, h.here w (.int _)⟩
  · split at hf
    · rename_i hl
      cases hf
      obtain ⟨a, xs, rfl, ha, ra⟩ := hx.list
      obtain ⟨b, ys, rfl, hb, rb⟩ := hy.list
      refine op_cat pins s sg H _ _ v u Q I rx ry ⟨a, b, xs, ys, rfl, rfl, ha, hb, ?_, fun p hp => h.newL w (ra.append rb) hp⟩
      rw [ra.length, rb.length]
      exact lim_size hl
    · cases hf
  · split at hf
    · rename_i hl
      cases hf
      obtain ⟨a, xs, rfl, ha, ra⟩ := hx.tuple
      obtain ⟨b, ys, rfl, hb, rb⟩ := hy.tuple
      refine op_catA pins s sg H _ _ v u Q I rx ry ⟨a, b, xs, ys, rfl, rfl, .inl (.inl ha), .inl (.inl hb), ?_, fun e => ?_, fun _ e => ?_, fun _ _ p hp => h.newT w (ra.append rb) hp⟩
      · rw [ra.length, rb.length]
        exact lim_size hl
      · subst e
        cases ra
        exact h.here w (.tup hb rb)
      · subst e
        cases rb
        rw [List.append_nil] at h
        exact h.here w (.tup ha ra)
    · cases hf
  · split at hf
    · rename_i hl
      cases hf
      cases hx.str
      cases hy.str
      exact op_add_str pins s sg H _ _ v u Q I rx ry ⟨_, _, rfl, rfl, lim_size hl, h.here w (.str _)⟩
    · cases hf
  all_goals (first | (exfalso; rename_i q; cases q; done) | (cases hf))
theorem opR_sub : OpR X (binaryOp .Sub) (rD G E xc .sub) := by
  intro pins s sg H x y v u Q I rx ry ⟨S, d, e, st, w, hx, hy, h⟩
  obtain ⟨f, hf, h⟩ := h.of
  cases d <;> cases e <;> first | (cases hf; done) | skip
  cases hf
  cases hx.int
  cases hy.int
  exact op_sub pins s sg H _ _ v u Q I rx ry ⟨_, _, rfl, rfl, h.here w (.int _)⟩
theorem opR_mul : OpR X (binaryOp .Mult) (rD G E xc .mul) := by
  intro pins s sg H x y v u Q I rx ry ⟨S, d, e, st, w, hx, hy, h⟩
  obtain ⟨f, hf, h⟩ := h.of
  cases d <;> cases e <;> first | (cases hf; done) | skip
  · rename_i i j
    simp only [opD] at hf
    split at hf
    · rename_i hc
      cases hf
      cases hx.int
      cases hy.int
      refine op_mul pins s sg H _ _ v u Q I rx ry ⟨_, _, rfl, rfl, ?_, h.here w (.int _)⟩
      unfold CMul
      exact hc
    · cases hf
  · rename_i xs k
    simp only [opD] at hf
    split at hf
    · rename_i hc
      cases hf
      obtain ⟨a, us, rfl, ha, ra⟩ := hx.list
      cases hy.int
      refine op_rep pins s sg H _ _ v u Q I rx ry ⟨a, k, us, rfl, rfl, ha, by omega, by omega, ?_, fun p hp => h.newL w (ra.flat _) hp⟩
      rw [ra.length, sizeLine_eq]
      refine Nat.le_trans (Nat.mul_le_mul hc.1 (show k.toNat ≤ 1000 by omega)) (by decide)
    · cases hf
  · rename_i xs k
    simp only [opD] at hf
    split at hf
    · rename_i hc
      cases hf
      obtain ⟨a, us, rfl, ha, ra⟩ := hx.tuple
      cases hy.int
      have hl := ra.length
      refine op_repT pins s sg H _ _ v u Q I rx ry ⟨a, k, us, rfl, rfl, .inl (.inl ha), fun z => ?_, hc.2.2.1, hc.2.2.2, by omega, fun p hp => h.newT w (ra.flat _) hp⟩
      subst z
      cases ra
      exact hc.1 rfl
    · cases hf
theorem opR_fdiv : OpR X (binaryOp .FloorDiv) (rD G E xc .fdiv) := by
  intro pins s sg H x y v u Q I rx ry ⟨S, d, e, st, w, hx, hy, h⟩
  obtain ⟨f, hf, h⟩ := h.of
  cases d <;> cases e <;> first | (cases hf; done) | skip
  simp only [opD] at hf
  split at hf
  · rename_i hc
    cases hf
    cases hx.int
    cases hy.int
    exact op_fdiv pins s sg H _ _ v u Q I rx ry ⟨_, _, rfl, rfl, hc, h.here w (.int _)⟩
  · cases hf
theorem opR_mod : OpR X (binaryOp .Mod) (rD G E xc .mod) := by
  intro pins s sg H x y v u Q I rx ry ⟨S, d, e, st, w, hx, hy, h⟩
  obtain ⟨f, hf, h⟩ := h.of
  cases d <;> cases e <;> first | (cases hf; done) | skip
  simp only [opD] at hf
  split at hf
  · rename_i hc
    cases hf
    cases hx.int
    cases hy.int
    exact op_mod pins s sg H _ _ v u Q I rx ry ⟨_, _, rfl, rfl, hc, h.here w (.int _)⟩
  · cases hf
theorem opR_pow : OpR X (binaryOp .Pow) (rD G E xc .pow) := by
  intro pins s sg H x y v u Q I rx ry ⟨S, d, e, st, w, hx, hy, h⟩
  obtain ⟨f, hf, h⟩ := h.of
  cases d <;> cases e <;> first | (cases hf; done) | skip
  simp only [opD] at hf
  split at hf
  · rename_i hc
    cases hf
    cases hx.int
    cases hy.int
    exact op_pow pins s sg H _ _ v u Q I rx ry ⟨_, _, rfl, rfl, hc, h.here w (.int _)⟩
  · cases hf
theorem opR_eq (hu : X.A.units + 64 < cLine) : OpR X (compareOp .Eq) (rD G E xc .eq) := by
  intro pins s sg H x y v u Q I rx ry ⟨S, d, e, st, w, hx, hy, h⟩
  obtain ⟨f, hf, h⟩ := h.of
  have hf' : (if okD d = true ∧ okD e = true then some (PyData.bool (PyData.eqv d e)) else none) = some f := by
    cases d <;> cases e <;> exact hf
  split at hf'
  · rename_i hc
    cases hf'
    exact op_eqD hu pins s sg H _ _ v u Q I rx ry ⟨d, e, hx.dp hc.1, hy.dp hc.2, okD_shaped hc.1, okD_shaped hc.2, h.here w (.bl _)⟩
  · cases hf'
theorem opR_ne (hu : X.A.units + 64 < cLine) : OpR X (compareOp .NotEq) (rD G E xc .ne) := by
  intro pins s sg H x y v u Q I rx ry ⟨S, d, e, st, w, hx, hy, h⟩
  obtain ⟨f, hf, h⟩ := h.of
  have hf' : (if okD d = true ∧ okD e = true then some (PyData.bool (!PyData.eqv d e)) else none) = some f := by
    cases d <;> cases e <;> exact hf
  split at hf'
  · rename_i hc
    cases hf'
    exact op_neD hu pins s sg H _ _ v u Q I rx ry ⟨d, e, hx.dp hc.1, hy.dp hc.2, okD_shaped hc.1, okD_shaped hc.2, h.here w (.bl _)⟩
  · cases hf'
theorem opR_lt : OpR X (compareOp .Lt) (rD G E xc .lt) := by
  intro pins s sg H x y v u Q I rx ry ⟨S, d, e, st, w, hx, hy, h⟩
  obtain ⟨f, hf, h⟩ := h.of
  cases d <;> cases e <;> first | (cases hf; done) | skip
  cases hf
  cases hx.int
  cases hy.int
  exact op_lt pins s sg H _ _ v u Q I rx ry ⟨_, _, rfl, rfl, h.here w (.bl _)⟩
theorem opR_le : OpR X (compareOp .LtE) (rD G E xc .le) := by
  intro pins s sg H x y v u Q I rx ry ⟨S, d, e, st, w, hx, hy, h⟩
  obtain ⟨f, hf, h⟩ := h.of
  cases d <;> cases e <;> first | (cases hf; done) | skip
  cases hf
  cases hx.int
  cases hy.int
  exact op_le pins s sg H _ _ v u Q I rx ry ⟨_, _, rfl, rfl, h.here w (.bl _)⟩
theorem opR_gt : OpR X (compareOp .Gt) (rD G E xc .gt) := by
  intro pins s sg H x y v u Q I rx ry ⟨S, d, e, st, w, hx, hy, h⟩
  obtain ⟨f, hf, h⟩ := h.of
  cases d <;> cases e <;> first | (cases hf; done) | skip
  cases hf
  cases hx.int
  cases hy.int
  exact op_gt pins s sg H _ _ v u Q I rx ry ⟨_, _, rfl, rfl, h.here w (.bl _)⟩
theorem opR_ge : OpR X (compareOp .GtE) (rD G E xc .ge) := by
  intro pins s sg H x y v u Q I rx ry ⟨S, d, e, st, w, hx, hy, h⟩
  obtain ⟨f, hf, h⟩ := h.of
  cases d <;> cases e <;> first | (cases hf; done) | skip
  cases hf
  cases hx.int
  cases hy.int
  exact op_ge pins s sg H _ _ v u Q I rx ry ⟨_, _, rfl, rfl, h.here w (.bl _)⟩
theorem RepB.notnon {b : Bool} {S : Wl} {H : Hp} {v : V} {d : D} (h : RepB G b S H v d) (hd : d ≠ .none) : v ≠ .non := by
  rintro rfl
  rcases h with h | ⟨_, a, xs, es, e1, _⟩
  · cases h; exact hd rfl
  · cases e1
theorem opR_is : OpR X (compareOp .Is) (rD G E xc .is) := by
  intro pins s sg H x y v u Q I rx ry ⟨S, d, e, st, w, hx, hy, h⟩
  obtain ⟨f, hf, h⟩ := h.of
  cases d <;> cases e <;> first | (cases hf; done) | skip
  · cases hf
    cases hx.non
    cases hy.non
    exact op_isN pins s sg H _ _ v u Q I rx ry ⟨rfl, h.here w (.bl _)⟩
  · cases hf
    cases hy.non
    refine op_isN pins s sg H _ _ v u Q I rx ry ⟨rfl, ?_⟩
    rw [decide_eq_false (hx.notnon (by intro z; cases z))]
    exact h.here w (.bl _)
  · cases hf
    cases hx.bool
    cases hy.bool
    exact op_isBl pins s sg H _ _ v u Q I rx ry ⟨_, _, rfl, rfl, h.here w (.bl _)⟩
  all_goals (
    cases hf
    cases hy.non
    refine op_isN pins s sg H _ _ v u Q I rx ry ⟨rfl, ?_⟩
    rw [decide_eq_false (hx.notnon (by intro z; cases z))]
    exact h.here w (.bl _))
theorem opR_isnot : OpR X (compareOp .IsNot) (rD G E xc .isnot) := by
  intro pins s sg H x y v u Q I rx ry ⟨S, d, e, st, w, hx, hy, h⟩
  obtain ⟨f, hf, h⟩ := h.of
  cases d <;> cases e <;> first | (cases hf; done) | skip
  · cases hf
    cases hx.non
    cases hy.non
    exact op_notN pins s sg H _ _ v u Q I rx ry ⟨rfl, h.here w (.bl _)⟩
  · cases hf
    cases hy.non
    refine op_notN pins s sg H _ _ v u Q I rx ry ⟨rfl, ?_⟩
    rw [decide_eq_false (hx.notnon (by intro z; cases z))]
    exact h.here w (.bl _)
  · cases hf
    cases hx.bool
    cases hy.bool
    exact op_notBl pins s sg H _ _ v u Q I rx ry ⟨_, _, rfl, rfl, h.here w (.bl _)⟩
  all_goals (
    cases hf
    cases hy.non
    refine op_notN pins s sg H _ _ v u Q I rx ry ⟨rfl, ?_⟩
    rw [decide_eq_false (hx.notnon (by intro z; cases z))]
    exact h.here w (.bl _))
theorem opR_in (hu : X.A.units + 65 < cLine) : OpR X (compareOp .In) (rD G E xc .inn) := by
  intro pins s sg H x y v u Q I rx ry ⟨S, d, e, st, w, hx, hy, h⟩
  obtain ⟨f, hf, h⟩ := h.of
  have hf' : (∃ ys, e = .list ys ∧ (if okD d = true ∧ okD (.list ys) = true then some (PyData.bool (ys.any fun z => PyData.eqv z d)) else none) = some f) ∨ (∃ ys, e = .tuple ys ∧ (if okD d = true ∧ okD (.tuple ys) = true then some (PyData.bool (ys.any fun z => PyData.eqv z d)) else none) = some f) := by
    cases d <;> cases e <;> first | (cases hf; done) | exact .inl ⟨_, rfl, hf⟩ | exact .inr ⟨_, rfl, hf⟩
  rcases hf' with ⟨ys, rfl, hf'⟩ | ⟨ys, rfl, hf'⟩
  rotate_left
  · split at hf'
    · rename_i hc
      cases hf'
      exact op_inTup hu pins s sg H _ _ v u Q I rx ry ⟨d, ys, hx.dp hc.1, hy.dp hc.2, okD_shaped hc.1, okD_shaped hc.2, h.here w (.bl _)⟩
    · cases hf'
  split at hf'
  · rename_i hc
    cases hf'
    exact op_inD hu pins s sg H _ _ v u Q I rx ry ⟨d, ys, hx.dp hc.1, hy.dp hc.2, okD_shaped hc.1, okD_shaped hc.2, h.here w (.bl _)⟩
  · cases hf'
theorem opR_notin (hu : X.A.units + 65 < cLine) : OpR X (compareOp .NotIn) (rD G E xc .notin) := by
  intro pins s sg H x y v u Q I rx ry ⟨S, d, e, st, w, hx, hy, h⟩
  obtain ⟨f, hf, h⟩ := h.of
  have hf' : (∃ ys, e = .list ys ∧ (if okD d = true ∧ okD (.list ys) = true then some (PyData.bool (!ys.any fun z => PyData.eqv z d)) else none) = some f) ∨ (∃ ys, e = .tuple ys ∧ (if okD d = true ∧ okD (.tuple ys) = true then some (PyData.bool (!ys.any fun z => PyData.eqv z d)) else none) = some f) := by
    cases d <;> cases e <;> first | (cases hf; done) | exact .inl ⟨_, rfl, hf⟩ | exact .inr ⟨_, rfl, hf⟩
  rcases hf' with ⟨ys, rfl, hf'⟩ | ⟨ys, rfl, hf'⟩
  rotate_left
  · split at hf'
    · rename_i hc
      cases hf'
      exact op_notInTup hu pins s sg H _ _ v u Q I rx ry ⟨d, ys, hx.dp hc.1, hy.dp hc.2, okD_shaped hc.1, okD_shaped hc.2, h.here w (.bl _)⟩
    · cases hf'
  split at hf'
  · rename_i hc
    cases hf'
    exact op_notInD hu pins s sg H _ _ v u Q I rx ry ⟨d, ys, hx.dp hc.1, hy.dp hc.2, okD_shaped hc.1, okD_shaped hc.2, h.here w (.bl _)⟩
  · cases hf'
/-- an item -/
def rIdx (G : SS) (E : XK) (xc : Nat → Value) : R2 := fun x y H Q => ∃ S d e st, Wd G S H st ∧ RepB G true S H x d ∧ Rep S H y e ∧ Out G E xc S H (Rs.of (idxD d e) st) (WantD G Q)
theorem atI_rep {S : Wl} {H : Hp} {vs : List V} {ds : List D} {i : Int} {d : D} (r : Reps S H vs ds) (h : atI ds i = some d) : ∃ v, atI vs i = some v ∧ Rep S H v d := by
  unfold atI at h ⊢
  rw [r.length]
  cases e : ixN ds.length i with
  | none => rw [e] at h; cases h
  | some j =>
    rw [e] at h
    exact r.get h
theorem ixR_idx : IxR X (rIdx G E xc) := by
  intro value slice pins s sg H x y v u Q I rx ry ⟨S, d, e, st, w, hx, hy, h⟩ hs
  obtain ⟨f, hf, h2⟩ := h.of
  cases d <;> cases e <;> first | (cases hf; done) | skip
  · rename_i xs i
    obtain ⟨a, us, rfl, ha, ra⟩ := hx.list
    cases hy
    obtain ⟨z, hz, rz⟩ := atI_rep ra hf
    exact ix_list value slice pins s sg H _ _ v u Q I rx ry ⟨a, us, i, z, rfl, rfl, .inl (.inl ha), hz, h2.here w rz⟩ hs
  · rename_i xs i
    obtain ⟨a, us, rfl, ha, ra⟩ := hx.tuple
    cases hy
    obtain ⟨z, hz, rz⟩ := atI_rep ra hf
    exact ix_tup value slice pins s sg H _ _ v u Q I rx ry ⟨a, us, i, z, rfl, rfl, .inl (.inl ha), hz, h2.here w rz⟩ hs
/-- a cut -/
def rSlc (G : SS) (E : XK) (xc : Nat → Value) : V → Option Int → Option Int → Hp → VK → Prop := fun x lo hi H Q => ∃ S d st, Wd G S H st ∧ RepB G true S H x d ∧ Out G E xc S H (Rs.of (slcD d lo hi) st) (WantD G Q)
theorem cut_rep {S : Wl} {H : Hp} {vs : List V} {ds : List D} (r : Reps S H vs ds) (lo hi : Option Int) : Reps S H (cutV vs lo hi) (cutD ds lo hi) := by
  unfold cutV cutD
  rw [r.length]
  exact (r.drop _).take _
theorem slR_slc : SlR X (rSlc G E xc) := by
  intro pins s sg H x v vl vu lo hi sl Q I rx hs pl pu ⟨S, d, st, w, hx, h⟩
  obtain ⟨f, hf, h⟩ := h.of
  cases d <;> first | (cases hf; done) | skip
  · cases hf
    obtain ⟨a, us, rfl, ha, ra⟩ := hx.list
    exact sl_list pins s sg H _ v vl vu lo hi sl Q I rx hs pl pu ⟨a, us, rfl, .inl (.inl ha), fun p hp => h.newL w (cut_rep ra lo hi) hp⟩
  · rename_i ds
    cases hf
    obtain ⟨a, us, rfl, ha, ra⟩ := hx.tuple
    refine sl_tupA pins s sg H _ v vl vu lo hi sl Q I rx hs pl pu ⟨a, us, rfl, .inl (.inl ha), fun e => ?_, fun _ p hp => h.newT w (cut_rep ra lo hi) hp⟩
    have c : cutD (ds : List D) lo hi = ds := by
      unfold cutD
      rw [← ra.length, e.1, e.2]
      simp [ra.length]
    rw [c] at h
    exact h.here w (.tup ha ra)
/-- built-ins -/
def rBlt (G : SS) (E : XK) (xc : Nat → Value) (f : Blt) : List V → Hp → VK → Prop := fun xs H Q => ∃ S ds st, Wd G S H st ∧ RepBs G true S H xs ds ∧ Out G E xc S H (Rs.of (bltD f ds) st) (WantD G Q)
theorem RepBs.inv1 {b : Bool} {S : Wl} {H : Hp} {xs : List V} {d : D} (h : RepBs G b S H xs [d]) : ∃ x, xs = [x] ∧ RepB G b S H x d := by
  cases h with
  | cons a t => cases t; exact ⟨_, rfl, a⟩
theorem RepBs.inv2 {b : Bool} {S : Wl} {H : Hp} {xs : List V} {d e : D} (h : RepBs G b S H xs [d, e]) : ∃ x y, xs = [x, y] ∧ RepB G b S H x d ∧ RepB G b S H y e := by
  cases h with
  | cons a t =>
    obtain ⟨y, rfl, hy⟩ := t.inv1
    exact ⟨_, _, rfl, a, hy⟩
theorem bR_len : CallR X (.builtin "len") (rBlt G E xc .len) := by
  intro pins s sg H xs us Q I r ⟨S, ds, st, w, hx, h⟩
  obtain ⟨f, hf, h2⟩ := h.of
  unfold bltD at hf
  split at hf <;> first | (exfalso; rename_i q; cases q; done) | (rename_i q; cases q; done) | skip
  · cases hf
    obtain ⟨x, rfl, hx1⟩ := hx.inv1
    obtain ⟨a, vs, rfl, ha, ra⟩ := hx1.list
    refine call_len_seq pins s sg H _ us Q I r ⟨a, vs, rfl, .inl (.inl (.inl ha)), ?_⟩
    rw [ra.length]
    exact h2.here w (.int _)
  · cases hf
    obtain ⟨x, rfl, hx1⟩ := hx.inv1
    obtain ⟨a, vs, rfl, ha, ra⟩ := hx1.tuple
    refine call_len_seq pins s sg H _ us Q I r ⟨a, vs, rfl, .inr (.inl (.inl ha)), ?_⟩
    rw [ra.length]
    exact h2.here w (.int _)
  all_goals (cases hf)
theorem bR_min (hc : X.calm = true) : CallR X (.builtin "min") (rBlt G E xc .min) := by
  intro pins s sg H xs us Q I r ⟨S, ds, st, w, hx, h⟩
  obtain ⟨f, hf, h2⟩ := h.of
  unfold bltD at hf
  split at hf <;> first | (exfalso; rename_i q; cases q; done) | (rename_i q; cases q; done) | skip
  · split at hf
    · rename_i y l hi
      cases hf
      obtain ⟨x, rfl, hx1⟩ := hx.inv1
      obtain ⟨a, vs, rfl, ha, ra⟩ := hx1.list
      rw [of_intsOf hi] at ra
      have e := ra.ints
      subst e
      refine cr_min hc pins s sg H _ us Q I r ⟨a, y :: l, rfl, .inl (.inl ha), Nat.zero_lt_succ _, fun m hm hle => ?_⟩
      have e : m = minL (y :: l) := Int.le_antisymm (hle _ (minL_mem (fun z => nomatch z))) (minL_le hm)
      subst e
      exact h2.here w (.int _)
    · cases hf
  · cases hf
    obtain ⟨x, y, rfl, hx1, hx2⟩ := hx.inv2
    cases hx1.int
    cases hx2.int
    exact call_min2 hc pins s sg H _ us Q I r ⟨_, _, rfl, h2.here w (.int _)⟩
  all_goals (cases hf)
theorem bR_max (hc : X.calm = true) : CallR X (.builtin "max") (rBlt G E xc .max) := by
  intro pins s sg H xs us Q I r ⟨S, ds, st, w, hx, h⟩
  obtain ⟨f, hf, h2⟩ := h.of
  unfold bltD at hf
  split at hf <;> first | (exfalso; rename_i q; cases q; done) | (rename_i q; cases q; done) | skip
  · split at hf
    · rename_i y l hi
      cases hf
      obtain ⟨x, rfl, hx1⟩ := hx.inv1
      obtain ⟨a, vs, rfl, ha, ra⟩ := hx1.list
      rw [of_intsOf hi] at ra
      have e := ra.ints
      subst e
      refine cr_max hc pins s sg H _ us Q I r ⟨a, y :: l, rfl, .inl (.inl ha), Nat.zero_lt_succ _, fun m hm hle => ?_⟩
      have e : m = maxL (y :: l) := Int.le_antisymm (le_maxL hm) (hle _ (maxL_mem (fun z => nomatch z)))
      subst e
      exact h2.here w (.int _)
    · cases hf
  · cases hf
    obtain ⟨x, y, rfl, hx1, hx2⟩ := hx.inv2
    cases hx1.int
    cases hx2.int
    exact call_max2 hc pins s sg H _ us Q I r ⟨_, _, rfl, h2.here w (.int _)⟩
  all_goals (cases hf)
theorem bR_sorted : CallR X (.builtin "sorted") (rBlt G E xc .sorted) := by
  intro pins s sg H xs us Q I r ⟨S, ds, st, w, hx, h⟩
  obtain ⟨f, hf, h2⟩ := h.of
  unfold bltD at hf
  split at hf <;> first | (exfalso; rename_i q; cases q; done) | (rename_i q; cases q; done) | skip
  · split at hf
    · rename_i l hi
      cases hf
      obtain ⟨x, rfl, hx1⟩ := hx.inv1
      obtain ⟨a, vs, rfl, ha, ra⟩ := hx1.list
      rw [of_intsOf hi] at ra
      have e := ra.ints
      subst e
      refine cr_sortedI pins s sg H _ us Q I r ⟨a, l, rfl, .inl (.inl ha), fun l' p h1 h3 hp => ?_⟩
      have e := isort_eq h1 h3
      subst e
      exact h2.newL w Reps.ofInts hp
    · cases hf
  · split at hf
    · rename_i l hi
      cases hf
      obtain ⟨x, rfl, hx1⟩ := hx.inv1
      obtain ⟨a, vs, rfl, ha, ra⟩ := hx1.tuple
      rw [of_intsOf hi] at ra
      have e := ra.ints
      subst e
      refine cr_sortedTup pins s sg H _ us Q I r ⟨a, l, rfl, ha, fun l' p h1 h3 hp => ?_⟩
      have e := isort_eq h1 h3
      subst e
      exact h2.newL w Reps.ofInts hp
    · cases hf
  all_goals (cases hf)
theorem bR_sum (hc : X.calm = true) : CallR X (.builtin "sum") (rBlt G E xc .sum) := by
  intro pins s sg H xs us Q I r ⟨S, ds, st, w, hx, h⟩
  obtain ⟨f, hf, h2⟩ := h.of
  unfold bltD at hf
  split at hf <;> first | (exfalso; rename_i q; cases q; done) | (rename_i q; cases q; done) | skip
  · split at hf
    · rename_i l hi
      cases hf
      obtain ⟨x, rfl, hx1⟩ := hx.inv1
      obtain ⟨a, vs, rfl, ha, ra⟩ := hx1.list
      rw [of_intsOf hi] at ra
      have e := ra.ints
      subst e
      exact cr_sum hc pins s sg H _ us Q I r ⟨a, l, rfl, .inl (.inl ha), h2.here w (.int _)⟩
    · cases hf
  all_goals (cases hf)
theorem bR_all (hc : X.calm = true) : CallR X (.builtin "all") (rBlt G E xc .all) := by
  intro pins s sg H xs us Q I r ⟨S, ds, st, w, hx, h⟩
  obtain ⟨f, hf, h2⟩ := h.of
  unfold bltD at hf
  split at hf <;> first | (exfalso; rename_i q; cases q; done) | (rename_i q; cases q; done) | skip
  · split at hf
    · rename_i l hi
      cases hf
      obtain ⟨x, rfl, hx1⟩ := hx.inv1
      obtain ⟨a, vs, rfl, ha, ra⟩ := hx1.list
      rw [of_boolsOf hi] at ra
      have e := ra.bools
      subst e
      exact cr_all hc pins s sg H _ us Q I r ⟨a, l, rfl, .inl (.inl ha), h2.here w (.bl _)⟩
    · cases hf
  all_goals (cases hf)
theorem bR_any (hc : X.calm = true) : CallR X (.builtin "any") (rBlt G E xc .any) := by
  intro pins s sg H xs us Q I r ⟨S, ds, st, w, hx, h⟩
  obtain ⟨f, hf, h2⟩ := h.of
  unfold bltD at hf
  split at hf <;> first | (exfalso; rename_i q; cases q; done) | (rename_i q; cases q; done) | skip
  · split at hf
    · rename_i l hi
      cases hf
      obtain ⟨x, rfl, hx1⟩ := hx.inv1
      obtain ⟨a, vs, rfl, ha, ra⟩ := hx1.list
      rw [of_boolsOf hi] at ra
      have e := ra.bools
      subst e
      exact cr_any hc pins s sg H _ us Q I r ⟨a, l, rfl, .inl (.inl ha), h2.here w (.bl _)⟩
    · cases hf
  all_goals (cases hf)
theorem bR_abs : CallR X (.builtin "abs") (rBlt G E xc .abs) := by
  intro pins s sg H xs us Q I r ⟨S, ds, st, w, hx, h⟩
  obtain ⟨f, hf, h2⟩ := h.of
  unfold bltD at hf
  split at hf <;> first | (exfalso; rename_i q; cases q; done) | (rename_i q; cases q; done) | skip
  · cases hf
    obtain ⟨x, rfl, hx1⟩ := hx.inv1
    cases hx1.int
    exact call_abs pins s sg H _ us Q I r ⟨_, rfl, h2.here w (.int _)⟩
  all_goals (cases hf)
theorem bR_list : CallR X (.type "list") (rBlt G E xc .list) := by
  intro pins s sg H xs us Q I r ⟨S, ds, st, w, hx, h⟩
  obtain ⟨f, hf, h2⟩ := h.of
  unfold bltD at hf
  split at hf <;> first | (exfalso; rename_i q; cases q; done) | (rename_i q; cases q; done) | skip
  · cases hf
    obtain ⟨x, rfl, hx1⟩ := hx.inv1
    obtain ⟨a, vs, rfl, ha, ra⟩ := hx1.list
    exact call_list_of pins s sg H _ us Q I r ⟨a, vs, rfl, .inl (.inl (.inl ha)), fun p hp => h2.newL w ra hp⟩
  · cases hf
    obtain ⟨x, rfl, hx1⟩ := hx.inv1
    obtain ⟨a, vs, rfl, ha, ra⟩ := hx1.tuple
    exact call_list_of pins s sg H _ us Q I r ⟨a, vs, rfl, .inr (.inl (.inl ha)), fun p hp => h2.newL w ra hp⟩
  all_goals (cases hf)
theorem bR_tuple : CallR X (.type "tuple") (rBlt G E xc .tuple) := by
  intro pins s sg H xs us Q I r ⟨S, ds, st, w, hx, h⟩
  obtain ⟨f, hf, h2⟩ := h.of
  unfold bltD at hf
  split at hf <;> first | (exfalso; rename_i q; cases q; done) | (rename_i q; cases q; done) | skip
  · cases hf
    obtain ⟨x, rfl, hx1⟩ := hx.inv1
    obtain ⟨a, vs, rfl, ha, ra⟩ := hx1.list
    exact call_tuple_of pins s sg H _ us Q I r ⟨a, vs, rfl, .inl ⟨.inl (.inl ha), fun p hp => h2.newT w ra hp⟩⟩
  · cases hf
    obtain ⟨x, rfl, hx1⟩ := hx.inv1
    obtain ⟨a, vs, rfl, ha, ra⟩ := hx1.tuple
    exact call_tuple_of pins s sg H _ us Q I r ⟨a, vs, rfl, .inr ⟨.inl (.inl ha), h2.here w (.tup ha ra)⟩⟩
  all_goals (cases hf)
/-- isinstance against a built-in class -/
def tyN : Ty → String
  | .int => "int"
  | .bool => "bool"
  | .list => "list"
  | .tuple => "tuple"
  | .str => "str"
def rIsD (G : SS) (E : XK) (xc : Nat → Value) (t : Ty) : List V → Hp → VK → Prop := fun xs H Q => ∃ S d st x c, xs = [x, .ty (tyN t)] ∧ Wd G S H st ∧ RepB G true S H x d ∧ isiD t d = some c ∧ Q (.bl c) H
theorem bR_isi (t : Ty) : CallR X (.builtin "isinstance") (rIsD G E xc t) := by
  intro pins s sg H xs us Q I r ⟨S, d, st, x, c, e, w, hx, hc, q⟩
  subst e
  have go : ∀ (n : String), TyX X.K H x (.type n) → PySem.W.kitOne X.K (.type n) (.type (tyN t)) = some c → wpAny (model X.prog X.w) X.A (call (.builtin "isinstance") us) (EP X pins sg Q) X.xe s := fun n ty e =>
    call_isi pins s sg H _ us Q I r ⟨x, .ty (tyN t), .type n, .type (tyN t), c, rfl, .ty _, ty, e, q⟩
  cases d with
  | none =>
    cases hx.non
    refine go "NoneType" (.base .non) ?_
    cases t <;> (cases hc; rfl)
  | bool b =>
    cases hx.bool
    refine go "bool" (.base (.bl _)) ?_
    cases t <;> (cases hc; rfl)
  | int b =>
    cases hx.int
    refine go "int" (.base (.int _)) ?_
    cases t <;> (cases hc; rfl)
  | str b =>
    cases hx.str
    refine go "str" (.base (.str _)) ?_
    cases t <;> (cases hc; rfl)
  | list b =>
    obtain ⟨a, vs, rfl, ha, ra⟩ := hx.list
    refine go "list" (.base (.lst ha)) ?_
    cases t <;> (cases hc; rfl)
  | tuple b =>
    obtain ⟨a, vs, rfl, ha, ra⟩ := hx.tuple
    refine go "tuple" (.base (.tup ha)) ?_
    cases t <;> (cases hc; rfl)
  | dict b => cases t <;> cases hc
end
end MR

namespace MR
open PySem PySem.Spec PyProof.Rows L2
/-! ### from the text to the small language -/
structure Cfg where
  N : List Str
  fns : List (Str × Nat)
  ffs : List (Str × Nat)
  cst : List (Str × D)
  xcl : List (Str × Nat) := []
def ixOf (x : Str) : List Str → Option Nat
  | [] => none
  | y :: r => if x = y then some 0 else (ixOf x r).map (· + 1)
theorem ixOf_get {x : Str} : ∀ {l : List Str} {i : Nat}, ixOf x l = some i → l[i]? = some x
  | [], _, h => nomatch h
  | y :: r, i, h => by
    unfold ixOf at h
    split at h
    · rename_i e
      cases h
      rw [e]
      rfl
    · cases q : ixOf x r with
      | none => rw [q] at h; cases h
      | some j =>
        rw [q] at h
        cases h
        exact (ixOf_get q : r[j]? = some x)
def okName (x : Str) : Bool := !(x == ("__debug__" : Str)) && !(x == ("__classdict__" : Str)) && !(x == ("__name__" : Str))
def isVis : Option NameKind → Bool
  | some .local => true
  | some .cell => true
  | some .free => true
  | _ => false
def isLoc : Option NameKind → Bool
  | some .local => true
  | some .cell => true
  | _ => false
def isGlo : Option NameKind → Bool
  | some .globalImplicit => true
  | _ => false
def bopOf : Operator → Option Bop
  | .Add => some .add
  | .Sub => some .sub
  | .Mult => some .mul
  | .FloorDiv => some .fdiv
  | .Mod => some .mod
  | .Pow => some .pow
  | _ => none
def copOf : CmpOp → Option Bop
  | .Eq => some .eq
  | .NotEq => some .ne
  | .Lt => some .lt
  | .LtE => some .le
  | .Gt => some .gt
  | .GtE => some .ge
  | .Is => some .is
  | .IsNot => some .isnot
  | .In => some .inn
  | .NotIn => some .notin
def cpConst : Const → Option D
  | .int i => some (.int i)
  | .bool b => some (.bool b)
  | .none => some .none
  | .str x => some (.str x)
  | _ => none
def bltTab : List (Str × Blt) := [("len", .len), ("min", .min), ("max", .max), ("sorted", .sorted), ("sum", .sum), ("all", .all), ("any", .any), ("abs", .abs), ("list", .list), ("tuple", .tuple)]
def tyTab : List (Str × Ty) := [("int", .int), ("bool", .bool), ("list", .list), ("tuple", .tuple), ("str", .str)]
/-- the built-in names that must still be the built-ins -/
def bltNames : List Str := ["len", "min", "max", "sorted", "sum", "all", "any", "abs", "list", "tuple", "int", "bool", "str", "isinstance", "range", "enumerate", "zip"]
def tst : Expr → Bool
  | .IfExp .. => false
  | .BoolOp _ vs _ => tsts vs
  | .UnaryOp .Not a _ => tst a
  | _ => true
where tsts : List Expr → Bool
  | [] => true
  | e :: r => tst e && tsts r
def cpL (f : Expr → Option Xp) : List Expr → Option (List Xp)
  | [] => some []
  | e :: r => (f e).bind fun x => (cpL f r).bind fun xs => some (x :: xs)
/-- a comprehension's target in its own scope -/
def cpTg (N : List Str) (scope : Scope) : Expr → Option (Tg × List (Str × Nat))
  | .Name x _ => if isLoc (scope.names.lookup x) && okName x then (ixOf x N).bind fun i => some (.one i, [(x, i)]) else none
  | .Tuple [.Name x _, .Name y _] _ _ => if isLoc (scope.names.lookup x) && okName x && isLoc (scope.names.lookup y) && okName y then
      (ixOf x N).bind fun i => (ixOf y N).bind fun j => if i = j then none else some (.two i j, [(x, i), (y, j)]) else none
  | _ => none
/-- what is walked -/
def srcOf (sc : Scope) (tg : Expr) : Expr → Option (Srk × List Expr)
  | .Call (.Name x p) args [] pos =>
    if isGlo (sc.names.lookup x) && okName x then
      if x = "range" then
        match args with
        | [a] => some (.rng, [a])
        | [a, b] => some (.rng, [a, b])
        | [a, b, c] => some (.rng, [a, b, c])
        | _ => none
      else if x = "enumerate" then
        match tg, args with
        | .Tuple _ _ _, [a] => some (.enm, [a])
        | _, _ => none
      else if x = "zip" then
        match tg, args with
        | .Tuple _ _ _, [a, b] => some (.zip, [a, b])
        | _, _ => none
      else some (.seq, [.Call (.Name x p) args [] pos])
    else none
  | e => some (.seq, [e])
def notNone : Xp → Option Xp
  | .lit .none => none
  | x => some x
def isAtom : Expr → Bool
  | .Name _ _ => true
  | .Constant _ _ _ => true
  | _ => false
/-- what the built-ins' table has no room for -/
def primOf (sc : Scope) : Expr → Option (Blt × List Expr)
  | .Call (.Name x _) [.Call (.Name y _) es [] _] [] _ =>
    if okName x && isGlo (sc.names.lookup x) && isGlo (sc.names.lookup y) && decide (y = "range") && decide (1 ≤ es.length) && decide (es.length ≤ 2) then
      if x = "list" then some (.lrng, es) else if x = "tuple" then some (.trng, es) else none
    else none
  | .Call (.Attribute (.Name x xp) m apos) [e] [] cpos =>
    if (apos.endLine == cpos.line) && okName x && isVis (sc.names.lookup x) && isAtom e then
      if m = "count" then some (.lcnt, [.Name x xp, e]) else if m = "index" then some (.lidx, [.Name x xp, e]) else none
    else none
  | _ => none
def cpE (g : Cfg) : Nat → Scope → Expr → Option Xp
  | 0, _, _ => none
  | n + 1, sc, e => match e with
    | .Name x _ => if okName x then
        if isVis (sc.names.lookup x) then (ixOf x g.N).bind fun i => some (.var i)
        else if isGlo (sc.names.lookup x) then (g.cst.lookup x).bind fun d => some (.lit d)
        else none
      else none
    | .Constant c _ _ => (cpConst c).bind fun d => some (.lit d)
    | .BinOp a op b _ => (bopOf op).bind fun o => (cpE g n sc a).bind fun x => (cpE g n sc b).bind fun y => some (.bin o x y)
    | .UnaryOp .USub a _ => (cpE g n sc a).bind fun x => some (.neg x)
    | .UnaryOp .Not a _ => (cpE g n sc a).bind fun x => some (.not x)
    | .BoolOp .And [a] _ => cpE g n sc a
    | .BoolOp .Or [a] _ => cpE g n sc a
    | .BoolOp .And (a :: b :: r) p => (cpE g n sc a).bind fun x => (cpE g n sc (.BoolOp .And (b :: r) p)).bind fun y => some (.and x y)
    | .BoolOp .Or (a :: b :: r) p => (cpE g n sc a).bind fun x => (cpE g n sc (.BoolOp .Or (b :: r) p)).bind fun y => some (.or x y)
    | .Compare a [op] [b] _ => if behindInMarks op b then none else (copOf op).bind fun o => (cpE g n sc a).bind fun x => (cpE g n sc b).bind fun y => some (.bin o x y)
    | .Compare a [op, op'] [b, c] _ => if lastMarks [op, op'] [b, c] then none else (copOf op).bind fun o => (copOf op').bind fun o' => (cpE g n sc a).bind fun x => (cpE g n sc b).bind fun y => (cpE g n sc c).bind fun z => some (.chn o o' x y z)
    | .IfExp c a b _ => if tst c then (cpE g n sc c).bind fun z => (cpE g n sc a).bind fun x => (cpE g n sc b).bind fun y => some (.ite z x y) else none
    | .List es _ => (cpL (cpE g n sc) es).bind fun xs => some (.list xs)
    | .Tuple es _ _ => (cpL (cpE g n sc) es).bind fun xs => some (.tup xs)
    | .Subscript a (.Slice lo hi none _) _ => (cpE g n sc a).bind fun x =>
        (match lo with | none => some (Xp.lit .none) | some l => (cpE g n sc l).bind notNone).bind fun l => (match hi with | none => some (Xp.lit .none) | some h => (cpE g n sc h).bind notNone).bind fun h => some (.slc x l h)
    | .Subscript a (.Slice none none (some (.UnaryOp .USub (.Constant (.int 1) _ _) _)) _) _ => (cpE g n sc a).bind fun x => some (.rev x)
    | .Subscript _ (.Slice _ _ (some _) _) _ => none
    | .Subscript a i _ => (cpE g n sc a).bind fun x => (cpE g n sc i).bind fun y => some (.idx x y)
    | .Call (.Name x _) (a :: es) [] _ =>
      if okName x && isGlo (sc.names.lookup x) then
        match g.fns.lookup x with
        | some f => (cpL (cpE g n sc) (a :: es)).bind fun xs => some (.call f xs)
        | none => match g.ffs.lookup x with
          | some f => (cpL (cpE g n sc) (a :: es)).bind fun xs => some (.callF f xs)
          | none => match bltTab.lookup x with
            | some f => match cpL (cpE g n sc) (a :: es) with
              | some xs => some (.blt f xs)
              | none => (primOf sc e).bind fun p => (cpL (cpE g n sc) p.2).bind fun xs => some (.blt p.1 xs)
            | none => if x = "isinstance" then
                match es with
                | [.Name t _] => if okName t && isGlo (sc.names.lookup t) then match tyTab.lookup t with
                    | some t => (cpE g n sc a).bind fun y => some (.isi t y)
                    | none => (g.xcl.lookup t).bind fun k => (cpE g n sc a).bind fun y => some (.blt (.isx k) [y])
                  else none
                | _ => none
              else (primOf sc e).bind fun p => (cpL (cpE g n sc) p.2).bind fun xs => some (.blt p.1 xs)
      else none
    | .ListComp elt [⟨tg, iter, [], 0⟩] scope _ => (cpTg g.N scope tg).bind fun (t, own) =>
        if blkC g.N sc scope own then
          (srcOf sc tg iter).bind fun (sk, es) => (cpL (cpE g n sc) es).bind fun src => (cpE g n (relS scope sc) elt).bind fun x => some (.comp x t sk src none)
        else none
    | .ListComp elt [⟨tg, iter, [c], 0⟩] scope _ => (cpTg g.N scope tg).bind fun (t, own) =>
        if blkC g.N sc scope own && tst c then
          (srcOf sc tg iter).bind fun (sk, es) => (cpL (cpE g n sc) es).bind fun src => (cpE g n (relS scope sc) elt).bind fun x => (cpE g n (relS scope sc) c).bind fun y => some (.comp x t sk src (some y))
        else none
    | _ => (primOf sc e).bind fun p => (cpL (cpE g n sc) p.2).bind fun xs => some (.blt p.1 xs)
/-! ### lists that are new -/
def freshX : Xp → Bool
  | .list _ => true
  | .comp .. => true
  | .blt .list _ => true
  | .callF .. => true
  | _ => false
section
variable {T : Type} (G : Tab T)
def turnE (r : MRho) (tg : Tg) (elt : Xp) : D → T → Rs T (Option D) := fun d s => match bindT tg d (wipeR r tg.slots) with
  | some r' => (ev G false r' elt s).bind fun x s2 => .ok (some x) s2
  | none => .stuck
def turnC (r : MRho) (tg : Tg) (elt c : Xp) : D → T → Rs T (Option D) := fun d s => match bindT tg d (wipeR r tg.slots) with
  | some r' => (ev G false r' c s).bind fun y s1 => match y with
    | .bool true => (ev G false r' elt s1).bind fun x s2 => .ok (some x) s2
    | .bool false => .ok none s1
    | _ => .stuck
  | none => .stuck
def compF (k : Srk) (src : List Xp) (r : MRho) (f : D → T → Rs T (Option D)) (s : T) : Rs T (List D) := (evs G true r src s).bind fun ss s1 => match srcD k ss with
  | some ds => if ds.length ≤ LIM then noX (compM f ds s1) else .stuck
  | none => .stuck
def evF (r : MRho) : Xp → T → Rs T (List D)
  | .list es, s => (evs G false r es s).bind fun ds s1 => if ds.length ≤ LIM then .ok ds s1 else .stuck
  | .comp elt tg k src none, s => compF G k src r (turnE G r tg elt) s
  | .comp elt tg k src (some c), s => compF G k src r (turnC G r tg elt c) s
  | .blt .list es, s => (evs G true r es s).bind fun ds s1 => match ds with
    | [.list l] => .ok l s1
    | [.tuple l] => .ok l s1
    | _ => .stuck
  | .callF f es, s => if es.length = G.ar f then (evs G false r es s).bind fun ds s1 => G.FF f ds s1 else .stuck
  | _, _ => .stuck
theorem bind_assoc' {A B C : Type} (r : Rs T A) (f : A → T → Rs T B) (k : B → T → Rs T C) : (r.bind f).bind k = r.bind fun a s => (f a s).bind k := by cases r <;> rfl
theorem ev_fresh (b : Bool) (r : MRho) : ∀ (c : Xp) (s : T), freshX c = true → ev G b r c s = (evF G r c s).bind fun l s1 => .ok (.list l) s1
  | .list es, s, _ => by
    simp only [ev, evF, bind_assoc']
    congr 1
    funext ds s1
    split <;> rfl
  | .comp elt tg k src none, s, _ => by
    simp only [ev, evF, compF, bind_assoc']
    congr 1
    funext ss s1
    cases srcD k ss with
    | none => rfl
    | some ds =>
      simp only
      split <;> rfl
  | .comp elt tg k src (some c), s, _ => by
    simp only [ev, evF, compF, bind_assoc']
    congr 1
    funext ss s1
    cases srcD k ss with
    | none => rfl
    | some ds =>
      simp only
      split <;> rfl
  | .blt .list es, s, _ => by
    simp only [ev, evF, bind_assoc']
    congr 1
    funext ds s1
    rcases ds with _ | ⟨d, _ | ⟨e, t⟩⟩
    · rfl
    · cases d <;> rfl
    · cases d <;> rfl
  | .callF f es, s, _ => by
    simp only [ev, evF]
    split
    · rw [bind_assoc']
    · rfl
end
/-! ### readings -/
abbrev WantF (G : SS) (H : Hp) (Q : VK) : List D → Wl → Hp → G.T → Prop := fun ds S' H' _ => ∀ a xs, H a = none → ¬ S' a → ¬ S'.Z a → H' a = some (.lst xs) → Reps S' H' xs ds → Q (.ref a) H'
section
variable (G : SS) (TB : Tab G.T) (E : L2.St → XK) (xc : Nat → Value)
def TXp (b : Bool) (c : Xp) : TE := fun sg H Q => ∃ H0 S r st, Wd G S H st ∧ Fm G H0 S H sg r ∧ Out G (E sg) xc S H (ev TB b r c st) (WantB G b Q)
def TXs (b : Bool) (cs : List Xp) : TA := fun sg H Q => ∃ H0 S r st, Wd G S H st ∧ Fm G H0 S H sg r ∧ Out G (E sg) xc S H (evs TB b r cs st) (fun ds S' H' _ => ∀ vs, RepBs G b S' H' vs ds → Q vs H')
def TTp (c : Xp) : TT := fun sg H Q => ∃ H0 S r st, Wd G S H st ∧ Fm G H0 S H sg r ∧ Out G (E sg) xc S H (ev TB false r c st) (fun d S' H' _ => ∃ k, d = .bool k ∧ Q k H')
def TFr (c : Xp) : TE := fun sg H Q => ∃ H0 S r st, Wd G S H st ∧ Fm G H0 S H sg r ∧ Out G (E sg) xc S H (evF TB r c st) (WantF G H Q)
/-- a def's promise -/
def spOf (n : Nat) (f : List D → G.T → Rs G.T D) : Sp := fun vs H Q E => vs.length = n ∧ ∃ S ds st, Wd G S H st ∧ Reps S H vs ds ∧ Out G E xc S H (f ds st) (WantD G Q)
def spFF (n : Nat) (f : List D → G.T → Rs G.T (List D)) : Sp := fun vs H Q E => vs.length = n ∧ ∃ S ds st, Wd G S H st ∧ Reps S H vs ds ∧ Out G E xc S H (f ds st) (WantF G H Q)
end
structure FnAt (P : Program) (w : World) (K : PySem.W.Frag) (mg : Str → Option Value) (base : Heap) (CX : CXT) (k : Nat) (x : Str) (sp : Sp) : Prop where
  ex : ∃ (f : Addr) (fd : FuncData) (ps : List Str), FnOk P w K mg base CX k f fd ps sp ∧ mg x = some (.ref f) ∧ PySem.W.keepIn K (.ref f) = true ∧ Binds K fd ps []
/-- an exception's class by its name -/
def XclAt (G : SS) (K : PySem.W.Frag) (mg : Str → Option Value) (x : Str) (i : Nat) : Prop := ∃ cv v, (mg x = some cv ∨ (mg x = none ∧ bootBuiltins x = some cv ∧ x ≠ "__name__")) ∧ RelV v cv ∧ (∀ u, RelV v u → u = cv) ∧ ∀ st S H, G.R st S H → ∀ c, c < 6 → ExcC K (S.X c) ∧ PySem.W.kitOne K (.ref (S.X c)) cv = some (subB c i)
structure Ctx (G : SS) (TB : Tab G.T) (g : Cfg) (xc : Nat → Value) (CX : CXT) (k : Nat) (E : L2.St → XK) (sc : Scope) (X : Cx) : Prop where
  scope : X.env.scope = sc
  N : X.N = g.N
  nd : X.N.Nodup
  calm : X.calm = true
  room : Room k X.A
  blt : ∀ x ∈ bltNames, X.mg x = none
  cst : ∀ x d, g.cst.lookup x = some d → ∃ u v, X.mg x = some u ∧ RelV v u ∧ ∀ S H, Rep S H v d
  fns : ∀ x i, g.fns.lookup x = some i → FnAt X.prog X.w X.K X.mg X.base CX k x (spOf G xc (TB.ar i) (TB.F i))
  ffs : ∀ x i, g.ffs.lookup x = some i → FnAt X.prog X.w X.K X.mg X.base CX k x (spFF G xc (TB.ar i) (TB.FF i))
  xcl : ∀ x i, g.xcl.lookup x = some i → XclAt G X.K X.mg x i
  pas : ∀ sg, PassesAt CX X sg (E sg)
  cx0 : ∀ Y : Cx, Y.prog = X.prog → Y.w = X.w → ∀ sg, PassesAt CX Y sg fun _ _ _ => False
theorem _root_.L2.PE.imp {X : Cx} {e : Expr} {t u : TE} (h : PE X e t) (f : ∀ sg H Q, u sg H Q → t sg H Q) : PE X e u := ⟨fun pins s sg H Q I q => h.run pins s sg H Q I (f _ _ _ q)⟩
theorem _root_.L2.PT.imp {X : Cx} {e : Expr} {t u : TT} (h : PT X e t) (f : ∀ sg H Q, u sg H Q → t sg H Q) : PT X e u := ⟨fun pins s sg H Q I q => h.run pins s sg H Q I (f _ _ _ q)⟩
theorem _root_.L2.PW.imp {X : Cx} {e : Expr} {t u : TT} (h : PW X e t) (f : ∀ sg H Q, u sg H Q → t sg H Q) : PW X e u := ⟨fun w pins s sg H Q I q => h.run w pins s sg H Q I (f _ _ _ q)⟩
theorem _root_.L2.PA.imp {X : Cx} {e : List Expr} {t u : TA} (h : PA X e t) (f : ∀ sg H Q, u sg H Q → t sg H Q) : PA X e u := ⟨fun p pins s sg H Q I q => h.run p pins s sg H Q I (f _ _ _ q)⟩
theorem _root_.L2.PI.imp {X : Cx} {tg e : Expr} {t u : TI} (h : PI X tg e t) (f : ∀ sg H Q, u sg H Q → t sg H Q) : PI X tg e u := ⟨fun pins s sg H Q I q => h.run pins s sg H Q I (f _ _ _ q)⟩
end MR

namespace MR
open PySem PySem.Spec PyProof.Rows L2
section
variable {G : SS} {TB : Tab G.T} {g : Cfg} {xc : Nat → Value} {CX : CXT} {k : Nat} {E : L2.St → XK} {E0 : XK} {sc : Scope} {X : Cx} {pos : Pos}
theorem ok_lit {v : V} {d : D} {e : Expr} (h : PE X e (tC v)) (r : ∀ S H, Rep S H v d) (b : Bool) : PE X e (TXp G TB E xc b (.lit d)) := h.imp fun sg H Q ⟨H0, S, rr, st, w, f, o⟩ => by
  simp only [ev] at o
  exact o S H .refl w v (.inl (r S H))
theorem ok_var {i : Nat} {x : Str} (hN : X.N[i]? = some x) (hv : Vis X.env.scope x) (hd : (x == ("__debug__" : Str)) = false) (hcd : (x == ("__classdict__" : Str)) = false) (b : Bool) : PE X (.Name x pos) (TXp G TB E xc b (.var i)) :=
  (pe_var (pos := pos) hN hv hd hcd).imp fun sg H Q ⟨H0, S, rr, st, w, f, o⟩ => by
    simp only [ev] at o
    obtain ⟨d, hd, o⟩ := o.of
    obtain ⟨v, hv, r⟩ := f.get hd
    exact ⟨v, hv, o S H .refl w v r⟩
theorem WantB.up {b : Bool} {Q : VK} {S : Wl} {H : Hp} {r : Rs G.T D} (h : Out G E0 xc S H r (WantB G b Q)) : Out G E0 xc S H r (WantD G Q) := h.imp fun _ _ _ _ _ _ q v r => q v (.inl r)
section
variable {a b c : Expr} {x y z : Xp} {bb : Bool}
theorem ok_bin2 {e : Expr} {o : Bop} {ta tb : TE} (ht : PE X e (tOp (rD G Ef xc o) ta tb)) (ha : ∀ sg H Q, TXp G TB E xc true x sg H Q → ta sg H Q) (hb : ∀ sg H Q, TXp G TB E xc true y sg H Q → tb sg H Q) : PE X e (TXp G TB E xc bb (.bin o x y)) :=
  ht.imp fun sg H Q ⟨H0, S, rr, st, w, f, o⟩ => by
    simp only [ev] at o
    refine ha sg H _ ⟨H0, S, rr, st, w, f, o.bind.imp fun d S1 H1 st1 x1 w1 o1 v1 r1 => ?_⟩
    refine hb sg H1 _ ⟨H0, S1, rr, st1, w1, f.ext w x1, o1.bind.imp fun d2 S2 H2 st2 x2 w2 o2 v2 r2 => ?_⟩
    exact ⟨S2, d, d2, st2, w2, r1.ext w1 x2, r2, (WantB.up o2).sw⟩
theorem ok_bin {op : Operator} {o : Bop} (hr : OpR X (binaryOp op) (rD G Ef xc o)) (ha : PE X a (TXp G TB E xc true x)) (hb : PE X b (TXp G TB E xc true y)) : PE X (.BinOp a op b pos) (TXp G TB E xc bb (.bin o x y)) :=
  ok_bin2 (pe_op hr ha hb) (fun _ _ _ h => h) fun _ _ _ h => h
theorem ok_cmp {op : CmpOp} {o : Bop} (hr : OpR X (compareOp op) (rD G Ef xc o)) (ha : PE X a (TXp G TB E xc true x)) (hb : PE X b (TXp G TB E xc true y)) (hm : behindInMarks op b = false) : PE X (.Compare a [op] [b] pos) (TXp G TB E xc bb (.bin o x y)) :=
  ok_bin2 (pe_cmpR hr ha hb hm) (fun _ _ _ h => h) fun _ _ _ h => h
theorem okt_cmp {op : CmpOp} {o : Bop} (hr : OpR X (compareOp op) (rD G Ef xc o)) (ha : PE X a (TXp G TB E xc true x)) (hb : PE X b (TXp G TB E xc true y)) (hm : behindInMarks op b = false) : PT X (.Compare a [op] [b] pos) (TTp G TB E xc (.bin o x y)) :=
  (pt_cmpR (pos := pos) hr ha hb hm).imp fun sg H Q ⟨H0, S, rr, st, w, f, o⟩ => by
    simp only [ev] at o
    refine ⟨H0, S, rr, st, w, f, o.bind.imp fun d S1 H1 st1 x1 w1 o1 v1 r1 => ?_⟩
    refine ⟨H0, S1, rr, st1, w1, f.ext w x1, o1.bind.imp fun d2 S2 H2 st2 x2 w2 o2 v2 r2 => ?_⟩
    refine ⟨S2, d, d2, st2, w2, r1.ext w1 x2, r2, (o2.imp fun d3 S3 H3 st3 x3 w3 o3 v3 r3 => ?_).sw⟩
    obtain ⟨k, rfl, q⟩ := o3
    cases r3
    exact ⟨k, rfl, q⟩
theorem ok_neg (ha : PE X a (TXp G TB E xc false x)) : PE X (.UnaryOp .USub a pos) (TXp G TB E xc bb (.neg x)) :=
  (pe_un (pos := pos) un_neg ha).imp fun sg H Q ⟨H0, S, rr, st, w, f, o⟩ => by
    simp only [ev] at o
    refine ⟨H0, S, rr, st, w, f, o.bind.imp fun d S1 H1 st1 x1 w1 o1 v1 r1 => ?_⟩
    cases d <;> first | exact o1.elim | skip
    cases r1.int
    exact ⟨_, rfl, o1 S1 H1 .refl w1 _ (.inl (.int _))⟩
theorem ok_not (ha : PE X a (TXp G TB E xc false x)) : PE X (.UnaryOp .Not a pos) (TXp G TB E xc bb (.not x)) :=
  (pe_not (pos := pos) ha).imp fun sg H Q ⟨H0, S, rr, st, w, f, o⟩ => by
    simp only [ev] at o
    refine ⟨H0, S, rr, st, w, f, o.bind.imp fun d S1 H1 st1 x1 w1 o1 v1 r1 => ?_⟩
    cases d <;> first | exact o1.elim | skip
    cases r1.bool
    exact ⟨_, rfl, o1 S1 H1 .refl w1 _ (.inl (.bl _))⟩
theorem okt_not (ha : PT X a (TTp G TB E xc x)) : PT X (.UnaryOp .Not a pos) (TTp G TB E xc (.not x)) :=
  (pt_not (pos := pos) ha).imp fun sg H Q ⟨H0, S, rr, st, w, f, o⟩ => by
    simp only [ev] at o
    refine ⟨H0, S, rr, st, w, f, o.bind.imp fun d S1 H1 st1 x1 w1 o1 => ?_⟩
    cases d <;> first | exact o1.elim | skip
    obtain ⟨k, e, q⟩ := o1 S1 H1 .refl w1
    cases e
    exact ⟨_, rfl, q⟩
theorem ok_and {r : List Expr} (ha : PE X a (TXp G TB E xc false x)) (hb : PE X (.BoolOp .And (b :: r) pos) (TXp G TB E xc false y)) : PE X (.BoolOp .And (a :: b :: r) pos) (TXp G TB E xc bb (.and x y)) :=
  (pe_and (pos := pos) ha hb).imp fun sg H Q ⟨H0, S, rr, st, w, f, o⟩ => by
    simp only [ev] at o
    refine ⟨H0, S, rr, st, w, f, o.bind.imp fun d S1 H1 st1 x1 w1 o1 v1 r1 => ?_⟩
    cases d <;> first | exact o1.elim | skip
    rename_i c
    cases r1.bool
    refine ⟨c, rfl, ?_⟩
    cases c with
    | true =>
      simp only [if_true]
      exact ⟨H0, S1, rr, st1, w1, f.ext w x1, Out.imp o1 fun _ _ _ _ _ _ q v r => q v (.inl r.rep)⟩
    | false =>
      simp only [Bool.false_eq_true, if_false]
      exact o1 S1 H1 .refl w1 _ (.inl (.bl _))
theorem ok_or {r : List Expr} (ha : PE X a (TXp G TB E xc false x)) (hb : PE X (.BoolOp .Or (b :: r) pos) (TXp G TB E xc false y)) : PE X (.BoolOp .Or (a :: b :: r) pos) (TXp G TB E xc bb (.or x y)) :=
  (pe_or (pos := pos) ha hb).imp fun sg H Q ⟨H0, S, rr, st, w, f, o⟩ => by
    simp only [ev] at o
    refine ⟨H0, S, rr, st, w, f, o.bind.imp fun d S1 H1 st1 x1 w1 o1 v1 r1 => ?_⟩
    cases d <;> first | exact o1.elim | skip
    rename_i c
    cases r1.bool
    refine ⟨c, rfl, ?_⟩
    cases c with
    | false =>
      simp only [Bool.false_eq_true, if_false]
      exact ⟨H0, S1, rr, st1, w1, f.ext w x1, Out.imp o1 fun _ _ _ _ _ _ q v r => q v (.inl r.rep)⟩
    | true =>
      simp only [if_true]
      exact o1 S1 H1 .refl w1 _ (.inl (.bl _))
theorem okt_and {r : List Expr} (ha : PT X a (TTp G TB E xc x)) (hb : PW X (.BoolOp .And (b :: r) pos) (TTp G TB E xc y)) : PW X (.BoolOp .And (a :: b :: r) pos) (TTp G TB E xc (.and x y)) :=
  (pw_and (pos := pos) ha hb).imp fun sg H Q ⟨H0, S, rr, st, w, f, o⟩ => by
    simp only [ev] at o
    refine ⟨H0, S, rr, st, w, f, o.bind.imp fun d S1 H1 st1 x1 w1 o1 => ?_⟩
    cases d <;> first | exact o1.elim | skip
    rename_i c
    refine ⟨c, rfl, ?_⟩
    cases c with
    | true =>
      simp only [if_true]
      exact ⟨H0, S1, rr, st1, w1, f.ext w x1, o1⟩
    | false =>
      simp only [Bool.false_eq_true, if_false]
      obtain ⟨k, e, q⟩ := o1 S1 H1 .refl w1
      cases e
      exact q
theorem okt_or {r : List Expr} (ha : PT X a (TTp G TB E xc x)) (hb : PW X (.BoolOp .Or (b :: r) pos) (TTp G TB E xc y)) : PW X (.BoolOp .Or (a :: b :: r) pos) (TTp G TB E xc (.or x y)) :=
  (pw_or (pos := pos) ha hb).imp fun sg H Q ⟨H0, S, rr, st, w, f, o⟩ => by
    simp only [ev] at o
    refine ⟨H0, S, rr, st, w, f, o.bind.imp fun d S1 H1 st1 x1 w1 o1 => ?_⟩
    cases d <;> first | exact o1.elim | skip
    rename_i c
    refine ⟨c, rfl, ?_⟩
    cases c with
    | false =>
      simp only [Bool.false_eq_true, if_false]
      exact ⟨H0, S1, rr, st1, w1, f.ext w x1, o1⟩
    | true =>
      simp only [if_true]
      obtain ⟨k, e, q⟩ := o1 S1 H1 .refl w1
      cases e
      exact q
/-- a value that is a bool, as a test -/
theorem okt_val {e : Expr} {v : Xp} (h : PE X e (TXp G TB E xc false v)) (he : ∀ whole, isTrue e X.env whole = (do let v ← whole; standAt e.pos; holding [v] (truthy v))) : PT X e (TTp G TB E xc v) :=
  (pt_val h he).imp fun sg H Q ⟨H0, S, rr, st, w, f, o⟩ => ⟨H0, S, rr, st, w, f, o.imp fun d S1 H1 st1 x1 w1 ⟨k, e, q⟩ v r => by
    subst e
    cases r.bool
    exact ⟨k, rfl, q⟩⟩
theorem chn_red {o p : Bop} (ho : OpR X (compareOp op) (rD G Ef xc o)) : True := trivial
theorem ok_chn_aux {o p : Bop} {sg : L2.St} {H : Hp} {Q : VK} (h : TXp G TB E xc bb (.chn o p x y z) sg H Q) : tChain (rD G Ef xc o) (rD G Ef xc p) (TXp G TB E xc true x) (TXp G TB E xc true y) (TXp G TB E xc true z) sg H Q := by
  obtain ⟨H0, S, rr, st, w, f, o⟩ := h
  simp only [ev] at o
  refine ⟨H0, S, rr, st, w, f, o.bind.imp fun d S1 H1 st1 x1 w1 o1 v1 r1 => ?_⟩
  refine ⟨H0, S1, rr, st1, w1, f.ext w x1, o1.bind.imp fun d2 S2 H2 st2 x2 w2 o2 v2 r2 => ?_⟩
  rename_i op1
  refine ⟨S2, d, d2, st2, w2, r1.ext w1 x2, r2, ?_⟩
  cases e : opD op1 d d2 with
  | none => rw [e] at o2; exact o2.elim
  | some t =>
    rw [e] at o2
    intro S3 H3 x3 w3 v3 r3
    cases t <;> first | exact o2.elim | skip
    rename_i c
    cases r3
    refine ⟨c, rfl, ?_⟩
    cases c with
    | true =>
      simp only [if_true]
      refine ⟨H0, S3, rr, st2, w3, ((f.ext w x1).ext w1 x2).ext w2 x3, (Out.ext o2 x3).bind.imp fun d4 S4 H4 st4 x4 w4 o4 v4 r4 => ?_⟩
      exact ⟨S4, d2, d4, st4, w4, (r2.ext w2 x3).ext w3 x4, r4, (WantB.up o4).sw⟩
    | false =>
      simp only [Bool.false_eq_true, if_false]
      exact o2 S3 H3 x3 w3 _ (.inl (.bl _))
theorem ok_chn {op op' : CmpOp} {o p : Bop} (hr : OpR X (compareOp op) (rD G Ef xc o)) (hr' : OpR X (compareOp op') (rD G Ef xc p)) (ha : PE X a (TXp G TB E xc true x)) (hb : PE X b (TXp G TB E xc true y)) (hc : PE X c (TXp G TB E xc true z)) (hm : lastMarks [op, op'] [b, c] = false) :
    PE X (.Compare a [op, op'] [b, c] pos) (TXp G TB E xc bb (.chn o p x y z)) := (pe_chain (pos := pos) hr hr' ha hb hc hm).imp fun _ _ _ h => ok_chn_aux h
theorem okt_chn {op op' : CmpOp} {o p : Bop} (hr : OpR X (compareOp op) (rD G Ef xc o)) (hr' : OpR X (compareOp op') (rD G Ef xc p)) (ha : PE X a (TXp G TB E xc true x)) (hb : PE X b (TXp G TB E xc true y)) (hc : PE X c (TXp G TB E xc true z)) (hm : lastMarks [op, op'] [b, c] = false) :
    PT X (.Compare a [op, op'] [b, c] pos) (TTp G TB E xc (.chn o p x y z)) := (pt_chain (pos := pos) hr hr' ha hb hc hm).imp fun sg H Q h => by
  obtain ⟨H0, S, rr, st, w, f, o⟩ := h
  refine ok_chn_aux (bb := false) ⟨H0, S, rr, st, w, f, o.imp fun d S1 H1 st1 x1 w1 ⟨k, e, q⟩ v r => ?_⟩
  subst e
  cases r.bool
  exact ⟨k, rfl, q⟩
theorem ok_ite (hc : PT X c (TTp G TB E xc z)) (ha : PE X a (TXp G TB E xc false x)) (hb : PE X b (TXp G TB E xc false y)) : PE X (.IfExp c a b pos) (TXp G TB E xc bb (.ite z x y)) :=
  (pe_ifExp (pos := pos) hc ha hb).imp fun sg H Q ⟨H0, S, rr, st, w, f, o⟩ => by
    simp only [ev] at o
    refine ⟨H0, S, rr, st, w, f, o.bind.imp fun d S1 H1 st1 x1 w1 o1 => ?_⟩
    cases d <;> first | exact o1.elim | skip
    rename_i c
    refine ⟨c, rfl, ?_⟩
    cases c with
    | true =>
      simp only [if_true]
      exact ⟨H0, S1, rr, st1, w1, f.ext w x1, Out.imp o1 fun _ _ _ _ _ _ q v r => q v (.inl r.rep)⟩
    | false =>
      simp only [Bool.false_eq_true, if_false]
      exact ⟨H0, S1, rr, st1, w1, f.ext w x1, Out.imp o1 fun _ _ _ _ _ _ q v r => q v (.inl r.rep)⟩
theorem ok_idx (ha : PE X a (TXp G TB E xc true x)) (hb : PE X b (TXp G TB E xc false y)) (hs : PlainIx b) : PE X (.Subscript a b pos) (TXp G TB E xc bb (.idx x y)) :=
  (pe_ix (pos := pos) (ixR_idx (E := Ef)) ha hb hs).imp fun sg H Q ⟨H0, S, rr, st, w, f, o⟩ => by
    simp only [ev] at o
    refine ⟨H0, S, rr, st, w, f, o.bind.imp fun d S1 H1 st1 x1 w1 o1 v1 r1 => ?_⟩
    refine ⟨H0, S1, rr, st1, w1, f.ext w x1, o1.bind.imp fun d2 S2 H2 st2 x2 w2 o2 v2 r2 => ?_⟩
    exact ⟨S2, d, d2, st2, w2, r1.ext w1 x2, r2.rep, (WantB.up o2).sw⟩
theorem ok_rev {kk : Nat} {p1 p2 p3 : Pos} (ha : PE X a (TXp G TB E xc true x)) : PE X (.Subscript a (.Slice none none (some (.UnaryOp .USub (.Constant (.int 1) kk p1) p2)) p3) pos) (TXp G TB E xc bb (.rev x)) :=
  (pe_revL (pos := pos) ha).imp fun sg H Q ⟨H0, S, rr, st, w, f, o⟩ => by
    simp only [ev] at o
    refine ⟨H0, S, rr, st, w, f, o.bind.imp fun d S1 H1 st1 x1 w1 o1 v1 r1 => ?_⟩
    cases d <;> first | exact o1.elim | skip
    obtain ⟨q, xs, rfl, hq, rq⟩ := r1.list
    exact ⟨q, xs, rfl, .inl (.inl hq), fun p hp => (WantB.up (b := bb) o1).newL w1 rq.reverse hp⟩
/-- a cut's part -/
def TPart (G : SS) (TB : Tab G.T) (E : L2.St → XK) (xc : Nat → Value) (c : Xp) : TO := fun sg H Q => ∃ H0 S r st, Wd G S H st ∧ Fm G H0 S H sg r ∧ Out G (E sg) xc S H (ev TB false r c st) (fun d S' H' _ => ∃ l, bndX c d = some l ∧ Q l H')
theorem ok_part (ha : PE X a (TXp G TB E xc false x)) (hx : notNone x = some x) : PO X (some a) (TPart G TB E xc x) := by
  refine ⟨fun pins s sg H Q I h => (po_some ha).run pins s sg H Q I ?_⟩
  obtain ⟨H0, S, rr, st, w, f, o⟩ := h
  refine ⟨H0, S, rr, st, w, f, o.imp fun d S1 H1 st1 x1 w1 ⟨l, e, q⟩ v r => ?_⟩
  have : ∃ i, d = .int i ∧ l = some i := by
    unfold bndX at e
    split at e
    · cases hx
    · cases e
      exact ⟨_, rfl, rfl⟩
    · cases e
  obtain ⟨i, rfl, rfl⟩ := this
  cases r.int
  exact ⟨i, rfl, q⟩
theorem ok_nopart : PO X none (TPart G TB E xc (.lit .none)) := by
  refine ⟨fun pins s sg H Q I h => po_none.run pins s sg H Q I ?_⟩
  obtain ⟨H0, S, rr, st, w, f, o⟩ := h
  simp only [ev] at o
  obtain ⟨l, e, q⟩ := o S H .refl w
  cases e
  exact q
theorem ok_slc {lo hi : Option Expr} {l h : Xp} {p2 : Pos} (ha : PE X a (TXp G TB E xc true x)) (hl : PO X lo (TPart G TB E xc l)) (hh : PO X hi (TPart G TB E xc h)) : PE X (.Subscript a (.Slice lo hi none p2) pos) (TXp G TB E xc bb (.slc x l h)) :=
  (pe_slice (pos := pos) (slR_slc (E := Ef)) ha hl hh).imp fun sg H Q ⟨H0, S, rr, st, w, f, o⟩ => by
    simp only [ev] at o
    refine ⟨H0, S, rr, st, w, f, o.bind.imp fun d S1 H1 st1 x1 w1 o1 v1 r1 => ?_⟩
    refine ⟨H0, S1, rr, st1, w1, f.ext w x1, o1.bind.imp fun d2 S2 H2 st2 x2 w2 o2 => ?_⟩
    cases e : bndX l d2 with
    | none => rw [e] at o2; exact o2.elim
    | some l' =>
      rw [e] at o2
      refine ⟨l', rfl, H0, S2, rr, st2, w2, (f.ext w x1).ext w1 x2, o2.bind.imp fun d3 S3 H3 st3 x3 w3 o3 => ?_⟩
      cases e3 : bndX h d3 with
      | none => rw [e3] at o3; exact o3.elim
      | some h' =>
        rw [e3] at o3
        exact ⟨h', rfl, S3, d, st3, w3, (r1.ext w1 x2).ext w2 x3, (WantB.up o3).sw⟩
/-! ### arguments -/
inductive OkL (X : Cx) (P : Expr → Xp → Prop) : List Expr → List Xp → Prop
  | nil : OkL X P [] []
  | cons {e : Expr} {es : List Expr} {x : Xp} {xs : List Xp} : P e x → (∀ (l : List Expr) (env : Env), starEach (e :: l) env = (false, eval e env) :: starEach l env) → OkL X P es xs → OkL X P (e :: es) (x :: xs)
theorem OkL.length {P : Expr → Xp → Prop} {es : List Expr} {xs : List Xp} (h : OkL X P es xs) : es.length = xs.length := by
  induction h with
  | nil => rfl
  | cons _ _ _ ih => simp only [List.length_cons, ih]
theorem OkL.any {P : Expr → Xp → Prop} {es : List Expr} {xs : List Xp} (h : OkL X P es xs) (env : Env) (pos : Pos) : (backTo pos (starEach es env)).any (·.1) = false := by
  induction h with
  | nil => rfl
  | cons _ s _ ih =>
    rw [s]
    show (false || (backTo pos (starEach _ env)).any (·.1)) = false
    rw [ih]
    rfl
theorem ok_args {es : List Expr} {xs : List Xp} (h : OkL X (fun e x => PE X e (TXp G TB E xc bb x)) es xs) : PA X es (TXs G TB E xc bb xs) := by
  induction h with
  | nil => exact pa_nil.imp fun sg H Q ⟨H0, S, rr, st, w, f, o⟩ => o S H .refl w [] .nil
  | cons p s _ ih =>
    refine (pa_cons p ih (s _ _)).imp fun sg H Q ⟨H0, S, rr, st, w, f, o⟩ => ?_
    simp only [evs] at o
    refine ⟨H0, S, rr, st, w, f, o.bind.imp fun d S1 H1 st1 x1 w1 o1 v1 r1 => ?_⟩
    refine ⟨H0, S1, rr, st1, w1, f.ext w x1, o1.bind.imp fun d2 S2 H2 st2 x2 w2 o2 v2 r2 => ?_⟩
    exact o2 S2 H2 .refl w2 _ (.cons (r1.ext w1 x2) r2)
/-- a new list is plain data, too -/
theorem reps_up {S : Wl} {H : Hp} {p : Addr} {xs : List V} {ds : List D} (r : Reps S H xs ds) : Reps (addS S p) H xs ds := Reps.mono (S' := addS S p) (fun _ z => Or.inl z) rfl (fun _ _ _ h => h) (fun _ _ h => h) _ _ r
theorem fresh_out {S : Wl} {H : Hp} {Q : VK} {r : Rs G.T (List D)} (o : Out G E0 xc S H (r.bind fun l s1 => .ok (.list l) s1) (WantB G bb Q)) : Out G E0 xc S H r (WantF G H Q) := by
  cases r with
  | ok l st =>
    intro S1 H1 x1 w1 a xs h1 h2 h3 h4 h5
    exact o (addS S1 a) H1 (x1.addS h1) (w1.addS h3 (by rw [h4]; exact fun z => nomatch z)) _ (.inl (.lst (.inr rfl) h4 (reps_up h5)))
  | exc c st => exact o
  | stuck => exact o
theorem ok_fresh {e : Expr} (hf : freshX x = true) (h : PE X e (TFr G TB E xc x)) : PE X e (TXp G TB E xc bb x) := h.imp fun sg H Q ⟨H0, S, rr, st, w, f, o⟩ => by
  rw [ev_fresh TB bb rr x st hf] at o
  exact ⟨H0, S, rr, st, w, f, fresh_out o⟩
theorem laidL {S0 S : Wl} {H0 H : Hp} {st : G.T} {p : Addr} {vs : List V} {ds : List D} {Q : VK} (o : Out G E0 xc S H (.ok ds st) (WantF G H0 Q)) (x0 : Ext G S0 H0 S H) (w : Wd G S H st) (r : Reps S H vs ds) (hp : H p = none) : Q (.ref p) (upd H p (.lst vs)) := by
  have x : Ext G S H S (upd H p (.lst vs)) := Ext.laid hp
  exact o S _ x (w.laid hp) p vs (x0.kn p hp) (w.nS hp) (w.fresh hp) upd_same (r.ext w x)
theorem ok_list {es : List Expr} {xs : List Xp} (h : PA X es (TXs G TB E xc false xs)) : PE X (.List es pos) (TFr G TB E xc (.list xs)) :=
  (pe_lst (pos := pos) h).imp fun sg H Q ⟨H0, S, rr, st, w, f, o⟩ => by
    simp only [evF] at o
    refine ⟨H0, S, rr, st, w, f, o.bind.imp fun ds S1 H1 st1 x1 w1 o1 vs r1 => ?_⟩
    split at o1
    · rename_i hl
      refine ⟨?_, fun p hp => laidL o1 x1 w1 r1.reps hp⟩
      rw [r1.length]
      exact lim_size hl
    · exact o1.elim
theorem ok_tup {es : List Expr} {xs : List Xp} {kk : Nat} (h : PA X es (TXs G TB E xc false xs)) : PE X (.Tuple es kk pos) (TXp G TB E xc bb (.tup xs)) :=
  (pe_tup (pos := pos) h).imp fun sg H Q ⟨H0, S, rr, st, w, f, o⟩ => by
    simp only [ev] at o
    refine ⟨H0, S, rr, st, w, f, o.bind.imp fun ds S1 H1 st1 x1 w1 o1 vs r1 => ?_⟩
    split at o1
    · rename_i hl
      refine ⟨?_, fun p hp => (WantB.up (b := bb) o1).newT w1 r1.reps hp⟩
      rw [r1.length]
      exact lim_size hl
    · exact o1.elim
/-! ### calls -/
theorem ok_blt {e : Expr} {fx : Blt} {xs : List Xp} {ta : TA} (h : PE X e (tCB (rBlt G Ef xc fx) ta)) (ha : ∀ sg H Q, TXs G TB E xc true xs sg H Q → ta sg H Q) : PE X e (TXp G TB E xc bb (.blt fx xs)) :=
  h.imp fun sg H Q ⟨H0, S, rr, st, w, f, o⟩ => by
    simp only [ev] at o
    refine ha sg H _ ⟨H0, S, rr, st, w, f, o.bind.imp fun ds S1 H1 st1 x1 w1 o1 vs r1 => ?_⟩
    exact ⟨S1, ds, st1, w1, r1, (WantB.up o1).sw⟩
theorem ok_bltList {e : Expr} {xs : List Xp} {ta : TA} (h : PE X e (tCB (fun xs H Q => ∃ p ys, xs = [.ref p] ∧ (SqL X.K H p ys ∨ SqT X.K H p ys) ∧ ∀ l, H l = none → Q (.ref l) (upd H l (.lst ys))) ta)) (ha : ∀ sg H Q, TXs G TB E xc true xs sg H Q → ta sg H Q) : PE X e (TFr G TB E xc (.blt .list xs)) :=
  h.imp fun sg H Q ⟨H0, S, rr, st, w, f, o⟩ => by
    simp only [evF] at o
    refine ha sg H _ ⟨H0, S, rr, st, w, f, o.bind.imp fun ds S1 H1 st1 x1 w1 o1 vs r1 => ?_⟩
    split at o1
    · obtain ⟨v, rfl, r2⟩ := r1.inv1
      obtain ⟨p, ys, rfl, hp, ry⟩ := r2.list
      exact ⟨p, ys, rfl, .inl (.inl (.inl hp)), fun l hl => laidL o1 x1 w1 ry hl⟩
    · obtain ⟨v, rfl, r2⟩ := r1.inv1
      obtain ⟨p, ys, rfl, hp, ry⟩ := r2.tuple
      exact ⟨p, ys, rfl, .inr (.inl (.inl hp)), fun l hl => laidL o1 x1 w1 ry hl⟩
    · exact o1.elim
theorem ok_call {e : Expr} {n : Nat} {xs : List Xp} {ta : TA} (h : PE X e (tCallS (spOf G xc (TB.ar n) (TB.F n)) E ta)) (ha : ∀ sg H Q, TXs G TB E xc false xs sg H Q → ta sg H Q) (hl : ∀ (r : MRho) st ds st', evs TB false r xs st = .ok ds st' → ds.length = xs.length) : PE X e (TXp G TB E xc bb (.call n xs)) :=
  h.imp fun sg H Q ⟨H0, S, rr, st, w, f, o⟩ => by
    simp only [ev] at o
    split at o
    · rename_i hn
      refine ha sg H _ ⟨H0, S, rr, st, w, f, ?_⟩
      cases q : evs TB false rr xs st with
      | ok ds st' =>
        have hd := hl rr st ds st' q
        rw [q] at o
        intro S1 H1 x1 w1 vs r1
        exact ⟨by rw [r1.length, hd]; exact hn, S1, ds, st', w1, r1.reps, WantB.up (Out.ext o x1)⟩
      | exc c st' => rw [q] at o; exact o
      | stuck => rw [q] at o; exact o
    · exact o.elim
theorem ok_callF {e : Expr} {n : Nat} {xs : List Xp} {ta : TA} (h : PE X e (tCallS (spFF G xc (TB.ar n) (TB.FF n)) E ta)) (ha : ∀ sg H Q, TXs G TB E xc false xs sg H Q → ta sg H Q) (hl : ∀ (r : MRho) st ds st', evs TB false r xs st = .ok ds st' → ds.length = xs.length) : PE X e (TFr G TB E xc (.callF n xs)) :=
  h.imp fun sg H Q ⟨H0, S, rr, st, w, f, o⟩ => by
    simp only [evF] at o
    split at o
    · rename_i hn
      refine ha sg H _ ⟨H0, S, rr, st, w, f, ?_⟩
      cases q : evs TB false rr xs st with
      | ok ds st' =>
        have hd := hl rr st ds st' q
        rw [q] at o
        intro S1 H1 x1 w1 vs r1
        exact ⟨by rw [r1.length, hd]; exact hn, S1, ds, st', w1, r1.reps, Out.imp (Out.ext o x1) fun l S2 H2 st2 x2 w2 o2 a ys h1 h2 h3 h4 h5 => o2 a ys (x1.kn a h1) h2 h3 h4 h5⟩
      | exc c st' => rw [q] at o; exact o
      | stuck => rw [q] at o; exact o
    · exact o.elim
theorem ok_isi {e : Expr} {t : Ty} {ta : TE} (h : PE X e (tCB (rIsD G Ef xc t) (tCons ta (tCons (tC (.ty (tyN t))) tNil)))) (ha : ∀ sg H Q, TXp G TB E xc true x sg H Q → ta sg H Q) : PE X e (TXp G TB E xc bb (.isi t x)) :=
  h.imp fun sg H Q ⟨H0, S, rr, st, w, f, o⟩ => by
    simp only [ev] at o
    refine ha sg H _ ⟨H0, S, rr, st, w, f, o.bind.imp fun d S1 H1 st1 x1 w1 o1 v r1 => ?_⟩
    cases e : isiD t d with
    | none => rw [e] at o1; exact o1.elim
    | some c =>
      rw [e] at o1
      exact ⟨S1, d, st1, v, c, rfl, w1, r1, e, o1 S1 H1 .refl w1 _ (.inl (.bl _))⟩
end
theorem evs_length {T : Type} (TB : Tab T) (b : Bool) (r : MRho) : ∀ (xs : List Xp) (st : T) (ds : List D) (st' : T), evs TB b r xs st = .ok ds st' → ds.length = xs.length
  | [], _, _, _, h => by
    simp only [evs] at h
    cases h
    rfl
  | x :: xs, st, ds, st', h => by
    simp only [evs] at h
    cases q : ev TB b r x st with
    | ok d s1 =>
      rw [q] at h
      simp only [Rs.bind_ok] at h
      cases q2 : evs TB b r xs s1 with
      | ok es s2 =>
        rw [q2] at h
        cases h
        simp only [List.length_cons, evs_length TB b r xs s1 es _ q2]
      | exc c s2 => rw [q2] at h; cases h
      | stuck => rw [q2] at h; cases h
    | exc c s2 => rw [q] at h; cases h
    | stuck => rw [q] at h; cases h
end
end MR

namespace MR
open PySem PySem.Spec PyProof.Rows L2
/-! ### what is walked -/
def Stp (H H' : Hp) : Prop := H' = H ∨ ∃ T xs, H T = none ∧ H' = upd H T (.tup xs)
/-- the walk's items are the data ds -/
structure WalkD (U : Addr → Prop) (S : Wl) (H : Hp) (J : It) (ds : List D) : Prop where
  ex : ∃ Gd : Hp → Prop, Walk J ds.length Gd (fun i H1 x H2 => ∃ d, ds[i]? = some d ∧ Stp H1 H2 ∧ Rep S H2 x d) ∧ ∀ H', (∀ a o, H a = some o → U a → H' a = some o) → Gd H'
/-- what must stay as it is while something is walked -/
structure UOk (U : Addr → Prop) (S : Wl) (H : Hp) : Prop where
  s : ∀ a, S a → U a
  t : ∀ a xs, H a = some (.tup xs) → U a
def Uof (G : SS) (b : Bool) (S : Wl) (H : Hp) : Addr → Prop := fun a => if b = true then ¬ S.Z a else S a ∨ ∃ xs, H a = some (.tup xs)
theorem Uof_ok {G : SS} {b : Bool} {S : Wl} {H : Hp} {st : G.T} (w : Wd G S H st) : UOk (Uof G b S H) S H := by
  cases b
  · exact ⟨fun a h => .inl h, fun a xs h => .inr ⟨xs, h⟩⟩
  · exact ⟨fun a h => w.dis a h, fun a xs h => w.ntup h⟩
theorem Stp.ext {G : SS} {S : Wl} {H H' : Hp} (h : Stp H H') : Ext G S H S H' := by
  rcases h with rfl | ⟨T, xs, h, rfl⟩
  · exact .refl
  · exact Ext.laid h
theorem Stp.wd {G : SS} {S : Wl} {H H' : Hp} {st : G.T} (h : Stp H H') (w : Wd G S H st) : Wd G S H' st := by
  rcases h with rfl | ⟨T, xs, h, rfl⟩
  · exact w
  · exact w.laid h
theorem Reps.stay {U : Addr → Prop} {S : Wl} {H H' : Hp} {xs : List V} {ds : List D} (u : UOk U S H) (k : ∀ a o, H a = some o → U a → H' a = some o) (r : Reps S H xs ds) : Reps S H' xs ds :=
  Reps.mono (fun _ z => z) rfl (fun a _ s e => k a _ e (u.s a s)) (fun a xs e => k a _ e (u.t a xs e)) _ _ r
theorem Rep.stp {S : Wl} {H H' : Hp} {v : V} {d : D} (h : Stp H H') (r : Rep S H v d) : Rep S H' v d := by
  rcases h with rfl | ⟨T, xs, h, rfl⟩
  · exact r
  · exact Rep.mono (fun _ z => z) rfl (fun a _ _ e => by rw [upd_ne (ne_of_none e h)]; exact e) (fun a _ e => by rw [upd_ne (ne_of_none e h)]; exact e) _ _ r
theorem upto_get {lo : Int} {n i : Nat} (h : i < n) : (upto lo n)[i]? = some (.int (lo + (i : Int))) := by
  unfold upto
  rw [List.getElem?_map, List.getElem?_range h]
  rfl
theorem upto_length (lo : Int) (n : Nat) : (upto lo n).length = n := by
  unfold upto
  rw [List.length_map, List.length_range]
theorem dnto_get {lo : Int} {n i : Nat} (h : i < n) : (dnto lo n)[i]? = some (.int (lo + (i : Int) * (-1))) := by
  unfold dnto
  rw [List.getElem?_map, List.getElem?_range h]
  rfl
theorem dnto_length (lo : Int) (n : Nat) : (dnto lo n).length = n := by
  unfold dnto
  rw [List.length_map, List.length_range]
theorem zipD_length : ∀ (xs ys : List D), (zipD xs ys).length = min xs.length ys.length
  | [], _ => by simp [zipD]
  | _ :: _, [] => by simp [zipD]
  | x :: xs, y :: ys => by
    simp only [zipD, List.length_cons, zipD_length xs ys]
    omega
theorem zipD_get : ∀ (xs ys : List D) (i : Nat) (x y : D), xs[i]? = some x → ys[i]? = some y → (zipD xs ys)[i]? = some (.tuple [x, y])
  | [], _, _, _, _, h, _ => by simp at h
  | _ :: _, [], _, _, _, _, h => by simp at h
  | a :: xs, b :: ys, 0, x, y, h1, h2 => by
    simp at h1 h2
    subst h1 h2
    rfl
  | a :: xs, b :: ys, i + 1, x, y, h1, h2 => by
    have := zipD_get xs ys i x y (by simpa using h1) (by simpa using h2)
    simpa [zipD] using this
theorem enmD_length : ∀ (n : Nat) (xs : List D), (enmD n xs).length = xs.length
  | _, [] => rfl
  | n, x :: xs => by simp only [enmD, List.length_cons, enmD_length (n + 1) xs]
theorem enmD_get : ∀ (n : Nat) (xs : List D) (i : Nat) (x : D), xs[i]? = some x → (enmD n xs)[i]? = some (.tuple [.int ((n + i : Nat) : Int), x])
  | _, [], _, _, h => by simp at h
  | n, a :: xs, 0, x, h => by
    simp at h
    subst h
    rfl
  | n, a :: xs, i + 1, x, h => by
    have := enmD_get (n + 1) xs i x (by simpa using h)
    simp only [enmD, List.getElem?_cons_succ, this]
    congr 5
    omega
section
variable {G : SS} {S : Wl} {H : Hp} {st : G.T} {K : PySem.W.Frag}
theorem walkD_list {b : Bool} {v : V} {ds : List D} (w : Wd G S H st) (h : RepB G b S H v (.list ds)) : ∃ a xs, v = .ref a ∧ H a = some (.lst xs) ∧ Uof G b S H a ∧ Reps S H xs ds := by
  rcases h with h | ⟨hb, a, xs, es, e1, e2, z, h1, h2⟩
  · cases h with
    | lst s e r => exact ⟨_, _, rfl, e, (Uof_ok w).s _ s, r⟩
  · cases e2
    subst hb
    exact ⟨a, xs, e1, h1, z, h2⟩
variable {U : Addr → Prop}
theorem walkD_seq {a : Addr} {xs : List V} {ds : List D} (w : UOk U S H) (ha : H a = some (.lst xs)) (nz : U a) (r : Reps S H xs ds) : WalkD U S H (Itl K a) ds := by
  refine ⟨fun H' => SqL K H' a xs ∧ Reps S H' xs ds, ?_, fun H' k => ⟨.inl (.inl (k a _ ha nz)), r.stay w k⟩⟩
  have wl := walk_list (K := K) (a := a) (xs := xs)
  rw [r.length] at wl
  refine wl.mono (fun _ h => h.1) fun i H1 x H2 hi hg y => ?_
  obtain ⟨rfl, hx⟩ := y
  obtain ⟨d, hd, rd⟩ := hg.2.get' hx
  exact ⟨d, hd, .inl rfl, rd⟩
theorem walkD_tup {a : Addr} {xs : List V} {ds : List D} (w : UOk U S H) (ha : H a = some (.tup xs)) (r : Reps S H xs ds) : WalkD U S H (Itt K a) ds := by
  refine ⟨fun H' => SqT K H' a xs ∧ Reps S H' xs ds, ?_, fun H' k => ⟨.inl (.inl (k a _ ha (w.t a _ ha))), r.stay w k⟩⟩
  have wl := walk_tup (K := K) (a := a) (xs := xs)
  rw [r.length] at wl
  refine wl.mono (fun _ h => h.1) fun i H1 x H2 hi hg y => ?_
  obtain ⟨rfl, hx⟩ := y
  obtain ⟨d, hd, rd⟩ := hg.2.get' hx
  exact ⟨d, hd, .inl rfl, rd⟩
theorem walkD_rng (lo : Int) (n : Nat) : WalkD U S H (Itr lo n) (upto lo n) := by
  refine ⟨fun _ => True, ?_, fun _ _ => trivial⟩
  have wl := walk_range (lo := lo) (n := n)
  rw [← upto_length lo n] at wl
  rw [upto_length] at wl
  rw [upto_length]
  refine wl.mono (fun _ h => h) fun i H1 x H2 hi hg y => ?_
  obtain ⟨rfl, rfl⟩ := y
  exact ⟨_, upto_get hi, .inl rfl, .int _⟩
theorem walkD_rngC (lo : Int) (n : Nat) : WalkD U S H (Itc lo (-1) n) (dnto lo n) := by
  refine ⟨fun _ => True, ?_, fun _ _ => trivial⟩
  have wl := walk_rangeC (lo := lo) (c := -1) (n := n)
  rw [dnto_length]
  refine wl.mono (fun _ h => h) fun i H1 x H2 hi hg y => ?_
  obtain ⟨rfl, rfl⟩ := y
  exact ⟨_, dnto_get hi, .inl rfl, .int _⟩
theorem walkD_enm {a : Addr} {xs : List V} {ds : List D} (w : UOk U S H) (ha : H a = some (.lst xs)) (nz : U a) (r : Reps S H xs ds) : WalkD U S H (Ite K a) (enmD 0 ds) := by
  refine ⟨fun H' => SqL K H' a xs ∧ Reps S H' xs ds, ?_, fun H' k => ⟨.inl (.inl (k a _ ha nz)), r.stay w k⟩⟩
  have wl := walk_enum (K := K) (a := a) (xs := xs)
  rw [r.length] at wl
  rw [enmD_length]
  refine wl.mono (fun _ h => h.1) fun i H1 x H2 hi hg y => ?_
  obtain ⟨T, x1, x2, rfl, hT, rfl, e1, e2⟩ := y
  cases e1
  obtain ⟨d, hd, rd⟩ := hg.2.get' e2
  have stp : Stp H1 (upd H1 T (.tup [.int (i : Nat), x2])) := .inr ⟨T, _, hT, rfl⟩
  refine ⟨_, enmD_get 0 ds i d hd, stp, .tup upd_same (.cons ?_ (.cons (rd.stp stp) .nil))⟩
  rw [Nat.zero_add]
  exact .int _
theorem walkD_zip {a b : Addr} {xs ys : List V} {ds es : List D} (w : UOk U S H) (ha : H a = some (.lst xs)) (nz : U a) (r : Reps S H xs ds) (hb : H b = some (.lst ys)) (nz' : U b) (r' : Reps S H ys es) : WalkD U S H (Itz K a b) (zipD ds es) := by
  refine ⟨fun H' => (SqL K H' a xs ∧ SqL K H' b ys) ∧ Reps S H' xs ds ∧ Reps S H' ys es, ?_, fun H' k => ⟨⟨.inl (.inl (k a _ ha nz)), .inl (.inl (k b _ hb nz'))⟩, r.stay w k, r'.stay w k⟩⟩
  have wl := walk_zip (K := K) (a := a) (b := b) (xs := xs) (ys := ys) rfl
  rw [r.length, r'.length] at wl
  rw [zipD_length]
  refine wl.mono (fun _ h => h.1) fun i H1 x H2 hi hg y => ?_
  obtain ⟨T, x1, x2, rfl, hT, rfl, e1, e2⟩ := y
  obtain ⟨d, hd, rd⟩ := hg.2.1.get' e1
  obtain ⟨e, he, re⟩ := hg.2.2.get' e2
  have stp : Stp H1 (upd H1 T (.tup [x1, x2])) := .inr ⟨T, _, hT, rfl⟩
  exact ⟨_, zipD_get ds es i d e hd he, stp, .tup upd_same (.cons (rd.stp stp) (.cons (re.stp stp) .nil))⟩
end
def TSrc (G : SS) (TB : Tab G.T) (E : L2.St → XK) (xc : Nat → Value) (b : Bool) (k : Srk) (cs : List Xp) : TI := fun sg H R => ∃ H0 S r st, Wd G S H st ∧ Fm G H0 S H sg r ∧ Out G (E sg) xc S H (evs TB b r cs st) (fun ss S' H' st' => ∃ ds, srcD k ss = some ds ∧ ∀ J, WalkD (Uof G b S' H') S' H' J ds → R J H')
theorem big62 {j : Int} (h : BIG j) : -(2 ^ 62) ≤ j ∧ j < 2 ^ 62 := h
section
variable {G : SS} {TB : Tab G.T} {g : Cfg} {xc : Nat → Value} {CX : CXT} {k : Nat} {E : L2.St → XK} {sc : Scope} {X : Cx} {pos : Pos} {tg : Expr} {b : Bool}
theorem _root_.L2.PI.or {e : Expr} {t u : TI} (h : PI X tg e t) (h' : PI X tg e u) : PI X tg e (fun sg H R => t sg H R ∨ u sg H R) := ⟨fun pins s sg H R I q => q.elim (h.run pins s sg H R I) (h'.run pins s sg H R I)⟩
theorem src_seq {e : Expr} {x : Xp} (h : PE X e (TXp G TB E xc b x)) : PI X tg e (TSrc G TB E xc b .seq [x]) := by
  refine ⟨fun pins s sg H R I hw => ?_⟩
  obtain ⟨H0, S, rr, st, w, f, o⟩ := hw
  simp only [evs] at o
  -- the value first, then by its kind
  have hp : TXp G TB E xc b x sg H (fun v H1 => (∃ a, v = .ref a ∧ (∃ xs, SqL X.K H1 a xs) ∧ R (Itl X.K a) H1) ∨ (∃ a, v = .ref a ∧ (∃ xs, SqT X.K H1 a xs) ∧ R (Itt X.K a) H1)) := by
    refine ⟨H0, S, rr, st, w, f, o.bind.imp fun d S1 H1 st1 x1 w1 o1 v r1 => ?_⟩
    obtain ⟨ds, hs, q⟩ := o1 S1 H1 .refl w1
    cases d <;> first | (cases hs; done) | skip
    · cases hs
      obtain ⟨a, xs, rfl, ha, nz, ra⟩ := walkD_list w1 r1
      exact .inl ⟨a, rfl, ⟨xs, .inl (.inl ha)⟩, q _ (walkD_seq (Uof_ok w1) ha nz ra)⟩
    · cases hs
      obtain ⟨a, xs, rfl, ha, ra⟩ := r1.tuple
      exact .inr ⟨a, rfl, ⟨xs, .inl (.inl ha)⟩, q _ (walkD_tup (Uof_ok w1) ha ra)⟩
  refine thn (h.run pins s sg H _ I hp) fun v s1 ⟨y, H1, I1, r1, q1⟩ => ?_
  have c : PE X e (tC y) → True := fun _ => trivial
  rcases q1 with ⟨a, e, ⟨xs, hq⟩, q⟩ | ⟨a, e, ⟨xs, hq⟩, q⟩
  · subst e
    cases r1
    obtain ⟨its, rv, p, hz⟩ := I1.list hq
    refine wpAny_pyIter_list p.isList ?_
    refine ⟨s1.heap.objs.size, [s1.heap.objs.size], _, _, H1, rfl, I1.kept (t' := s1.toks) fun b o e => Heap.get?_push_of_some _ e, turn_list a _, ⟨_, Heap.get?_push_size _ rfl, rfl, rfl⟩, fun b hb => ?_, q⟩
    have e : b = s1.heap.objs.size := by simpa using hb
    subst e
    exact I1.fpOk (Nat.le_refl _) (I1.hok.fresh (Nat.le_refl _))
  · subst e
    cases r1
    obtain ⟨its, rv, p, hz⟩ := I1.tuple hq
    refine wpAny_pyIter_tuple (show s1.heap.IsTuple a its.toArray from p) ?_
    refine ⟨s1.heap.objs.size, [s1.heap.objs.size], _, _, H1, rfl, I1.kept (t' := s1.toks) fun b o e => Heap.get?_push_of_some _ e, turn_tuple a _, ⟨_, Heap.get?_push_size _ rfl, rfl, rfl⟩, fun b hb => ?_, q⟩
    have e : b = s1.heap.objs.size := by simpa using hb
    subst e
    exact I1.fpOk (Nat.le_refl _) (I1.hok.fresh (Nat.le_refl _))
theorem out_len {E : XK} {S : Wl} {H : Hp} {rr : MRho} {xs : List Xp} {st : G.T} {P : List D → Wl → Hp → G.T → Prop} (o : Out G E xc S H (evs TB b rr xs st) P) : Out G E xc S H (evs TB b rr xs st) (fun ds S' H' st' => ds.length = xs.length ∧ P ds S' H' st') := by
  cases q : evs TB b rr xs st with
  | ok ds st' =>
    rw [q] at o
    have hd := evs_length TB b rr xs st ds st' q
    exact fun S1 H1 x1 w1 => ⟨hd, o S1 H1 x1 w1⟩
  | exc c st' => rw [q] at o; exact o
  | stuck => rw [q] at o; exact o
theorem len1 {A : Type} {l : List A} (h : l.length = 1) : ∃ x, l = [x] := by
  rcases l with _ | ⟨x, _ | ⟨y, t⟩⟩
  · cases h
  · exact ⟨x, rfl⟩
  · cases h
theorem len2 {A : Type} {l : List A} (h : l.length = 2) : ∃ x y, l = [x, y] := by
  rcases l with _ | ⟨x, _ | ⟨y, _ | ⟨z, t⟩⟩⟩
  · cases h
  · cases h
  · exact ⟨x, y, rfl⟩
  · cases h
theorem src_rng1 {e : Expr} {p : Pos} {x : Xp} (hg : Gl X "range") (hm : X.mg "range" = none) (ha : PA X [e] (TXs G TB E xc b [x])) (hs : starEach [e] X.env = [(false, eval e X.env)]) : PI X tg (.Call (.Name "range" p) [e] [] pos) (TSrc G TB E xc b .rng [x]) :=
  (pi_range1 (p := p) (pos := pos) hg hm ha hs).imp fun sg H R ⟨H0, S, rr, st, w, f, o⟩ => by
    refine ⟨H0, S, rr, st, w, f, (out_len o).imp fun ss S1 H1 st1 x1 w1 ⟨hl, ds, hd, q⟩ vs r1 => ?_⟩
    obtain ⟨d, rfl⟩ := len1 hl
    cases d <;> first | (cases hd; done) | skip
    simp only [srcD] at hd
    split at hd
    · rename_i hb
      cases hd
      obtain ⟨v, rfl, r2⟩ := r1.inv1
      cases r2.int
      exact ⟨_, rfl, hb.1, hb.2, q _ (walkD_rng 0 _)⟩
    · cases hd
theorem src_rng2 {e e2 : Expr} {p : Pos} {x y : Xp} (hg : Gl X "range") (hm : X.mg "range" = none) (ha : PA X [e, e2] (TXs G TB E xc b [x, y])) (hs : starEach [e, e2] X.env = [(false, eval e X.env), (false, eval e2 X.env)]) (hs2 : starEach [e2] X.env = [(false, eval e2 X.env)]) : PI X tg (.Call (.Name "range" p) [e, e2] [] pos) (TSrc G TB E xc b .rng [x, y]) :=
  (pi_range2 (p := p) (pos := pos) hg hm ha hs hs2).imp fun sg H R ⟨H0, S, rr, st, w, f, o⟩ => by
    refine ⟨H0, S, rr, st, w, f, (out_len o).imp fun ss S1 H1 st1 x1 w1 ⟨hl, ds, hd, q⟩ vs r1 => ?_⟩
    obtain ⟨d, d2, rfl⟩ := len2 hl
    cases d <;> cases d2 <;> first | (cases hd; done) | skip
    simp only [srcD] at hd
    split at hd
    · rename_i hb
      cases hd
      obtain ⟨v, v2, rfl, r2, r3⟩ := r1.inv2
      cases r2.int
      cases r3.int
      exact ⟨_, _, rfl, ⟨hb.1.1, hb.1.2, hb.2.1, hb.2.2⟩, q _ (walkD_rng _ _)⟩
    · cases hd
theorem len3 {A : Type} {l : List A} (h : l.length = 3) : ∃ x y z, l = [x, y, z] := by
  rcases l with _ | ⟨x, _ | ⟨y, _ | ⟨z, _ | ⟨u, t⟩⟩⟩⟩
  · cases h
  · cases h
  · cases h
  · exact ⟨x, y, z, rfl⟩
  · cases h
theorem src_rng3 {e e2 e3 : Expr} {p : Pos} {x y z : Xp} (hg : Gl X "range") (hm : X.mg "range" = none) (ha : PA X [e, e2, e3] (TXs G TB E xc b [x, y, z])) (hs : starEach [e, e2, e3] X.env = (false, eval e X.env) :: starEach [e2, e3] X.env) (hpl : (backTo pos (starEach [e2, e3] X.env)).any (·.1) = false) : PI X tg (.Call (.Name "range" p) [e, e2, e3] [] pos) (TSrc G TB E xc b .rng [x, y, z]) :=
  (pi_range3 (p := p) (pos := pos) hg hm ha hs hpl).imp fun sg H R ⟨H0, S, rr, st, w, f, o⟩ => by
    refine ⟨H0, S, rr, st, w, f, (out_len o).imp fun ss S1 H1 st1 x1 w1 ⟨hl, ds, hd, q⟩ vs r1 => ?_⟩
    obtain ⟨d, d2, d3, rfl⟩ := len3 hl
    cases d <;> cases d2 <;> cases d3 <;> first | (cases hd; done) | skip
    simp only [srcD] at hd
    split at hd
    · rename_i hb
      obtain ⟨h1, h2, h3⟩ := hb
      subst h3
      cases hd
      cases r1 with
      | cons r2 r1 =>
        obtain ⟨v, v2, rfl, r3, r4⟩ := r1.inv2
        cases r2.int
        cases r3.int
        cases r4.int
        exact ⟨_, _, _, _, rfl, RgC.neg h1.1 h1.2 h2.1 h2.2, q _ (walkD_rngC _ _)⟩
    · cases hd
theorem src_enm {e : Expr} {p tpos : Pos} {elts : List Expr} {kk : Nat} {x : Xp} (hg : Gl X "enumerate") (hm : X.mg "enumerate" = none) (ha : PA X [e] (TXs G TB E xc b [x])) (hs : starEach [e] X.env = [(false, eval e X.env)]) : PI X (.Tuple elts kk tpos) (.Call (.Name "enumerate" p) [e] [] pos) (TSrc G TB E xc b .enm [x]) :=
  (pi_enum (p := p) (pos := pos) (tpos := tpos) (elts := elts) (kk := kk) hg hm ha hs).imp fun sg H R ⟨H0, S, rr, st, w, f, o⟩ => by
    refine ⟨H0, S, rr, st, w, f, (out_len o).imp fun ss S1 H1 st1 x1 w1 ⟨hl, ds, hd, q⟩ vs r1 => ?_⟩
    obtain ⟨d, rfl⟩ := len1 hl
    cases d <;> first | (cases hd; done) | skip
    cases hd
    obtain ⟨v, rfl, r2⟩ := r1.inv1
    obtain ⟨a, xs, rfl, ha, nz, ra⟩ := walkD_list w1 r2
    exact ⟨a, xs, rfl, .inl (.inl ha), q _ (walkD_enm (Uof_ok w1) ha nz ra)⟩
theorem src_zip {e e2 : Expr} {p tpos : Pos} {elts : List Expr} {kk : Nat} {x y : Xp} (hg : Gl X "zip") (hm : X.mg "zip" = none) (ha : PA X [e, e2] (TXs G TB E xc b [x, y])) (hs : starEach [e, e2] X.env = (false, eval e X.env) :: starEach [e2] X.env) (hpl : (backTo pos (starEach [e2] X.env)).any (·.1) = false) : PI X (.Tuple elts kk tpos) (.Call (.Name "zip" p) [e, e2] [] pos) (TSrc G TB E xc b .zip [x, y]) :=
  (pi_zip (p := p) (pos := pos) (tpos := tpos) (elts := elts) (kk := kk) hg hm ha hs hpl).imp fun sg H R ⟨H0, S, rr, st, w, f, o⟩ => by
    refine ⟨H0, S, rr, st, w, f, (out_len o).imp fun ss S1 H1 st1 x1 w1 ⟨hl, ds, hd, q⟩ vs r1 => ?_⟩
    obtain ⟨d, d2, rfl⟩ := len2 hl
    cases d <;> cases d2 <;> first | (cases hd; done) | skip
    cases hd
    obtain ⟨v, v2, rfl, r2, r3⟩ := r1.inv2
    obtain ⟨a, xs, rfl, ha, nz, ra⟩ := walkD_list w1 r2
    obtain ⟨c, ys, rfl, hc, nc, rc⟩ := walkD_list w1 r3
    exact ⟨a, c, xs, ys, rfl, .inl (.inl ha), .inl (.inl hc), q _ (walkD_zip (Uof_ok w1) ha nz ra hc nc rc)⟩
/-! ### targets -/
def gOf (K : PySem.W.Frag) : Tg → TG
  | .one i => gName i
  | .two i j => gTup K 2 (gCons (gName i) (gCons (gName j) gNil))
theorem bind_tg {H0 H : Hp} {S : Wl} {t : Tg} {d : D} {r r' : MRho} {sg : L2.St} {v : V} {K : PySem.W.Frag} {Q : L2.St → Hp → Prop} (f : Fm G H0 S H sg r) (hr : bindT t d r = some r') (rv : Rep S H v d) (h : ∀ sg', (∀ i, i ∉ t.slots → sg'[i]? = sg[i]?) → sg'.length = sg.length → Fm G H0 S H sg' r' → Q sg' H) : gOf K t v sg H Q := by
  cases t with
  | one i =>
    cases hr
    refine h _ (fun j hj => ?_) (by simp) (f.set rv)
    rw [List.getElem?_set_ne]
    intro e
    exact hj (by simp [Tg.slots, e])
  | two i j =>
    cases d <;> first | (cases hr; done) | skip
    rename_i ds
    rcases ds with _ | ⟨x, _ | ⟨y, _ | ⟨z, t⟩⟩⟩ <;> first | (cases hr; done) | skip
    cases hr
    cases rv with
    | tup ha ra =>
      cases ra with
      | cons r1 ra =>
        cases ra with
        | cons r2 ra =>
          cases ra
          refine ⟨_, _, rfl, .inl (.inl ha), rfl, _, _, rfl, _, _, rfl, rfl, ?_⟩
          refine h _ (fun m hm => ?_) (by simp) ((f.set r1).set r2)
          rw [List.getElem?_set_ne, List.getElem?_set_ne]
          · intro e
            exact hm (by simp [Tg.slots, e])
          · intro e
            exact hm (by simp [Tg.slots, e])
end
end MR

namespace MR
open PySem PySem.Spec PyProof.Rows L2
abbrev Eff : L2.St → XK := fun _ => Ef
theorem Ext.updNew {G : SS} {S S' : Wl} {H H' : Hp} {p : Addr} {o : HO} (x : Ext G S H S' H') (h : H p = none) : Ext G S H S' (upd H' p o) :=
  ⟨x.sub, x.new, fun a u e z => by rw [upd_ne (ne_of_none e h)]; exact x.keep a u e z, fun a e => by
    by_cases q : a = p
    · rw [q]; exact h
    · rw [upd_ne q] at e; exact x.kn a e, x.zn, x.xs⟩
theorem Wd.upd {G : SS} {S : Wl} {H : Hp} {st : G.T} {p : Addr} {o : HO} {xs : List V} (w : Wd G S H st) (h : ¬ S.Z p) (hs : ¬ S p) (hl : H p = some (.lst xs)) : Wd G S (L2.upd H p o) st :=
  ⟨G.stab st S H S _ w.r rfl rfl (fun _ z => z) (fun a z => upd_ne fun e => h (e ▸ z)) (fun a u s e => by rw [upd_ne (show a ≠ p from fun q => hs (q ▸ s))]; exact e) (fun a ys e => by rw [upd_ne (show a ≠ p from fun q => by rw [q, hl] at e; cases e)]; exact e), w.dis, fun a z => by
    by_cases q : a = p
    · rw [q, upd_same]; exact fun z => nomatch z
    · rw [upd_ne q]; exact w.dom a z⟩
theorem Reps.updD {S : Wl} {H : Hp} {p : Addr} {xs : List V} {o : HO} {vs : List V} {ds : List D} (hs : ¬ S p) (h : H p = some (.lst xs)) (r : Reps S H vs ds) : Reps S (upd H p o) vs ds :=
  Reps.mono (fun _ z => z) rfl (fun a _ s e => by rw [upd_ne (show a ≠ p from fun q => hs (q ▸ s))]; exact e) (fun a _ e => by rw [upd_ne (show a ≠ p from fun q => by rw [q, h] at e; cases e)]; exact e) _ _ r
theorem Rep.updD {S : Wl} {H : Hp} {p : Addr} {xs : List V} {o : HO} {vs : V} {ds : D} (hs : ¬ S p) (h : H p = some (.lst xs)) (r : Rep S H vs ds) : Rep S (upd H p o) vs ds :=
  Rep.mono (fun _ z => z) rfl (fun a _ s e => by rw [upd_ne (show a ≠ p from fun q => hs (q ▸ s))]; exact e) (fun a _ e => by rw [upd_ne (show a ≠ p from fun q => by rw [q, h] at e; cases e)]; exact e) _ _ r
theorem wipe_in {sg sg' : L2.St} (hl : sg.length = sg'.length) : ∀ (vs : List Nat) (j : Nat), j ∈ vs → (L2.wipe sg vs)[j]? = (L2.wipe sg' vs)[j]?
  | v :: vs, j, h => by
    unfold L2.wipe
    by_cases e : v = j
    · subst e
      rw [List.getElem?_set, List.getElem?_set, if_pos rfl, if_pos rfl, L2.wipe_length, L2.wipe_length, hl]
    · rw [List.getElem?_set_ne e, List.getElem?_set_ne e]
      rcases List.mem_cons.mp h with q | q
      · exact absurd q.symm e
      · exact wipe_in hl vs j q
theorem wipe_back {sg sg' : L2.St} {vs : List Nat} (hl : sg'.length = (L2.wipe sg vs).length) (h : ∀ i, i ∉ vs → sg'[i]? = (L2.wipe sg vs)[i]?) : L2.wipe sg' vs = L2.wipe sg vs := by
  apply List.ext_getElem?
  intro j
  by_cases hj : j ∈ vs
  · exact wipe_in (by rw [hl, L2.wipe_length]) vs j hj
  · rw [L2.wipe_out hj, h j hj]
def TurnOk (G : SS) (xc : Nat → Value) (r : MRho) (t : Tg) (f : D → G.T → Rs G.T (Option D)) (tt : TT) (te : TE) : Prop := ∀ H0 S H st d o' st', f d st = .ok o' st' → ∃ r2, bindT t d (wipeR r t.slots) = some r2 ∧
  ∀ sg2, Wd G S H st → Fm G H0 S H sg2 r2 → ∀ (Qs : VK) (Qn : Hp → Prop), (∀ x S' H', o' = some x → Ext G S H S' H' → Wd G S' H' st' → ∀ v, Rep S' H' v x → Qs v H') → (∀ S' H', o' = none → Ext G S H S' H' → Wd G S' H' st' → Qn H') →
    tt sg2 H fun b H3 => if b = true then te sg2 H3 Qs else Qn H3
theorem bind_ok_inv {T A B : Type} {r : Rs T A} {f : A → T → Rs T B} {b : B} {s : T} (h : r.bind f = .ok b s) : ∃ a s1, r = .ok a s1 ∧ f a s1 = .ok b s := by
  cases r with
  | ok a s1 => exact ⟨a, s1, rfl, h⟩
  | exc c s1 => cases h
  | stuck => cases h
theorem turnE_ok (G : SS) (TB : Tab G.T) (xc : Nat → Value) (r : MRho) (t : Tg) (x : Xp) : TurnOk G xc r t (turnE TB r t x) tYes (TXp G TB Eff xc false x) := by
  intro H0 S H st d o' st' h
  unfold turnE at h
  split at h
  · rename_i r2 hr
    refine ⟨r2, hr, fun sg2 w f Qs Qn hs hn => ?_⟩
    obtain ⟨y, s1, h1, h2⟩ := bind_ok_inv h
    cases h2
    show (if true = true then TXp G TB Eff xc false x sg2 H Qs else Qn H)
    rw [if_pos rfl]
    refine ⟨H0, S, r2, st, w, f, ?_⟩
    rw [h1]
    exact fun S' H' x' w' v rv => hs y S' H' rfl x' w' v rv.rep
  · cases h
theorem turnC_ok (G : SS) (TB : Tab G.T) (xc : Nat → Value) (r : MRho) (t : Tg) (x c : Xp) : TurnOk G xc r t (turnC TB r t x c) (TTp G TB Eff xc c) (TXp G TB Eff xc false x) := by
  intro H0 S H st d o' st' h
  unfold turnC at h
  split at h
  · rename_i r2 hr
    refine ⟨r2, hr, fun sg2 w f Qs Qn hs hn => ?_⟩
    obtain ⟨y, s1, h1, h2⟩ := bind_ok_inv h
    refine ⟨H0, S, r2, st, w, f, ?_⟩
    rw [h1]
    intro S1 H1 x1 w1
    split at h2
    · refine ⟨true, rfl, ?_⟩
      show (if true = true then TXp G TB Eff xc false x sg2 H1 Qs else Qn H1)
      rw [if_pos rfl]
      obtain ⟨z, s2, h3, h4⟩ := bind_ok_inv h2
      cases h4
      refine ⟨H0, S1, r2, s1, w1, f.ext w x1, ?_⟩
      rw [h3]
      exact fun S' H' x' w' v rv => hs z S' H' rfl (x1.trans x') w' v rv.rep
    · refine ⟨false, rfl, ?_⟩
      show (if false = true then TXp G TB Eff xc false x sg2 H1 Qs else Qn H1)
      rw [if_neg (by decide)]
      cases h2
      exact hn S1 H1 rfl x1 w1
    · cases h2
  · cases h
section
variable {G : SS} {TB : Tab G.T} {g : Cfg} {xc : Nat → Value} {CX : CXT} {k : Nat} {E : L2.St → XK} {sc : Scope} {X : Cx} {pos : Pos}
theorem comp_core {sk : Srk} {src : List Xp} {t : Tg} {r : MRho} {f : D → G.T → Rs G.T (Option D)} {tt : TT} {te : TE} {sg : L2.St} {H H0 : Hp} {S : Wl} {st : G.T} {Q : VK} {K : PySem.W.Frag} (ht : TurnOk G xc r t f tt te) (w : Wd G S H st) (fm : Fm G H0 S H sg r)
    (o : Out G (E sg) xc S H (compF TB sk src r f st) (WantF G H Q)) : tLc (TSrc G TB E xc true sk src) (gOf K t) tt te t.slots sg H Q := by
  unfold compF at o
  refine ⟨H0, S, r, st, w, fm, o.bind.imp fun ss S1 H1 st1 x1 w1 o1 => ?_⟩
  cases hs : srcD sk ss with
  | none => rw [hs] at o1; exact o1.elim
  | some ds =>
    rw [hs] at o1
    simp only at o1
    split at o1
    · rename_i hlim
      refine ⟨ds, rfl, fun J wk p hp => ?_⟩
      obtain ⟨Gd, wl, hGd⟩ := wk.ex
      cases hc : compM f ds st1 with
      | ok l stF =>
        rw [hc] at o1
        have nz : ¬ S1.Z p := w1.fresh hp
        have fm1 := fm.ext w x1
        refine lc_it wl (fun i H2 => ∃ S2 st2 acc accd rest, Ext G S1 H1 S2 H2 ∧ Wd G S2 H2 st2 ∧ ¬ S2 p ∧ ¬ S2.Z p ∧ H2 p = some (.lst acc) ∧ Reps S2 H2 acc accd ∧ acc.length ≤ i ∧ compM f (ds.drop i) st2 = .ok rest stF ∧ accd ++ rest = l) ?_ ?_ ?_ ?_
        · exact ⟨S1, st1, [], [], l, Ext.laid hp, w1.laid hp, w1.nS hp, nz, upd_same, .nil, Nat.le_refl _, by rw [List.drop_zero]; exact hc, rfl⟩
        · rintro i H2 _ ⟨S2, st2, acc, accd, rest, x2, _⟩
          exact hGd H2 fun a o h u => x2.keep a o h u
        · rintro i x H2 H3 hi ⟨S2, st2, acc, accd, rest, x2, w2, ns, nz2, hD, ra, hlen, hcm, hl⟩ ⟨d, hd, stp, rx⟩
          have hdr : ds.drop i = d :: ds.drop (i + 1) := by
            obtain ⟨h1, h2⟩ := List.getElem?_eq_some_iff.mp hd
            rw [List.drop_eq_getElem_cons h1, h2]
          rw [hdr] at hcm
          simp only [compM] at hcm
          obtain ⟨o', st3, hf, hcm1⟩ := bind_ok_inv hcm
          obtain ⟨rest', st4, hcm2, he⟩ := bind_ok_inv hcm1
          cases he
          obtain ⟨r2, hb, turn⟩ := ht H0 S2 H3 st2 d o' st3 hf
          have x3 : Ext G S2 H2 S2 H3 := stp.ext
          have w3 : Wd G S2 H3 st2 := stp.wd w2
          have fm3 : Fm G H0 S2 H3 (L2.wipe sg t.slots) (wipeR r t.slots) := ((fm1.ext w1 x2).ext w2 x3).wipe t.slots
          have rx3 : Rep S2 H3 x d := Rep.mono x2.sub x2.xs (fun _ _ _ h => h) (fun _ _ h => h) _ _ rx
          have hD3 : H3 p = some (.lst acc) := x3.keep p _ hD nz2
          refine bind_tg fm3 hb rx3 fun sg' h1 h2 fm4 => ⟨wipe_back h2 h1, ?_⟩
          refine turn sg' w3 fm4 _ _ (fun y S4 H4 e x4 w4 v rv => ?_) (fun S4 H4 e x4 w4 => ?_)
          · subst e
            have hD4 : H4 p = some (.lst acc) := x4.keep p _ hD3 nz2
            have ns4 : ¬ S4 p := fun z => (x4.new p z).elim ns fun q => by rw [hD3] at q; cases q
            refine ⟨acc, hD4, ?_, S4, st3, acc ++ [v], accd ++ [y], rest', ((x2.trans x3).trans x4).updNew hp, w4.upd (x4.nz hD3 nz2) ns4 hD4, ns4, x4.nz hD3 nz2, upd_same, ?_, ?_, hcm2, ?_⟩
            · refine Nat.lt_of_lt_of_le ?_ (lim_size hlim)
              omega
            · exact (((ra.ext w2 x3).ext w3 x4).append (.cons rv .nil)).updD ns4 hD4
            · rw [List.length_append, List.length_singleton]
              omega
            · rw [← hl, List.append_assoc]
              rfl
          · subst e
            have hD4 : H4 p = some (.lst acc) := x4.keep p _ hD3 nz2
            have ns4 : ¬ S4 p := fun z => (x4.new p z).elim ns fun q => by rw [hD3] at q; cases q
            exact ⟨S4, st3, acc, accd, rest', (x2.trans x3).trans x4, w4, ns4, x4.nz hD3 nz2, hD4, (ra.ext w2 x3).ext w3 x4, by omega, hcm2, hl⟩
        · rintro H2 ⟨S2, st2, acc, accd, rest, x2, w2, ns, nz2, hD, ra, hlen, hcm, hl⟩
          rw [List.drop_length] at hcm
          simp only [compM] at hcm
          cases hcm
          rw [List.append_nil] at hl
          subst hl
          exact o1 S2 H2 x2 w2 p acc (x1.kn p hp) ns nz2 hD ra
      | exc c s => rw [hc] at o1; exact o1.elim
      | stuck => rw [hc] at o1; exact o1.elim
    · exact o1.elim
theorem ok_comp {elt tgE iter : Expr} {scope : Scope} {own : List (Str × Nat)} {t : Tg} {src : List Xp} {sk : Srk} {x : Xp} (hc : X.calm = true) (hN : X.N.Nodup) (hi : PI X tgE iter (TSrc G TB E xc true sk src)) (ok : BlkOk X.N X.env.scope scope own) (hown : own.map (·.2) = t.slots)
    (hg : ∀ (s : Shared) (H : Hp) (C : Addr) (cl : List (Str × Addr)) (fp : List Addr), PG (X.blk s H scope (compEnvC scope cl C X.env) fp) tgE (gOf X.K t))
    (he : ∀ (s : Shared) (H : Hp) (C : Addr) (cl : List (Str × Addr)) (fp : List Addr), PE (X.blk s H scope (compEnvC scope cl C X.env) fp) elt (TXp G TB Eff xc false x)) (hs : ∀ x, foldedSetIterable iter X.env x = pure x) :
    PE X (.ListComp elt [⟨tgE, iter, [], 0⟩] scope pos) (TFr G TB E xc (.comp x t sk src none)) :=
  (pe_lc (pos := pos) hc hN hi ok hg (fun _ _ _ _ _ => pts_nil) he hs).imp fun sg H Q ⟨H0, S, rr, st, w, f, o⟩ => by
    simp only [evF] at o
    rw [hown]
    exact comp_core (turnE_ok G TB xc rr t x) w f o
theorem ok_compC {elt tgE iter c : Expr} {scope : Scope} {own : List (Str × Nat)} {t : Tg} {src : List Xp} {sk : Srk} {x y : Xp} (hc : X.calm = true) (hN : X.N.Nodup) (hi : PI X tgE iter (TSrc G TB E xc true sk src)) (ok : BlkOk X.N X.env.scope scope own) (hown : own.map (·.2) = t.slots)
    (hg : ∀ (s : Shared) (H : Hp) (C : Addr) (cl : List (Str × Addr)) (fp : List Addr), PG (X.blk s H scope (compEnvC scope cl C X.env) fp) tgE (gOf X.K t))
    (ht : ∀ (s : Shared) (H : Hp) (C : Addr) (cl : List (Str × Addr)) (fp : List Addr), PT (X.blk s H scope (compEnvC scope cl C X.env) fp) c (TTp G TB Eff xc y))
    (he : ∀ (s : Shared) (H : Hp) (C : Addr) (cl : List (Str × Addr)) (fp : List Addr), PE (X.blk s H scope (compEnvC scope cl C X.env) fp) elt (TXp G TB Eff xc false x)) (hs : ∀ x, foldedSetIterable iter X.env x = pure x) :
    PE X (.ListComp elt [⟨tgE, iter, [c], 0⟩] scope pos) (TFr G TB E xc (.comp x t sk src (some y))) :=
  (pe_lc (pos := pos) hc hN hi ok hg (fun s H C cl fp => pts_one (ht s H C cl fp)) he hs).imp fun sg H Q ⟨H0, S, rr, st, w, f, o⟩ => by
    simp only [evF] at o
    rw [hown]
    exact comp_core (turnC_ok G TB xc rr t x y) w f o
end
end MR

namespace MR
open PySem PySem.Spec PyProof.Rows L2
theorem lookup_mem {A : Type} {x : Str} : ∀ {l : List (Str × A)} {v : A}, l.lookup x = some v → (x, v) ∈ l
  | (y, w) :: r, v, h => by
    rw [List.lookup_cons] at h
    split at h
    · rename_i e
      cases h
      have e' : x = y := by simpa using e
      rw [e']
      exact List.mem_cons_self
    · exact List.mem_cons_of_mem _ (lookup_mem h)
theorem bind_inv {A B : Type} {o : Option A} {f : A → Option B} {b : B} (h : o.bind f = some b) : ∃ a, o = some a ∧ f a = some b := by
  cases o with
  | none => cases h
  | some a => exact ⟨a, rfl, h⟩
theorem isVis_vis {sc : Scope} {x : Str} (h : isVis (sc.names.lookup x) = true) : Vis sc x := by
  unfold isVis at h
  split at h
  · rename_i e; exact .inl e
  · rename_i e; exact .inr (.inl e)
  · rename_i e; exact .inr (.inr e)
  · cases h
theorem isGlo_glo {sc : Scope} {x : Str} (h : isGlo (sc.names.lookup x) = true) : sc.names.lookup x = some .globalImplicit := by
  unfold isGlo at h
  split at h
  · rename_i e; exact e
  · cases h
theorem okName_debug {x : Str} (h : okName x = true) : (x == ("__debug__" : Str)) = false ∧ (x == ("__classdict__" : Str)) = false ∧ x ≠ "__name__" := by
  unfold okName at h
  simp only [Bool.and_eq_true, Bool.not_eq_true'] at h
  exact ⟨h.1.1, h.1.2, fun e => by have := h.2; rw [e] at this; simp at this⟩
structure OkX (G : SS) (TB : Tab G.T) (E : L2.St → XK) (xc : Nat → Value) (X : Cx) (e : Expr) (c : Xp) : Prop where
  pe : ∀ b, PE X e (TXp G TB E xc b c)
  pt : tst e = true → PT X e (TTp G TB E xc c)
  pw : tst e = true → ∀ op vs p, e = .BoolOp op vs p → PW X e (TTp G TB E xc c)
  fr : freshX c = true → PE X e (TFr G TB E xc c)
  star : ∀ (l : List Expr) (env : Env), starEach (e :: l) env = (false, eval e env) :: starEach l env
  ix : PlainIx e
  fold : ∀ x, foldedSetIterable e X.env x = pure x
section
variable {G : SS} {TB : Tab G.T} {g : Cfg} {xc : Nat → Value} {CX : CXT} {k : Nat} {E : L2.St → XK} {sc : Scope} {X : Cx} {pos : Pos}
theorem Ctx.blk (C : Ctx G TB g xc CX k E sc X) (s : Shared) (H : Hp) (scope : Scope) (cl : List (Str × Addr)) (Ca : Addr) (fp : List Addr) : Ctx G TB g xc CX k Eff (relS scope sc) (X.blk s H scope (compEnvC scope cl Ca X.env) fp) where
  scope := by rw [← C.scope]; rfl
  N := C.N
  nd := C.nd
  calm := C.calm
  room := C.room
  blt := C.blt
  cst := C.cst
  fns := C.fns
  ffs := C.ffs
  xcl := C.xcl
  pas := fun sg => C.cx0 (X.blk s H scope (compEnvC scope cl Ca X.env) fp) rfl rfl sg
  cx0 := fun Y h1 h2 sg => C.cx0 Y h1 h2 sg
theorem Ctx.gl (C : Ctx G TB g xc CX k E sc X) {x : Str} (h : isGlo (sc.names.lookup x) = true) : Gl X x := by
  show X.env.scope.names.lookup x = _
  rw [C.scope]
  exact isGlo_glo h
theorem Ctx.opR (C : Ctx G TB g xc CX k E sc X) {op : Operator} {o : Bop} (h : bopOf op = some o) : OpR X (binaryOp op) (rD G Ef xc o) := by
  cases op <;> first | (cases h; done) | skip
  all_goals cases h
  · exact opR_add
  · exact opR_sub
  · exact opR_mul
  · exact opR_mod
  · exact opR_pow
  · exact opR_fdiv
theorem Ctx.cmR (C : Ctx G TB g xc CX k E sc X) {op : CmpOp} {o : Bop} (h : copOf op = some o) : OpR X (compareOp op) (rD G Ef xc o) := by
  have hu : X.A.units + 65 < cLine := by have := C.room.un; omega
  cases op <;> first | (cases h; done) | skip
  all_goals cases h
  · exact opR_eq (by omega)
  · exact opR_ne (by omega)
  · exact opR_lt
  · exact opR_le
  · exact opR_gt
  · exact opR_ge
  · exact opR_is
  · exact opR_isnot
  · exact opR_in hu
  · exact opR_notin hu
theorem cpL_ok {f : Expr → Option Xp} {P : Expr → Xp → Prop} (hf : ∀ e x, f e = some x → P e x ∧ ∀ (l : List Expr) (env : Env), starEach (e :: l) env = (false, eval e env) :: starEach l env) : ∀ {es : List Expr} {xs : List Xp}, cpL f es = some xs → OkL X P es xs
  | [], _, h => by cases h; exact .nil
  | e :: es, xs, h => by
    unfold cpL at h
    obtain ⟨x, h1, h⟩ := bind_inv h
    obtain ⟨ys, h2, h⟩ := bind_inv h
    cases h
    exact .cons (hf e x h1).1 (hf e x h1).2 (cpL_ok hf h2)
theorem OkL.star {P : Expr → Xp → Prop} {e : Expr} {es : List Expr} {xs : List Xp} (h : OkL X P (e :: es) xs) (env : Env) : starEach (e :: es) env = (false, eval e env) :: starEach es env := by
  cases h with
  | cons _ s _ => exact s es env
theorem OkL.tail {P : Expr → Xp → Prop} {e : Expr} {es : List Expr} {xs : List Xp} (h : OkL X P (e :: es) xs) : ∃ y ys, xs = y :: ys ∧ P e y ∧ OkL X P es ys := by
  cases h with
  | cons p _ t => exact ⟨_, _, rfl, p, t⟩
theorem ok_bltCall (C : Ctx G TB g xc CX k E sc X) {x : Str} {p : Pos} {f : Blt} {e : Expr} {es : List Expr} {xs : List Xp} (hx : bltTab.lookup x = some f) (hn : okName x = true) (hg : isGlo (sc.names.lookup x) = true) (ha : OkL X (fun e x => PE X e (TXp G TB E xc true x)) (e :: es) xs) :
    (∀ b, PE X (.Call (.Name x p) (e :: es) [] pos) (TXp G TB E xc b (.blt f xs))) ∧ (freshX (.blt f xs) = true → PE X (.Call (.Name x p) (e :: es) [] pos) (TFr G TB E xc (.blt f xs))) := by
  have ag := ok_args ha
  have s1 := ha.star X.env
  have gl := C.gl hg
  obtain ⟨_, _, _, _, tl⟩ := ha.tail
  have s2 := tl.any X.env pos
  have m := lookup_mem hx
  unfold bltTab at m
  simp only [List.mem_cons, Prod.mk.injEq, List.not_mem_nil, or_false] at m
  have hm : ∀ y, y ∈ bltNames → X.mg y = none := C.blt
  rcases m with ⟨rfl, rfl⟩ | ⟨rfl, rfl⟩ | ⟨rfl, rfl⟩ | ⟨rfl, rfl⟩ | ⟨rfl, rfl⟩ | ⟨rfl, rfl⟩ | ⟨rfl, rfl⟩ | ⟨rfl, rfl⟩ | ⟨rfl, rfl⟩ | ⟨rfl, rfl⟩
  · exact ⟨fun b => ok_blt (pe_callB bR_len gl (hm _ (by decide)) PySem.boot_len ag (by decide) (by decide) s1 s2) fun _ _ _ h => h, fun h => nomatch h⟩
  · exact ⟨fun b => ok_blt (pe_callB (bR_min C.calm) gl (hm _ (by decide)) PyProof.Rows.boot_min ag (by decide) (by decide) s1 s2) fun _ _ _ h => h, fun h => nomatch h⟩
  · exact ⟨fun b => ok_blt (pe_callB (bR_max C.calm) gl (hm _ (by decide)) PyProof.Rows.boot_max ag (by decide) (by decide) s1 s2) fun _ _ _ h => h, fun h => nomatch h⟩
  · exact ⟨fun b => ok_blt (pe_callB bR_sorted gl (hm _ (by decide)) PyProof.Rows.boot_sorted ag (by decide) (by decide) s1 s2) fun _ _ _ h => h, fun h => nomatch h⟩
  · exact ⟨fun b => ok_blt (pe_callB (bR_sum C.calm) gl (hm _ (by decide)) PyProof.Rows.boot_sum ag (by decide) (by decide) s1 s2) fun _ _ _ h => h, fun h => nomatch h⟩
  · exact ⟨fun b => ok_blt (pe_callB (bR_all C.calm) gl (hm _ (by decide)) (by decide +kernel) ag (by decide) (by decide) s1 s2) fun _ _ _ h => h, fun h => nomatch h⟩
  · exact ⟨fun b => ok_blt (pe_callB (bR_any C.calm) gl (hm _ (by decide)) (by decide +kernel) ag (by decide) (by decide) s1 s2) fun _ _ _ h => h, fun h => nomatch h⟩
  · exact ⟨fun b => ok_blt (pe_callB bR_abs gl (hm _ (by decide)) (by decide +kernel) ag (by decide) (by decide) s1 s2) fun _ _ _ h => h, fun h => nomatch h⟩
  · exact ⟨fun b => ok_blt (pe_callTy bR_list gl (hm _ (by decide)) (by decide +kernel) ag (by decide) (by decide) s1 s2) fun _ _ _ h => h, fun _ => ok_bltList (pe_callTy call_list_of gl (hm _ (by decide)) (by decide +kernel) ag (by decide) (by decide) s1 s2) fun _ _ _ h => h⟩
  · exact ⟨fun b => ok_blt (pe_callTy bR_tuple gl (hm _ (by decide)) (by decide +kernel) ag (by decide) (by decide) s1 s2) fun _ _ _ h => h, fun h => nomatch h⟩
theorem ok_isiCall (C : Ctx G TB g xc CX k E sc X) {x : Xp} {p p2 : Pos} {t : Ty} {tn : Str} {e : Expr} (ht : tyTab.lookup tn = some t) (hn2 : okName tn = true) (hg2 : isGlo (sc.names.lookup tn) = true) (hg : isGlo (sc.names.lookup ("isinstance" : Str)) = true) (ha : OkX G TB E xc X e x) (b : Bool) :
    PE X (.Call (.Name "isinstance" p) [e, .Name tn p2] [] pos) (TXp G TB E xc b (.isi t x)) := by
  have gl := C.gl hg
  have gl2 := C.gl hg2
  have hm : ∀ y, y ∈ bltNames → X.mg y = none := C.blt
  have m := lookup_mem ht
  have key : ∀ (T : Ty) (nm : Str), nm ∈ bltNames → bootBuiltins nm = some (.type (tyN T)) → (nm == ("__debug__" : Str)) = false → nm ≠ "__name__" → Gl X nm → PE X (.Call (.Name "isinstance" p) [e, .Name nm p2] [] pos) (TXp G TB E xc b (.isi T x)) := fun T nm h1 h2 h3 h4 gl2 => by
    refine ok_isi (pe_callB (bR_isi T) gl (hm _ (by decide)) PyProof.Rows.boot_isinstance (pa_cons (ha.pe true) (pa_cons (pe_bltn (v := .ty (tyN T)) gl2 (hm _ h1) h2 rfl h4 h3) pa_nil) (ha.star _ _)) (by decide) (by decide) (ha.star _ _)) fun _ _ _ h => h
  unfold tyTab at m
  simp only [List.mem_cons, Prod.mk.injEq, List.not_mem_nil, or_false] at m
  rcases m with ⟨rfl, rfl⟩ | ⟨rfl, rfl⟩ | ⟨rfl, rfl⟩ | ⟨rfl, rfl⟩ | ⟨rfl, rfl⟩
  all_goals exact key _ _ (by decide) (by decide +kernel) (by decide) (by decide) gl2
/-! ### list(range(..)), tuple(range(..)) -/
theorem rg_reps {S : Wl} {H : Hp} (a : Int) (n : Nat) : Reps S H ((List.range n).map fun (i : Nat) => V.int (a + (i : Nat))) (upto a n) := by
  unfold upto
  generalize List.range n = l
  induction l with
  | nil => exact .nil
  | cons x r ih => exact .cons (.int _) ih
theorem ok_rg1 {e : Expr} {x : Xp} {f : Blt} {ta : TE} {t : Expr} (nf : f = .lrng ∨ f = .trng) (h : PE X t (fun sg H Q => ta sg H fun v H1 => ∃ n, v = .int n ∧ (RgOk 0 n ∧ ∀ q, H1 q = none → Q (.ref q) (upd H1 q (if f = .lrng then .lst (rgV 0 n) else .tup (rgV 0 n)))))) (ha : ∀ sg H Q, TXp G TB E xc true x sg H Q → ta sg H Q) (b : Bool) : PE X t (TXp G TB E xc b (.blt f [x])) :=
  h.imp fun sg H Q ⟨H0, S, rr, st, w, fm, o⟩ => by
    simp only [ev, evs, bind_assoc', Rs.bind_ok] at o
    refine ha sg H _ ⟨H0, S, rr, st, w, fm, o.bind.imp fun d S1 H1 st1 x1 w1 o1 v r1 => ?_⟩
    obtain ⟨y, hy, o2⟩ := o1.of
    cases d <;> first | (rcases nf with rfl | rfl <;> cases hy; done) | skip
    cases r1.int
    rename_i n
    have hrg : rgV 0 n = (List.range n.toNat).map fun (i : Nat) => V.int (0 + (i : Nat)) := by unfold rgV; rw [Int.sub_zero]
    have hB : (BIG n ∧ n ≤ 100000) ∧ ((f = .lrng ∧ y = .list (upto 0 n.toNat)) ∨ (f = .trng ∧ y = .tuple (upto 0 n.toNat))) := by
      rcases nf with rfl | rfl
      · simp only [bltD] at hy
        split at hy
        · rename_i hb
          cases hy
          exact ⟨hb, .inl ⟨rfl, rfl⟩⟩
        · cases hy
      · simp only [bltD] at hy
        split at hy
        · rename_i hb
          cases hy
          exact ⟨hb, .inr ⟨rfl, rfl⟩⟩
        · cases hy
    obtain ⟨⟨hb, hn⟩, hy⟩ := hB
    refine ⟨n, rfl, ⟨by omega, by omega, hb.1, hb.2, by omega⟩, fun q hq => ?_⟩
    rw [hrg]
    rcases hy with ⟨rfl, rfl⟩ | ⟨rfl, rfl⟩
    · rw [if_pos rfl]
      exact (WantB.up o2).newL w1 (rg_reps 0 _) hq
    · rw [if_neg (fun z => nomatch z)]
      exact (WantB.up o2).newT w1 (rg_reps 0 _) hq
theorem ok_rg2 {x z : Xp} {f : Blt} {ta tb : TE} {t : Expr} (nf : f = .lrng ∨ f = .trng) (h : PE X t (fun sg H Q => ta sg H fun v H1 => tb sg H1 fun u H2 => ∃ i j, v = .int i ∧ u = .int j ∧ (RgOk i j ∧ ∀ q, H2 q = none → Q (.ref q) (upd H2 q (if f = .lrng then .lst (rgV i j) else .tup (rgV i j)))))) (ha : ∀ sg H Q, TXp G TB E xc true x sg H Q → ta sg H Q) (hb : ∀ sg H Q, TXp G TB E xc true z sg H Q → tb sg H Q) (b : Bool) : PE X t (TXp G TB E xc b (.blt f [x, z])) :=
  h.imp fun sg H Q ⟨H0, S, rr, st, w, fm, o⟩ => by
    simp only [ev, evs, bind_assoc', Rs.bind_ok] at o
    refine ha sg H _ ⟨H0, S, rr, st, w, fm, o.bind.imp fun d S1 H1 st1 x1 w1 o1 v r1 => ?_⟩
    refine hb sg H1 _ ⟨H0, S1, rr, st1, w1, fm.ext w x1, o1.bind.imp fun d2 S2 H2 st2 x2 w2 o1 u r2 => ?_⟩
    obtain ⟨y, hy, o2⟩ := o1.of
    have hB : ∃ i j, d = .int i ∧ d2 = .int j ∧ (BIG i ∧ BIG j ∧ j - i ≤ 100000) ∧ ((f = .lrng ∧ y = .list (upto i (j - i).toNat)) ∨ (f = .trng ∧ y = .tuple (upto i (j - i).toNat))) := by
      cases d <;> cases d2 <;> first | (rcases nf with rfl | rfl <;> cases hy; done) | skip
      refine ⟨_, _, rfl, rfl, ?_⟩
      rcases nf with rfl | rfl
      · simp only [bltD] at hy
        split at hy
        · rename_i hb
          cases hy
          exact ⟨hb, .inl ⟨rfl, rfl⟩⟩
        · cases hy
      · simp only [bltD] at hy
        split at hy
        · rename_i hb
          cases hy
          exact ⟨hb, .inr ⟨rfl, rfl⟩⟩
        · cases hy
    obtain ⟨i, j, rfl, rfl, ⟨h1, h2, hn⟩, hy⟩ := hB
    cases r1.int
    cases r2.int
    refine ⟨i, j, rfl, rfl, ⟨h1.1, h1.2, h2.1, h2.2, by omega⟩, fun q hq => ?_⟩
    unfold rgV
    rcases hy with ⟨rfl, rfl⟩ | ⟨rfl, rfl⟩
    · rw [if_pos rfl]
      exact (WantB.up o2).newL w2 (rg_reps i _) hq
    · rw [if_neg (fun z => nomatch z)]
      exact (WantB.up o2).newT w2 (rg_reps i _) hq
/-- the plain case: a value -/
theorem OkX.mk1 {e : Expr} {c : Xp} (pe : ∀ b, PE X e (TXp G TB E xc b c)) (nf : freshX c = false) (nb : ∀ op vs p, e ≠ .BoolOp op vs p) (he : ∀ whole, isTrue e X.env whole = (do let v ← whole; standAt e.pos; holding [v] (truthy v)))
    (star : ∀ (l : List Expr) (env : Env), starEach (e :: l) env = (false, eval e env) :: starEach l env) (ix : PlainIx e) (fold : ∀ x, foldedSetIterable e X.env x = pure x) : OkX G TB E xc X e c :=
  ⟨pe, fun _ => okt_val (pe false) he, fun _ op vs p z => absurd z (nb op vs p), fun z => (by rw [nf] at z; cases z), star, ix, fold⟩
/-! ### xs.count(y), xs.index(y); isinstance of an exception -/
theorem ok_m1 {e : Expr} {x y : Xp} {f : Blt} {r : V → List V → Hp → VK → Prop} (hy : ∀ rr st c s, ev TB true rr y st ≠ .exc c s) (hl : ∀ d d2 u, bltD f [d, d2] = some u → ∃ ds, d = .list ds)
    (hr : ∀ d d2 u st, bltD f [d, d2] = some u → ∀ S H v v2 Q, Wd G S H st → RepB G true S H v d → RepB G true S H v2 d2 → Out G Ef xc S H (.ok u st) (WantD G Q) → r v [v2] H Q)
    (h : PE X e (tBM X.K "list" r (TXp G TB E xc true x) (tCons (TXp G TB E xc true y) tNil))) (b : Bool) : PE X e (TXp G TB E xc b (.blt f [x, y])) :=
  h.imp fun sg H Q ⟨H0, S, rr, st, w, fm, o⟩ => by
    simp only [ev, evs, bind_assoc', Rs.bind_ok] at o
    refine ⟨H0, S, rr, st, w, fm, ?_⟩
    cases q1 : ev TB true rr x st with
    | stuck => rw [q1] at o; exact o
    | exc c s1 => rw [q1] at o; exact o
    | ok d st1 =>
      rw [q1] at o
      simp only [Rs.bind_ok] at o
      cases q2 : ev TB true rr y st1 with
      | stuck => rw [q2] at o; exact o.elim
      | exc c s2 => exact absurd q2 (hy _ _ _ _)
      | ok d2 st2 =>
        rw [q2] at o
        simp only [Rs.bind_ok] at o
        obtain ⟨u, hu, o3⟩ := o.of
        obtain ⟨ds, rfl⟩ := hl _ _ _ hu
        intro S1 H1 x1 w1 v r1
        obtain ⟨a, xs, rfl, ha, ra⟩ := r1.list
        refine ⟨.inl ⟨rfl, xs, .inl (.inl ha)⟩, H0, S1, rr, st1, w1, fm.ext w x1, ?_⟩
        rw [q2]
        intro S2 H2 x2 w2 v2 r2
        exact hr _ _ _ _ hu _ _ _ _ _ w2 (r1.ext w1 x2) r2 fun S3 H3 x3 w3 v3 r3 => o3 S3 H3 ((x1.trans x2).trans x3) w3 v3 (.inl r3)
theorem cnt_r (hu : X.A.units + 65 < cLine) (d d2 u : D) (st : G.T) (h : bltD .lcnt [d, d2] = some u) (S : Wl) (H : Hp) (v v2 : V) (Q : VK) (w : Wd G S H st) (r1 : RepB G true S H v d) (r2 : RepB G true S H v2 d2) (o : Out G Ef xc S H (.ok u st) (WantD G Q)) :
    ∃ (a : Addr) (y : V) (d : D) (ds : List D), v = V.ref a ∧ [v2] = [y] ∧ Dp X.K H (V.ref a) (.list ds) ∧ Dp X.K H y d ∧ SeqAt.shaped (.list ds) = true ∧ SeqAt.shaped d = true ∧ Q (.int ((ds.countP fun z => PyData.eqv z d : Nat) : Int)) H := by
  obtain ⟨xs, rfl, h1, h2, rfl⟩ := lcnt_inv h
  obtain ⟨a, ys, rfl, ha, ra⟩ := r1.list
  exact ⟨a, v2, _, _, rfl, rfl, r1.dp h1, r2.dp h2, okD_shaped h1, okD_shaped h2, o.here w (.int _)⟩
theorem idx_r (hu : X.A.units + 65 < cLine) (d d2 u : D) (st : G.T) (h : bltD .lidx [d, d2] = some u) (S : Wl) (H : Hp) (v v2 : V) (Q : VK) (w : Wd G S H st) (r1 : RepB G true S H v d) (r2 : RepB G true S H v2 d2) (o : Out G Ef xc S H (.ok u st) (WantD G Q)) :
    rIndexD X.K v [v2] H Q := by
  obtain ⟨xs, j, rfl, k1, k2, q, rfl⟩ := lidx_inv h
  obtain ⟨a, ys, rfl, ha, ra⟩ := r1.list
  obtain ⟨hj, h1, h2⟩ := List.findIdx?_eq_some_iff_getElem.mp q
  refine ⟨a, v2, _, _, j, xs[j], rfl, rfl, r1.dp k1, r2.dp k2, okD_shaped k1, okD_shaped k2, List.getElem?_eq_getElem hj, h1, fun m z hm hz => ?_, o.here w (.int _)⟩
  obtain ⟨hml, rfl⟩ := List.getElem?_eq_some_iff.mp hz
  simpa using h2 m hm
theorem ok_isx {e : Expr} {x : Xp} {i : Nat} {ta : TE} {c : V} {cv : Value} (h : PE X e (tCB (fun xs H Q => ∃ (a C : Addr) (c : V) (cv : Value) (b : Bool), xs = [.ref a, c] ∧ H a = some (ExV C a) ∧ (∀ u, RelV c u → u = cv) ∧ ExcC X.K C ∧ PySem.W.kitOne X.K (.ref C) cv = some b ∧ Q (.bl b) H) (tCons ta (tCons (tC c) tNil)))) (ha : ∀ sg H Q, TXp G TB E xc true x sg H Q → ta sg H Q)
    (hcv : ∀ u, RelV c u → u = cv) (hk : ∀ st S H, G.R st S H → ∀ n, n < 6 → ExcC X.K (S.X n) ∧ PySem.W.kitOne X.K (.ref (S.X n)) cv = some (subB n i)) (b : Bool) : PE X e (TXp G TB E xc b (.blt (.isx i) [x])) :=
  h.imp fun sg H Q ⟨H0, S, rr, st, w, fm, o⟩ => by
    simp only [ev, evs, bind_assoc', Rs.bind_ok] at o
    refine ha sg H _ ⟨H0, S, rr, st, w, fm, o.bind.imp fun d S1 H1 st1 x1 w1 o1 v r1 => ?_⟩
    obtain ⟨u, hu, o2⟩ := o1.of
    obtain ⟨n, hn, rfl, rfl⟩ := isx_inv hu
    have hr : ∃ a, v = .ref a ∧ H1 a = some (ExV (S1.X n) a) := by
      rcases r1 with r | ⟨_, a, xs, ds, _, e, _⟩
      · have q : ∀ d, Rep S1 H1 v d → d = excD n → ∃ a, v = .ref a ∧ H1 a = some (ExV (S1.X n) a) := by
          intro d r e
          unfold excD at e
          cases r with
          | exc m h1 h2 =>
            injection e with e
            injection e with e _
            injection e with _ e
            injection e with e
            have e := Int.ofNat.inj e
            subst e
            exact ⟨_, rfl, h2⟩
          | tok a =>
            injection e with e
            injection e with e _
            injection e with e _
            cases e
          | _ => cases e
        exact q _ r rfl
      · cases e
    obtain ⟨a, rfl, hx⟩ := hr
    obtain ⟨k1, k2⟩ := hk _ _ _ w1.r n hn
    exact ⟨a, S1.X n, c, cv, subB n i, rfl, hx, hcv, k1, k2, o2 S1 H1 .refl w1 _ (.inl (.bl _))⟩
theorem ok_isxCall (C : Ctx G TB g xc CX k E sc X) {x : Xp} {p p2 : Pos} {i : Nat} {tn : Str} {e : Expr} (ht : g.xcl.lookup tn = some i) (hn2 : okName tn = true) (hg2 : isGlo (sc.names.lookup tn) = true) (hg : isGlo (sc.names.lookup ("isinstance" : Str)) = true) (ha : OkX G TB E xc X e x) (b : Bool) :
    PE X (.Call (.Name "isinstance" p) [e, .Name tn p2] [] pos) (TXp G TB E xc b (.blt (.isx i) [x])) := by
  have gl := C.gl hg
  have gl2 := C.gl hg2
  obtain ⟨h1, h2, h3⟩ := okName_debug hn2
  obtain ⟨cv, v, hm, rv, hcv, hk⟩ := C.xcl _ _ ht
  have pn : PE X (.Name tn p2) (tC v) := by
    rcases hm with hm | ⟨hm, hb, hnn⟩
    · exact pe_glob gl2 hm rv h1
    · exact pe_bltn gl2 hm hb rv hnn h1
  exact ok_isx (pe_callB bR_isxV gl (C.blt _ (by decide)) PyProof.Rows.boot_isinstance (pa_cons (ha.pe true) (pa_cons pn pa_nil) (ha.star _ _)) (by decide) (by decide) (ha.star _ _)) (fun _ _ _ h => h) hcv hk b
theorem prim_ok (C : Ctx G TB g xc CX k E sc X) {e : Expr} {f : Blt} {es : List Expr} {xs : List Xp} (h : primOf sc e = some (f, es)) (hl : OkL X (OkX G TB E xc X) es xs) (hpure : ∀ y a z, es = [y, a] → isAtom a = true → xs.getLast? = some z → ∀ rr st c s, ev TB true rr z st ≠ .exc c s) : OkX G TB E xc X e (.blt f xs) := by
  unfold primOf at h
  split at h
  · rename_i x p y p2 args pos2 pos1
    split at h
    · rename_i hq
      simp only [Bool.and_eq_true, decide_eq_true_eq] at hq
      obtain ⟨⟨⟨⟨⟨hx1, hx2⟩, hy⟩, rfl⟩, l1⟩, l2⟩ := hq
      have hm : ∀ y, y ∈ bltNames → X.mg y = none := C.blt
      have gx := C.gl hx2
      have gy := C.gl hy
      have fin : ∀ (nf : f = .lrng ∨ f = .trng) (nm : Str) (hxn : x = nm), args = es → (∀ (te : L2.St → Hp → (Int → Int → Hp → Prop) → Prop), PRg X (.Call (.Name "range" p2) args [] pos2) te → PE X (.Call (.Name x p) [.Call (.Name "range" p2) args [] pos2] [] pos1) (fun sg H Q => te sg H fun a b H1 => RgOk a b ∧ ∀ q, H1 q = none → Q (.ref q) (upd H1 q (if f = .lrng then .lst (rgV a b) else .tup (rgV a b))))) → OkX G TB E xc X (.Call (.Name x p) [.Call (.Name "range" p2) args [] pos2] [] pos1) (.blt f xs) := by
        intro nf nm hxn ea mk
        subst ea
        have nfr : freshX (.blt f xs) = false := by rcases nf with rfl | rfl <;> rfl
        match args, hl, l1, l2 with
        | [a], hl, _, _ =>
          obtain ⟨ya, ys, rfl, pa, t⟩ := hl.tail
          cases t
          exact .mk1 (fun b => ok_rg1 (e := a) nf (mk _ (prg_1 gy (hm _ (by decide)) (pa.pe true) (pa.star _ _))) (fun _ _ _ h => h) b) nfr (fun _ _ _ z => nomatch z) (fun _ => rfl) (fun _ _ => rfl) (fun _ _ => rfl) (fun _ => rfl)
        | [a, a2], hl, _, _ =>
          have sf := hl.star X.env
          obtain ⟨ya, ys, rfl, pa, t⟩ := hl.tail
          obtain ⟨yb, ys2, rfl, pb, t2⟩ := t.tail
          cases t2
          exact .mk1 (fun b => ok_rg2 nf (mk _ (prg_2 gy (hm _ (by decide)) (pa.pe true) (pb.pe true) (pa.star _ _) (pb.star _ _) (t.any X.env _))) (fun _ _ _ h => h) (fun _ _ _ h => h) b) nfr (fun _ _ _ z => nomatch z) (fun _ => rfl) (fun _ _ => rfl) (fun _ _ => rfl) (fun _ => rfl)
        | _ :: _ :: _ :: _, _, _, l2 => exact absurd l2 (by simp)
        | [], _, l1, _ => exact absurd l1 (by simp)
      split at h
      · rename_i e1
        cases h
        exact fin (.inl rfl) "list" e1 rfl fun te q => by
          subst e1
          have := pe_listRg (p := p) (pos := pos1) C.calm gx (hm _ (by decide)) q
          exact this.imp fun sg H Q z => z
      · split at h
        · rename_i e1
          cases h
          exact fin (.inr rfl) "tuple" e1 rfl fun te q => by
            subst e1
            have := pe_tupRg (p := p) (pos := pos1) C.calm gx (hm _ (by decide)) q
            exact this.imp fun sg H Q z => z
        · cases h
    · cases h
  · rename_i x xp m apos a cpos
    split at h
    · rename_i hq
      simp only [Bool.and_eq_true] at hq
      obtain ⟨⟨⟨hline, hn⟩, hv⟩, hat⟩ := hq
      have hu : X.A.units + 65 < cLine := by have := C.room.un; omega
      have fin : ∀ f' : Blt, es = [.Name x xp, a] → ∃ y z, xs = [y, z] ∧ OkX G TB E xc X (.Name x xp) y ∧ OkX G TB E xc X a z ∧ (∀ (rr : MRho) (st : G.T) (c : Nat) (s : G.T), ev TB true rr z st ≠ .exc c s) := fun _ ee => by
        subst ee
        obtain ⟨y, ys, rfl, py, t⟩ := hl.tail
        obtain ⟨z, zs, rfl, pz, t2⟩ := t.tail
        cases t2
        exact ⟨y, z, rfl, py, pz, hpure _ _ z rfl hat rfl⟩
      split at h
      · rename_i e1
        subst e1
        cases h
        obtain ⟨y, z, rfl, py, pz, hp⟩ := fin .lcnt rfl
        have hfew : ((backTo cpos (starEach [a] X.env)).all (fun x => !x.1) && (backToKw cpos (keywordEach [] X.env)).all (fun x => x.1.isSome) && decide ([a].length + ([] : List Keyword).length + (if ([] : List Keyword).isEmpty then 0 else 1) < 30)) = true := by
          rw [pz.star]
          rfl
        exact .mk1 (fun b => ok_m1 hp (fun d d2 u h => let ⟨xs, e, _⟩ := lcnt_inv h; ⟨xs, e⟩) (cnt_r hu) (pe_bm PySem.F.plainAttrs_list PySem.F.slot_list_count PySem.F.type_list_count (mt_countD hu) (py.pe true) (pa_cons (pz.pe true) pa_nil (pz.star _ _)) rfl hfew hline (pz.star _ _) rfl) b) rfl (fun _ _ _ z => nomatch z) (fun _ => rfl) (fun _ _ => rfl) (fun _ _ => rfl) (fun _ => rfl)
      · split at h
        · rename_i e1
          subst e1
          cases h
          obtain ⟨y, z, rfl, py, pz, hp⟩ := fin .lidx rfl
          have hfew : ((backTo cpos (starEach [a] X.env)).all (fun x => !x.1) && (backToKw cpos (keywordEach [] X.env)).all (fun x => x.1.isSome) && decide ([a].length + ([] : List Keyword).length + (if ([] : List Keyword).isEmpty then 0 else 1) < 30)) = true := by
            rw [pz.star]
            rfl
          exact .mk1 (fun b => ok_m1 hp (fun d d2 u h => let ⟨xs, _, e, _⟩ := lidx_inv h; ⟨xs, e⟩) (idx_r hu) (pe_bm PySem.F.plainAttrs_list PySem.F.slot_list_index PySem.F.type_list_index (mt_indexD hu) (py.pe true) (pa_cons (pz.pe true) pa_nil (pz.star _ _)) rfl hfew hline (pz.star _ _) rfl) b) rfl (fun _ _ _ z => nomatch z) (fun _ => rfl) (fun _ _ => rfl) (fun _ _ => rfl) (fun _ => rfl)
        · cases h
    · cases h
  · cases h
theorem relS_loc {scope sc : Scope} {x : Str} (h : isLoc (scope.names.lookup x) = true) : Loc (relS scope sc) x := by
  unfold isLoc at h
  split at h
  · rename_i e; exact .inl (lookup_relS_keep (by intro z; cases z) e)
  · rename_i e; exact .inr (lookup_relS_keep (by intro z; cases z) e)
  · cases h
theorem pg_blk (C : Ctx G TB g xc CX k E sc X) {x : Str} {p : Pos} {i : Nat} {scope : Scope} (hi : ixOf x g.N = some i) (hl : isLoc (scope.names.lookup x) = true) (s : Shared) (H : Hp) (Ca : Addr) (cl : List (Str × Addr)) (fp : List Addr) : PG (X.blk s H scope (compEnvC scope cl Ca X.env) fp) (.Name x p) (gName i) := by
  have C' := C.blk s H scope cl Ca fp
  have hN : (X.blk s H scope (compEnvC scope cl Ca X.env) fp).N[i]? = some x := by rw [C'.N]; exact ixOf_get hi
  have hx : Loc (X.blk s H scope (compEnvC scope cl Ca X.env) fp).env.scope x := by rw [C'.scope]; exact relS_loc hl
  refine pg_name C'.nd hN hx ?_
  unfold isLoc at hl
  split at hl
  · rename_i e
    right
    rw [C'.scope]
    exact lookup_relS_keep (by intro z; cases z) e
  · rename_i e
    left
    show (scope.names.lookup x == some NameKind.cell) = true
    rw [e]
    rfl
  · cases hl
theorem cpTg_ok (C : Ctx G TB g xc CX k E sc X) {tg : Expr} {t : Tg} {own : List (Str × Nat)} {scope : Scope} (h : cpTg g.N scope tg = some (t, own)) : own.map (·.2) = t.slots ∧ ∀ (s : Shared) (H : Hp) (Ca : Addr) (cl : List (Str × Addr)) (fp : List Addr), PG (X.blk s H scope (compEnvC scope cl Ca X.env) fp) tg (gOf X.K t) := by
  unfold cpTg at h
  split at h
  · split at h
    · rename_i hl
      rw [Bool.and_eq_true] at hl
      obtain ⟨i, hi, h⟩ := bind_inv h
      cases h
      exact ⟨rfl, fun s H Ca cl fp => pg_blk C hi hl.1 s H Ca cl fp⟩
    · cases h
  · split at h
    · rename_i hl
      simp only [Bool.and_eq_true] at hl
      obtain ⟨i, hi, h⟩ := bind_inv h
      obtain ⟨j, hj, h⟩ := bind_inv h
      split at h
      · cases h
      · cases h
        exact ⟨rfl, fun s H Ca cl fp => pg_tup C.calm (pgs_cons (pg_blk C hi hl.1.1.1 s H Ca cl fp) (pgs_cons (pg_blk C hj hl.1.2 s H Ca cl fp) pgs_nil))⟩
    · cases h
  · cases h
theorem srcOf_ok (C : Ctx G TB g xc CX k E sc X) {tg iter : Expr} {sk : Srk} {es : List Expr} {src : List Xp} {b : Bool} {P : Expr → Xp → Prop} (hP : ∀ e x, P e x → OkX G TB E xc X e x) (h : srcOf sc tg iter = some (sk, es)) (hs : OkL X P es src) :
    PI X tg iter (TSrc G TB E xc b sk src) ∧ ∀ x, foldedSetIterable iter X.env x = pure x := by
  have hm : ∀ y, y ∈ bltNames → X.mg y = none := C.blt
  have seq : ∀ e, sk = .seq → es = [e] → PI X tg e (TSrc G TB E xc b sk src) ∧ ∀ x, foldedSetIterable e X.env x = pure x := fun e h1 h2 => by
    subst h1 h2
    obtain ⟨y, ys, rfl, py, t⟩ := hs.tail
    cases t
    exact ⟨src_seq ((hP e y py).pe b), (hP e y py).fold⟩
  have ags : OkL X (fun e x => PE X e (TXp G TB E xc b x)) es src := by
    clear h seq
    induction hs with
    | nil => exact .nil
    | cons p s _ ih => exact .cons ((hP _ _ p).pe b) s ih
  have ag := ok_args ags
  unfold srcOf at h
  split at h
  · split at h
    · rename_i hgn
      rw [Bool.and_eq_true] at hgn
      have gl := C.gl hgn.1
      split at h
      · rename_i e
        subst e
        refine ⟨?_, fun _ => rfl⟩
        split at h
        · cases h
          obtain ⟨y, ys, rfl, py, t⟩ := hs.tail
          cases t
          exact src_rng1 gl (hm _ (by decide)) ag (ags.star _)
        · cases h
          obtain ⟨y, ys, rfl, py, t⟩ := hs.tail
          obtain ⟨y2, ys2, rfl, py2, t2⟩ := t.tail
          cases t2
          have s2 := t.star X.env
          exact src_rng2 gl (hm _ (by decide)) ag ((ags.star X.env).trans (by rw [s2]; rfl)) s2
        · cases h
          obtain ⟨y, ys, rfl, py, t⟩ := hs.tail
          obtain ⟨y2, ys2, rfl, py2, t2⟩ := t.tail
          obtain ⟨y3, ys3, rfl, py3, t3⟩ := t2.tail
          cases t3
          exact src_rng3 gl (hm _ (by decide)) ag (ags.star X.env) (t.any X.env _)
        · cases h
      · split at h
        · rename_i e
          subst e
          refine ⟨?_, fun _ => rfl⟩
          split at h
          · cases h
            obtain ⟨y, ys, rfl, py, t⟩ := hs.tail
            cases t
            exact src_enm gl (hm _ (by decide)) ag (ags.star _)
          · cases h
        · split at h
          · rename_i e
            subst e
            refine ⟨?_, fun _ => rfl⟩
            split at h
            · cases h
              obtain ⟨y, ys, rfl, py, t⟩ := hs.tail
              obtain ⟨y2, ys2, rfl, py2, t2⟩ := t.tail
              cases t2
              exact src_zip gl (hm _ (by decide)) ag (ags.star X.env) (t.any X.env _)
            · cases h
          · cases h
            exact seq _ rfl rfl
    · cases h
  · cases h
    exact seq _ rfl rfl
end
end MR

namespace MR
open PySem PySem.Spec PyProof.Rows L2
section
variable {G : SS} {TB : Tab G.T} {g : Cfg} {xc : Nat → Value} {CX : CXT} {k : Nat}
theorem OkX.mkF {E : L2.St → XK} {X : Cx} {e : Expr} {c : Xp} (hf : freshX c = true) (pe : PE X e (TFr G TB E xc c)) (nb : ∀ op vs p, e ≠ .BoolOp op vs p) (he : ∀ whole, isTrue e X.env whole = (do let v ← whole; standAt e.pos; holding [v] (truthy v)))
    (star : ∀ (l : List Expr) (env : Env), starEach (e :: l) env = (false, eval e env) :: starEach l env) (ix : PlainIx e) (fold : ∀ x, foldedSetIterable e X.env x = pure x) : OkX G TB E xc X e c :=
  ⟨fun b => ok_fresh hf pe, fun _ => okt_val (ok_fresh hf pe) he, fun _ op vs p z => absurd z (nb op vs p), fun _ => pe, star, ix, fold⟩
theorem args_up {E : L2.St → XK} {X : Cx} {es : List Expr} {xs : List Xp} (b : Bool) (h : OkL X (OkX G TB E xc X) es xs) : OkL X (fun e x => PE X e (TXp G TB E xc b x)) es xs := by
  induction h with
  | nil => exact .nil
  | cons p s _ ih => exact .cons (p.pe b) s ih
theorem notNone_inv {x l : Xp} (h : notNone x = some l) : x = l ∧ notNone l = some l := by
  cases x with
  | lit d => cases d <;> first | (cases h; done) | (cases h; exact ⟨rfl, rfl⟩)
  | _ => cases h; exact ⟨rfl, rfl⟩
theorem part_ok {E : L2.St → XK} {X : Cx} {n : Nat} {sc : Scope} (ih : ∀ e c, cpE g n sc e = some c → OkX G TB E xc X e c) {o : Option Expr} {l : Xp} (h : (match o with | none => some (Xp.lit .none) | some l => (cpE g n sc l).bind notNone) = some l) : PO X o (TPart G TB E xc l) := by
  cases o with
  | none =>
    cases h
    exact ok_nopart
  | some e =>
    obtain ⟨x, h1, h2⟩ := bind_inv h
    have e1 : x = l ∧ notNone l = some l := notNone_inv h2
    obtain ⟨rfl, e2⟩ := e1
    exact ok_part ((ih e x h1).pe false) e2
theorem boolAnd_pw {E : L2.St → XK} {X : Cx} {a : Expr} {p : Pos} {x : Xp} (h : OkX G TB E xc X a x) (ht : tst a = true) : PW X (.BoolOp .And [a] p) (TTp G TB E xc x) := pw_and1 (h.pt ht)
theorem boolOr_pw {E : L2.St → XK} {X : Cx} {a : Expr} {p : Pos} {x : Xp} (h : OkX G TB E xc X a x) (ht : tst a = true) : PW X (.BoolOp .Or [a] p) (TTp G TB E xc x) := pw_or1 (h.pt ht)
theorem cpE_ok : ∀ (n : Nat) (sc : Scope) (e : Expr) (c : Xp) (E : L2.St → XK) (X : Cx), Ctx G TB g xc CX k E sc X → cpE g n sc e = some c → OkX G TB E xc X e c
  | 0, _, _, _, _, _, _, h => nomatch h
  | n + 1, sc, e, c, E, X, C, h => by
    have ih : ∀ e c, cpE g n sc e = some c → OkX G TB E xc X e c := fun e c h => cpE_ok n sc e c E X C h
    have ihL : ∀ {es : List Expr} {xs : List Xp}, cpL (cpE g n sc) es = some xs → OkL X (OkX G TB E xc X) es xs := fun {es xs} h => cpL_ok (fun e x q => ⟨ih e x q, (ih e x q).star⟩) h
    have hook : ((primOf sc e).bind fun p => (cpL (cpE g n sc) p.2).bind fun xs => some (Xp.blt p.1 xs)) = some c → OkX G TB E xc X e c := fun h => by
      obtain ⟨⟨f, es⟩, h1, h⟩ := bind_inv h
      obtain ⟨xs, h2, h⟩ := bind_inv h
      cases h
      refine prim_ok C h1 (ihL h2) fun y a z ee hat hz rr st cc ss q => ?_
      have ee : es = [y, a] := ee
      subst ee
      unfold cpL at h2
      obtain ⟨y1, _, h2⟩ := bind_inv h2
      obtain ⟨ys, h3, h2⟩ := bind_inv h2
      unfold cpL at h3
      obtain ⟨z1, h4, h3⟩ := bind_inv h3
      obtain ⟨zs, h5, h3⟩ := bind_inv h3
      cases h5
      cases h3
      cases h2
      have hz : some z1 = some z := hz
      cases hz
      cases n with
      | zero => cases h4
      | succ n =>
        unfold cpE at h4
        cases a <;> first | (cases hat; done) | skip
        · simp only at h4
          obtain ⟨d, _, h4⟩ := bind_inv h4
          cases h4
          simp only [ev] at q
          cases q
        · simp only at h4
          split at h4
          · split at h4
            · obtain ⟨i, _, h4⟩ := bind_inv h4
              cases h4
              simp only [ev] at q
              cases e : getV true rr i with
              | none => rw [e] at q; cases q
              | some d => rw [e] at q; cases q
            · split at h4
              · obtain ⟨d, _, h4⟩ := bind_inv h4
                cases h4
                simp only [ev] at q
                cases q
              · cases h4
          · cases h4
    unfold cpE at h
    split at h
    · -- a name
      split at h
      · rename_i hn
        obtain ⟨h1, h2, h3⟩ := okName_debug hn
        split at h
        · rename_i hv
          obtain ⟨i, hi, h⟩ := bind_inv h
          cases h
          refine .mk1 (fun b => ok_var (by rw [C.N]; exact ixOf_get hi) (by rw [C.scope]; exact isVis_vis hv) h1 h2 b) rfl (fun _ _ _ z => nomatch z) (fun _ => rfl) (fun _ _ => rfl) (fun _ _ => rfl) (fun _ => rfl)
        · split at h
          · rename_i hg
            obtain ⟨d, hd, h⟩ := bind_inv h
            cases h
            obtain ⟨u, v, hm, rv, rp⟩ := C.cst _ d hd
            exact .mk1 (fun b => ok_lit (pe_glob (C.gl hg) hm rv h1) rp b) rfl (fun _ _ _ z => nomatch z) (fun _ => rfl) (fun _ _ => rfl) (fun _ _ => rfl) (fun _ => rfl)
          · cases h
      · cases h
    · -- a constant
      rename_i cc j p
      obtain ⟨d, hd, h⟩ := bind_inv h
      cases h
      cases cc <;> first | (cases hd; done) | skip
      all_goals cases hd
      · exact .mk1 (fun b => ok_lit pe_non (fun _ _ => .non) b) rfl (fun _ _ _ z => nomatch z) (fun _ => rfl) (fun _ _ => rfl) (fun _ _ => rfl) (fun _ => rfl)
      · exact .mk1 (fun b => ok_lit pe_bl (fun _ _ => .bl _) b) rfl (fun _ _ _ z => nomatch z) (fun _ => rfl) (fun _ _ => rfl) (fun _ _ => rfl) (fun _ => rfl)
      · exact .mk1 (fun b => ok_lit pe_int (fun _ _ => .int _) b) rfl (fun _ _ _ z => nomatch z) (fun _ => rfl) (fun _ _ => rfl) (fun _ _ => rfl) (fun _ => rfl)
      · exact .mk1 (fun b => ok_lit pe_str (fun _ _ => .str _) b) rfl (fun _ _ _ z => nomatch z) (fun _ => rfl) (fun _ _ => rfl) (fun _ _ => rfl) (fun _ => rfl)
    · -- a binary operator
      obtain ⟨o, ho, h⟩ := bind_inv h
      obtain ⟨x, hx, h⟩ := bind_inv h
      obtain ⟨y, hy, h⟩ := bind_inv h
      cases h
      exact .mk1 (fun b => ok_bin (C.opR ho) ((ih _ _ hx).pe true) ((ih _ _ hy).pe true)) rfl (fun _ _ _ z => nomatch z) (fun _ => rfl) (fun _ _ => rfl) (fun _ _ => rfl) (fun _ => rfl)
    · obtain ⟨x, hx, h⟩ := bind_inv h
      cases h
      exact .mk1 (fun b => ok_neg ((ih _ _ hx).pe false)) rfl (fun _ _ _ z => nomatch z) (fun _ => rfl) (fun _ _ => rfl) (fun _ _ => rfl) (fun _ => rfl)
    · obtain ⟨x, hx, h⟩ := bind_inv h
      cases h
      exact ⟨fun b => ok_not ((ih _ _ hx).pe false), fun ht => okt_not ((ih _ _ hx).pt ht), (fun _ _ _ _ z => nomatch z), (fun z => nomatch z), fun _ _ => rfl, fun _ _ => rfl, fun _ => rfl⟩
    · -- and, one
      have q := ih _ _ h
      have tt : ∀ {a : Expr} {p : Pos}, tst (.BoolOp .And [a] p) = true → tst a = true := fun z => by
        simp only [tst, tst.tsts, Bool.and_true] at z
        exact z
      exact ⟨fun b => pe_one (q.pe b), fun ht => (boolAnd_pw q (tt ht)).pt, fun ht _ _ _ _ => boolAnd_pw q (tt ht), fun hf => pe_one (q.fr hf), fun _ _ => rfl, fun _ _ => rfl, fun _ => rfl⟩
    · have q := ih _ _ h
      have tt : ∀ {a : Expr} {p : Pos}, tst (.BoolOp .Or [a] p) = true → tst a = true := fun z => by
        simp only [tst, tst.tsts, Bool.and_true] at z
        exact z
      exact ⟨fun b => pe_one (q.pe b), fun ht => (boolOr_pw q (tt ht)).pt, fun ht _ _ _ _ => boolOr_pw q (tt ht), fun hf => pe_one (q.fr hf), fun _ _ => rfl, fun _ _ => rfl, fun _ => rfl⟩
    · obtain ⟨x, hx, h⟩ := bind_inv h
      obtain ⟨y, hy, h⟩ := bind_inv h
      cases h
      have qx := ih _ _ hx
      have qy := ih _ _ hy
      have tt : ∀ {a b : Expr} {r : List Expr} {p : Pos}, tst (.BoolOp .And (a :: b :: r) p) = true → tst a = true ∧ tst (.BoolOp .And (b :: r) p) = true := fun z => by
        simp only [tst, tst.tsts, Bool.and_eq_true] at z ⊢
        exact z
      exact ⟨fun b => ok_and (qx.pe false) (qy.pe false), fun ht => (okt_and (qx.pt (tt ht).1) (qy.pw (tt ht).2 _ _ _ rfl)).pt, fun ht _ _ _ _ => okt_and (qx.pt (tt ht).1) (qy.pw (tt ht).2 _ _ _ rfl), (fun z => nomatch z), fun _ _ => rfl, fun _ _ => rfl, fun _ => rfl⟩
    · obtain ⟨x, hx, h⟩ := bind_inv h
      obtain ⟨y, hy, h⟩ := bind_inv h
      cases h
      have qx := ih _ _ hx
      have qy := ih _ _ hy
      have tt : ∀ {a b : Expr} {r : List Expr} {p : Pos}, tst (.BoolOp .Or (a :: b :: r) p) = true → tst a = true ∧ tst (.BoolOp .Or (b :: r) p) = true := fun z => by
        simp only [tst, tst.tsts, Bool.and_eq_true] at z ⊢
        exact z
      exact ⟨fun b => ok_or (qx.pe false) (qy.pe false), fun ht => (okt_or (qx.pt (tt ht).1) (qy.pw (tt ht).2 _ _ _ rfl)).pt, fun ht _ _ _ _ => okt_or (qx.pt (tt ht).1) (qy.pw (tt ht).2 _ _ _ rfl), (fun z => nomatch z), fun _ _ => rfl, fun _ _ => rfl, fun _ => rfl⟩
    · -- a comparison
      split at h
      · cases h
      · rename_i hb
        have hb' := Bool.eq_false_iff.mpr hb
        obtain ⟨o, ho, h⟩ := bind_inv h
        obtain ⟨x, hx, h⟩ := bind_inv h
        obtain ⟨y, hy, h⟩ := bind_inv h
        cases h
        exact ⟨fun b => ok_cmp (C.cmR ho) ((ih _ _ hx).pe true) ((ih _ _ hy).pe true) hb', fun _ => okt_cmp (C.cmR ho) ((ih _ _ hx).pe true) ((ih _ _ hy).pe true) hb', (fun _ _ _ _ z => nomatch z), (fun z => nomatch z), fun _ _ => rfl, fun _ _ => rfl, fun _ => rfl⟩
    · split at h
      · cases h
      · rename_i hb
        have hb' := Bool.eq_false_iff.mpr hb
        obtain ⟨o, ho, h⟩ := bind_inv h
        obtain ⟨o2, ho2, h⟩ := bind_inv h
        obtain ⟨x, hx, h⟩ := bind_inv h
        obtain ⟨y, hy, h⟩ := bind_inv h
        obtain ⟨z, hz, h⟩ := bind_inv h
        cases h
        exact ⟨fun b => ok_chn (C.cmR ho) (C.cmR ho2) ((ih _ _ hx).pe true) ((ih _ _ hy).pe true) ((ih _ _ hz).pe true) hb', fun _ => okt_chn (C.cmR ho) (C.cmR ho2) ((ih _ _ hx).pe true) ((ih _ _ hy).pe true) ((ih _ _ hz).pe true) hb', (fun _ _ _ _ z => nomatch z), (fun z => nomatch z), fun _ _ => rfl, fun _ _ => rfl, fun _ => rfl⟩
    · -- a if c else b
      split at h
      · rename_i htt
        obtain ⟨z, hz, h⟩ := bind_inv h
        obtain ⟨x, hx, h⟩ := bind_inv h
        obtain ⟨y, hy, h⟩ := bind_inv h
        cases h
        exact ⟨fun b => ok_ite ((ih _ _ hz).pt htt) ((ih _ _ hx).pe false) ((ih _ _ hy).pe false), (fun z => nomatch z), (fun _ _ _ _ z => nomatch z), (fun z => nomatch z), fun _ _ => rfl, fun _ _ => rfl, fun _ => rfl⟩
      · cases h
    · obtain ⟨xs, hx, h⟩ := bind_inv h
      cases h
      exact .mkF rfl (ok_list (ok_args (args_up false (ihL hx)))) (fun _ _ _ z => nomatch z) (fun _ => rfl) (fun _ _ => rfl) (fun _ _ => rfl) (fun _ => rfl)
    · obtain ⟨xs, hx, h⟩ := bind_inv h
      cases h
      exact .mk1 (fun b => ok_tup (ok_args (args_up false (ihL hx)))) rfl (fun _ _ _ z => nomatch z) (fun _ => rfl) (fun _ _ => rfl) (fun _ _ => rfl) (fun _ => rfl)
    · -- a cut
      obtain ⟨x, hx, h⟩ := bind_inv h
      obtain ⟨l, hl, h⟩ := bind_inv h
      obtain ⟨u, hu, h⟩ := bind_inv h
      cases h
      exact .mk1 (fun b => ok_slc ((ih _ _ hx).pe true) (part_ok ih hl) (part_ok ih hu)) rfl (fun _ _ _ z => nomatch z) (fun _ => rfl) (fun _ _ => rfl) (fun _ _ => rfl) (fun _ => rfl)
    · obtain ⟨x, hx, h⟩ := bind_inv h
      cases h
      exact .mk1 (fun b => ok_rev ((ih _ _ hx).pe true)) rfl (fun _ _ _ z => nomatch z) (fun _ => rfl) (fun _ _ => rfl) (fun _ _ => rfl) (fun _ => rfl)
    · cases h
    · -- an item
      obtain ⟨x, hx, h⟩ := bind_inv h
      obtain ⟨y, hy, h⟩ := bind_inv h
      cases h
      exact .mk1 (fun b => ok_idx ((ih _ _ hx).pe true) ((ih _ _ hy).pe false) (ih _ _ hy).ix) rfl (fun _ _ _ z => nomatch z) (fun _ => rfl) (fun _ _ => rfl) (fun _ _ => rfl) (fun _ => rfl)
    · -- a call
      split at h
      · rename_i hgn
        rw [Bool.and_eq_true] at hgn
        obtain ⟨h1, h2, h3⟩ := okName_debug hgn.1
        have gl := C.gl hgn.2
        split at h
        · rename_i f hf
          obtain ⟨xs, hx, h⟩ := bind_inv h
          cases h
          obtain ⟨fa, fd, ps, F, hm, hk, hb⟩ := (C.fns _ _ hf).ex
          have al := ihL hx
          have ag := ok_args (args_up false al)
          refine .mk1 (fun b => ok_call (pe_callS F C.room gl hm hk hb C.pas ag h1 (al.star _) ?_) (fun _ _ _ h => h) fun r st ds st' q => evs_length TB false r xs st ds st' q) rfl (fun _ _ _ z => nomatch z) (fun _ => rfl) (fun _ _ => rfl) (fun _ _ => rfl) (fun _ => rfl)
          obtain ⟨_, _, _, _, tl⟩ := al.tail
          exact tl.any _ _
        · split at h
          · rename_i f hf
            obtain ⟨xs, hx, h⟩ := bind_inv h
            cases h
            obtain ⟨fa, fd, ps, F, hm, hk, hb⟩ := (C.ffs _ _ hf).ex
            have al := ihL hx
            have ag := ok_args (args_up false al)
            refine .mkF rfl (ok_callF (pe_callS F C.room gl hm hk hb C.pas ag h1 (al.star _) ?_) (fun _ _ _ h => h) fun r st ds st' q => evs_length TB false r xs st ds st' q) (fun _ _ _ z => nomatch z) (fun _ => rfl) (fun _ _ => rfl) (fun _ _ => rfl) (fun _ => rfl)
            obtain ⟨_, _, _, _, tl⟩ := al.tail
            exact tl.any _ _
          · split at h
            · rename_i f hf
              split at h
              rotate_left
              · exact hook h
              rename_i xs hx
              cases h
              have q := fun p pos => ok_bltCall (pos := pos) (p := p) C hf hgn.1 hgn.2 (args_up true (ihL hx))
              exact ⟨(q _ _).1, fun _ => okt_val ((q _ _).1 false) (fun _ => rfl), (fun _ _ _ _ z => nomatch z), (q _ _).2, fun _ _ => rfl, fun _ _ => rfl, fun _ => rfl⟩
            · split at h
              · rename_i e
                subst e
                split at h
                · split at h
                  · rename_i hq
                    rw [Bool.and_eq_true] at hq
                    split at h
                    · rename_i t ht
                      obtain ⟨y, hy, h⟩ := bind_inv h
                      cases h
                      exact .mk1 (fun b => ok_isiCall C ht hq.1 hq.2 hgn.2 (ih _ _ hy) b) rfl (fun _ _ _ z => nomatch z) (fun _ => rfl) (fun _ _ => rfl) (fun _ _ => rfl) (fun _ => rfl)
                    · obtain ⟨i, hi, h⟩ := bind_inv h
                      obtain ⟨y, hy, h⟩ := bind_inv h
                      cases h
                      exact .mk1 (fun b => ok_isxCall C hi hq.1 hq.2 hgn.2 (ih _ _ hy) b) rfl (fun _ _ _ z => nomatch z) (fun _ => rfl) (fun _ _ => rfl) (fun _ _ => rfl) (fun _ => rfl)
                  · cases h
                · cases h
              · exact hook h
      · cases h
    · -- a comprehension
      obtain ⟨⟨t, own⟩, htg, h⟩ := bind_inv h
      simp only at h
      split at h
      · rename_i hblk
        obtain ⟨⟨sk, es⟩, hso, h⟩ := bind_inv h
        obtain ⟨src, hsrc, h⟩ := bind_inv h
        obtain ⟨x, hx, h⟩ := bind_inv h
        cases h
        obtain ⟨ho, hg⟩ := cpTg_ok C htg
        obtain ⟨hi, hfo⟩ := srcOf_ok (b := true) C (fun _ _ q => q) hso (ihL hsrc)
        exact .mkF rfl (ok_comp C.calm C.nd hi (by rw [C.N, C.scope]; exact blkOk_by hblk) ho hg (fun s H Ca cl fp => (cpE_ok n _ _ x Eff _ (C.blk s H _ cl Ca fp) hx).pe false) hfo) (fun _ _ _ z => nomatch z) (fun _ => rfl) (fun _ _ => rfl) (fun _ _ => rfl) (fun _ => rfl)
      · cases h
    · obtain ⟨⟨t, own⟩, htg, h⟩ := bind_inv h
      simp only at h
      split at h
      · rename_i hblk
        rw [Bool.and_eq_true] at hblk
        obtain ⟨⟨sk, es⟩, hso, h⟩ := bind_inv h
        obtain ⟨src, hsrc, h⟩ := bind_inv h
        obtain ⟨x, hx, h⟩ := bind_inv h
        obtain ⟨y, hy, h⟩ := bind_inv h
        cases h
        obtain ⟨ho, hg⟩ := cpTg_ok C htg
        obtain ⟨hi, hfo⟩ := srcOf_ok (b := true) C (fun _ _ q => q) hso (ihL hsrc)
        exact .mkF rfl (ok_compC C.calm C.nd hi (by rw [C.N, C.scope]; exact blkOk_by hblk.1) ho hg (fun s H Ca cl fp => (cpE_ok n _ _ y Eff _ (C.blk s H _ cl Ca fp) hy).pt hblk.2) (fun s H Ca cl fp => (cpE_ok n _ _ x Eff _ (C.blk s H _ cl Ca fp) hx).pe false) hfo) (fun _ _ _ z => nomatch z) (fun _ => rfl) (fun _ _ => rfl) (fun _ _ => rfl) (fun _ => rfl)
      · cases h
    · exact hook h
end
end MR

namespace MR
open PySem PySem.Spec PyProof.Rows L2
/-! ### statements of the small language -/
mutual
def esc (b : Bool) : Xp → List Nat
  | .var i => if b then [] else [i]
  | .lit _ => []
  | .bin _ x y => esc true x ++ esc true y
  | .neg x => esc false x
  | .not x => esc false x
  | .and x y => esc false x ++ esc false y
  | .or x y => esc false x ++ esc false y
  | .chn _ _ x y z => esc true x ++ (esc true y ++ esc true z)
  | .ite c x y => esc false c ++ (esc false x ++ esc false y)
  | .list es => escs false es
  | .tup es => escs false es
  | .idx x y => esc true x ++ esc false y
  | .slc x l h => esc true x ++ (esc false l ++ esc false h)
  | .rev x => esc true x
  | .blt _ es => escs true es
  | .isi _ x => esc true x
  | .call _ es => escs false es
  | .callF _ es => escs false es
  | .comp elt _ _ src none => escs true src ++ esc false elt
  | .comp elt _ _ src (some c) => escs true src ++ (esc false elt ++ esc false c)
def escs (b : Bool) : List Xp → List Nat
  | [] => []
  | e :: es => esc b e ++ escs b es
end
inductive Cm where
  | set (i : Nat) (e : Xp)
  | tset (is : List Nat) (e : Xp)
  | par (i j : Nat) (a b : Xp)
  | aug (o : Bop) (i : Nat) (e : Xp)
  | app (i : Nat) (e : Xp)
  | sti (i : Nat) (ix e : Xp)
  | ret (e : Xp)
  | exp (e : Xp)
  | iff (c : Xp) (a b : List Cm)
  | loop (tg : Tg) (k : Srk) (src : List Xp) (body : List Cm)
  | whl (c : Xp) (body : List Cm)
  | rse (x : Nat)
  | tryx (body : Cm) (e i : Nat)
  | skip
  | never
inductive Fl where
  | next (r : MRho) | ret (d : D)
def setAll : MRho → List Nat → List D → MRho
  | r, i :: is, d :: ds => setAll (r.set i (.val d)) is ds
  | r, _, _ => r
section
variable {T : Type}
def forM (f : D → MRho → T → Rs T Fl) : List D → MRho → T → Rs T Fl
  | [], r, s => .ok (.next r) s
  | d :: ds, r, s => (f d r s).bind fun fl s1 => match fl with
    | .next r' => forM f ds r' s1
    | .ret v => .ok (.ret v) s1
def whileM (c : MRho → T → Rs T (Bool × MRho)) (body : MRho → T → Rs T Fl) : Nat → MRho → T → Rs T Fl
  | 0, _, _ => .stuck
  | n + 1, r, s => (c r s).bind fun p s1 => match p with
    | (true, r1) => (body r1 s1).bind fun fl s2 => match fl with
      | .next r2 => whileM c body n r2 s2
      | .ret v => .ok (.ret v) s2
    | (false, r1) => .ok (.next r1) s1
variable (G : Tab T)
def evO (r : MRho) (e : Xp) (s : T) : Rs T Slt := if freshX e = true then (evF G r e s).bind fun l s1 => .ok (.own l) s1 else (ev G false r e s).bind fun d s1 => .ok (.val d) s1
def testM (c : Xp) (r : MRho) (s : T) : Rs T (Bool × MRho) := (ev G false (frz r (esc false c)) c s).bind fun d s1 => match d with
  | .bool b => .ok (b, frz r (esc false c)) s1
  | _ => .stuck
mutual
def exS : Cm → MRho → T → Rs T Fl
  | .set i e, r, s => (evO G (frz r (esc false e)) e s).bind fun v s1 => .ok (.next ((frz r (esc false e)).set i v)) s1
  | .tset is e, r, s => (ev G false (frz r (esc false e)) e s).bind fun d s1 => match d with
    | .tuple ds => if ds.length = is.length then .ok (.next (setAll (frz r (esc false e)) is ds)) s1 else .stuck
    | _ => .stuck
  | .par i j a b, r, s => (evO G (frz r (esc false a ++ esc false b)) a s).bind fun v s1 => (evO G (frz r (esc false a ++ esc false b)) b s1).bind fun u s2 => .ok (.next (((frz r (esc false a ++ esc false b)).set i v).set j u)) s2
  | .aug o i e, r, s => match (frz r (esc true e))[i]? with
    | some (.val (.int x)) => (ev G true (frz r (esc true e)) e s).bind fun d s1 => match o, d with
      | .add, .int y => .ok (.next ((frz r (esc true e)).set i (.val (.int (x + y))))) s1
      | .sub, .int y => .ok (.next ((frz r (esc true e)).set i (.val (.int (x - y))))) s1
      | _, _ => .stuck
    | some (.own l) => (ev G true (frz r (esc true e)) e s).bind fun d s1 => match o, d with
      | .add, .list m => if l.length + m.length ≤ LIM then .ok (.next ((frz r (esc true e)).set i (.own (l ++ m)))) s1 else .stuck
      | _, _ => .stuck
    | _ => .stuck
  | .app i e, r, s => match (frz r (esc false e))[i]? with
    | some (.own l) => (ev G false (frz r (esc false e)) e s).bind fun d s1 => if l.length < LIM then .ok (.next ((frz r (esc false e)).set i (.own (l ++ [d])))) s1 else .stuck
    | _ => .stuck
  | .sti i ix e, r, s => match (frz r (esc false e ++ esc false ix))[i]? with
    | some (.own l) => (ev G false (frz r (esc false e ++ esc false ix)) e s).bind fun d s1 => (ev G false (frz r (esc false e ++ esc false ix)) ix s1).bind fun x s2 => match x with
      | .int k => match ixN l.length k with
        | some j => .ok (.next ((frz r (esc false e ++ esc false ix)).set i (.own (l.set j d)))) s2
        | none => .stuck
      | _ => .stuck
    | _ => .stuck
  | .ret e, r, s => (ev G false (frz r (esc false e)) e s).bind fun d s1 => .ok (.ret d) s1
  | .exp e, r, s => (ev G false (frz r (esc false e)) e s).bind fun _ s1 => .ok (.next (frz r (esc false e))) s1
  | .iff c a b, r, s => (testM G c r s).bind fun p s1 => match p with
    | (true, r1) => exSs a r1 s1
    | (false, r1) => exSs b r1 s1
  | .loop tg k src body, r, s => (evs G false (frz r (escs false src)) src s).bind fun ss s1 => match srcD k ss with
    | some ds => forM (fun d r s => match bindT tg d r with
      | some r' => exSs body r' s
      | none => .stuck) ds (frz r (escs false src)) s1
    | none => .stuck
  | .whl c body, r, s => whileM (testM G c) (exSs body) 1000 r s
  | .rse x, _, s => .exc x s
  | .tryx body e i, r, s => match exS body (frz r (List.range r.length)) s with
    | .ok fl s1 => .ok fl s1
    | .exc c s1 => if c < 6 then .ok (.next (((frz r (List.range r.length)).set e .un).set i (.val (excD c)))) s1 else .stuck
    | .stuck => .stuck
  | .skip, r, s => .ok (.next r) s
  | .never, _, _ => .stuck
def exSs : List Cm → MRho → T → Rs T Fl
  | [], r, s => .ok (.next r) s
  | c :: cs, r, s => (exS c r s).bind fun fl s1 => match fl with
    | .next r' => exSs cs r' s1
    | .ret v => .ok (.ret v) s1
end
/-- a def's body -/
def runD (n : Nat) (body : List Cm) (ds : List D) (s : T) : Rs T D := (exSs G body (ds.map Slt.val ++ List.replicate (n - ds.length) .un) s).bind fun fl s1 => match fl with
  | .next _ => .ok .none s1
  | .ret d => .ok d s1
end
/-! ### from the text -/
def cpNames (N : List Str) (sc : Scope) : List Expr → Option (List Nat)
  | [] => some []
  | .Name x _ :: r => if okName x && isLoc (sc.names.lookup x) then (ixOf x N).bind fun i => (cpNames N sc r).bind fun is => some (i :: is) else none
  | _ => none
/-- are the stores of x, y = (a, b) swapped? -/
def swapB (sc : Scope) (x y : Str) (px py : Pos) (a b : Expr) : Bool :=
  decide (sc.names.lookup x = some .local) && decide (sc.names.lookup y = some .local) && (px.line == py.line) && !(x == y) && !([a, b].all (foldedForSure 8)) && !([a, b].all (constantsAlone 8))
def cpFTg (N : List Str) (sc : Scope) : Expr → Option Tg
  | .Name x _ => if okName x && isLoc (sc.names.lookup x) then (ixOf x N).bind fun i => some (.one i) else none
  | .Tuple [.Name x _, .Name y _] _ _ => if okName x && isLoc (sc.names.lookup x) && okName y && isLoc (sc.names.lookup y) then (ixOf x N).bind fun i => (ixOf y N).bind fun j => some (.two i j) else none
  | _ => none
def isComp : Expr → Bool
  | .ListComp .. => true
  | .SetComp .. => true
  | .DictComp .. => true
  | _ => false
/-- is name = comprehension of the kind that stores first? -/
def swapC (sc : Scope) (y : Str) (py : Pos) : Expr → Bool
  | .ListComp _ _ scope pos => decide (sc.names.lookup y = some .local) && (py.line == pos.line) && !(scope.names.any fun (n, k) => n == y && (k == .local || k == .cell))
  | _ => false
/-- the one statement of a try's body -/
def cpLf (g : Cfg) : Nat → Scope → Stmt → Option Cm
  | 0, _, _ => none
  | n + 1, sc, st => match st with
    | .Assign [.Name x _] e _ => if okName x && isLoc (sc.names.lookup x) && !isComp e then (ixOf x g.N).bind fun i => (cpE g 60 sc e).bind fun c => if freshX c then none else some (.set i c) else none
    | .Expr (.Call f a kw p) _ => (cpE g 60 sc (.Call f a kw p)).bind fun c => some (.exp c)
    | .If c [a] [b] _ => if tst c then (cpE g 60 sc c).bind fun x => (cpLf g n sc a).bind fun y => (cpLf g n sc b).bind fun z => some (.iff x [y] [z]) else none
    | _ => none
mutual
def cpS (g : Cfg) (xs : List (Str × Nat)) : Nat → Scope → Stmt → Option Cm
  | 0, _, _ => none
  | n + 1, sc, st => match st with
    | .Pass _ => some .skip
    | .Return (some e) _ => (cpE g 60 sc e).bind fun c => some (.ret c)
    | .Assign [.Name x _] e _ => if okName x && isLoc (sc.names.lookup x) then (ixOf x g.N).bind fun i => (cpE g 60 sc e).bind fun c => some (.set i c) else none
    | .Assign [.Tuple [.Name x px, .Name y py] _ _] (.Tuple [a, b] kk pp) _ =>
      if okName x && isLoc (sc.names.lookup x) && okName y && isLoc (sc.names.lookup y) then
        (ixOf x g.N).bind fun i => (ixOf y g.N).bind fun j => if i = j then none else
        if swapB sc x y px py a b then (cpE g 60 sc a).bind fun u => (cpE g 60 sc b).bind fun v => some (.par i j u v)
        else if decide (sc.names.lookup x = some .cell) || decide (sc.names.lookup y = some .cell) then (cpE g 60 sc (.Tuple [a, b] kk pp)).bind fun c => some (.tset [i, j] c)
        else none
      else none
    | .Assign [.Tuple _ _ _] (.Tuple _ _ _) _ => none
    | .Assign [.Tuple es _ _] e _ => if isComp e then none else (cpNames g.N sc es).bind fun is => (cpE g 60 sc e).bind fun c => some (.tset is c)
    | .Assign [.Subscript (.Name x _) ix _] e _ => if okName x && isVis (sc.names.lookup x) && !isComp e then (ixOf x g.N).bind fun i => (cpE g 60 sc ix).bind fun j => (cpE g 60 sc e).bind fun c => some (.sti i j c) else none
    | .AugAssign (.Name x _) .Add e _ => if okName x && isLoc (sc.names.lookup x) then (ixOf x g.N).bind fun i => (cpE g 60 sc e).bind fun c => some (.aug .add i c) else none
    | .AugAssign (.Name x _) .Sub e _ => if okName x && isLoc (sc.names.lookup x) then (ixOf x g.N).bind fun i => (cpE g 60 sc e).bind fun c => some (.aug .sub i c) else none
    | .Expr (.Call (.Attribute (.Name x _) m apos) [e] [] cpos) _ => if m = "append" && okName x && isVis (sc.names.lookup x) && (apos.endLine == cpos.line) then (ixOf x g.N).bind fun i => (cpE g 60 sc e).bind fun c => some (.app i c) else none
    | .Expr (.Call f a kw p) _ => (cpE g 60 sc (.Call f a kw p)).bind fun c => some (.exp c)
    | .If c a b _ => if tst c then (cpE g 60 sc c).bind fun x => (cpSs g xs n sc a).bind fun y => (cpSs g xs n sc b).bind fun z => some (.iff x y z) else none
    | .For tg iter body [] _ => (cpFTg g.N sc tg).bind fun t => (srcOf sc tg iter).bind fun (sk, es) => (cpL (cpE g 60 sc) es).bind fun src => (cpSs g xs n sc body).bind fun b => some (.loop t sk src b)
    | .While c body [] _ => if tst c then (cpE g 60 sc c).bind fun x => (cpSs g xs n sc body).bind fun y => some (.whl x y) else none
    | .Raise (some (.Call (.Name x _) [.Constant (.str _) _ _] [] _)) none _ => if okName x && isGlo (sc.names.lookup x) then
        match xs.lookup x with
        | some i => some (.rse i)
        | none => some .never
      else some .never
    | .Try [b] [.ExceptHandler (some (.Name x _)) (some m) [.Assign [.Name y py] (.Name m2 p2) pa] _] [] [] _ =>
      if okName x && isGlo (sc.names.lookup x) && decide (x = "MedianError") && decide (m2 = m) && okName m && decide (sc.names.lookup m = some .local) && okName y && decide (sc.names.lookup y = some .local) && !xs.isEmpty then
        (ixOf m g.N).bind fun e => (ixOf y g.N).bind fun i => if e = i then none else (cpLf g n sc b).bind fun c => some (.tryx c e i)
      else none
    | _ => none
def cpSs (g : Cfg) (xs : List (Str × Nat)) : Nat → Scope → List Stmt → Option (List Cm)
  | 0, _, _ => none
  | _ + 1, _, [] => some []
  | n + 1, sc, st :: r => match cpS g xs n sc st with
    | some c => (cpSs g xs n sc r).bind fun cs => some (c :: cs)
    | none => some [.never]
end
end MR

namespace MR
open PySem PySem.Spec PyProof.Rows L2
abbrev cE (E : XK) : L2.St → XK := fun _ => E
/-- plain data stays as it is -/
structure Frm (S : Wl) (H : Hp) (S' : Wl) (H' : Hp) : Prop where
  sub : ∀ a, S a → S' a
  keep : ∀ a o, S a → H a = some o → H' a = some o
  tup : ∀ a xs, H a = some (.tup xs) → H' a = some (.tup xs)
  xs : S'.X = S.X
theorem Frm.refl {S : Wl} {H : Hp} : Frm S H S H := ⟨fun _ h => h, fun _ _ _ h => h, fun _ _ h => h, rfl⟩
theorem Frm.trans {S S1 S2 : Wl} {H H1 H2 : Hp} (x : Frm S H S1 H1) (y : Frm S1 H1 S2 H2) : Frm S H S2 H2 := ⟨fun a h => y.sub a (x.sub a h), fun a o s h => y.keep a o (x.sub a s) (x.keep a o s h), fun a xs h => y.tup a xs (x.tup a xs h), y.xs.trans x.xs⟩
theorem Ext.frm {G : SS} {S S' : Wl} {H H' : Hp} {st : G.T} (w : Wd G S H st) (x : Ext G S H S' H') : Frm S H S' H' := ⟨x.sub, fun a o s h => x.keep a o h (w.dis a s), fun a xs h => x.keep a _ h (w.ntup h), x.xs⟩
def OutS (G : SS) (E : XK) (xc : Nat → Value) (S0 : Wl) (H0 : Hp) (S : Wl) (H : Hp) (res : Rs G.T Fl) (D : Ends) : Prop := match res with
  | .ok (.next r) st => ∀ S' H' sg, Ext G S0 H0 S' H' → Frm S H S' H' → Wd G S' H' st → Fm G H0 S' H' sg r → D.nx sg H'
  | .ok (.ret d) st => ∀ S' H' v, Ext G S0 H0 S' H' → Wd G S' H' st → Rep S' H' v d → D.rt v H'
  | .exc x st => ∀ S' H', Ext G S0 H0 S' H' → Wd G S' H' st → E (xc x) none H'
  | .stuck => False
section
variable {G : SS} {TB : Tab G.T} {g : Cfg} {xc : Nat → Value} {CX : CXT} {k : Nat} {E : XK} {sc : Scope} {X : Cx} {pos : Pos}
section
variable {S0 S S' : Wl} {H0 H H' : Hp} {st : G.T} {sg : L2.St} {r : MRho} {D : Ends}
theorem OutS.frm {res : Rs G.T Fl} (h : OutS G E xc S0 H0 S H res D) (f : Frm S H S' H') : OutS G E xc S0 H0 S' H' res D := by
  cases res with
  | ok fl st =>
    cases fl with
    | next r => exact fun S2 H2 sg x f2 w fm => h S2 H2 sg x (f.trans f2) w fm
    | ret d => exact h
  | exc c st => exact h
  | stuck => exact h
theorem OutS.bind {A : Type} {r : Rs G.T A} {f : A → G.T → Rs G.T Fl} (h : OutS G E xc S0 H0 S H (r.bind f) D) (x : Ext G S0 H0 S H) (w : Wd G S H st) : Out G E xc S H r (fun a S1 H1 st1 => Ext G S0 H0 S1 H1 ∧ OutS G E xc S0 H0 S1 H1 (f a st1) D) := by
  cases r with
  | ok a s1 => exact fun S1 H1 x1 w1 => ⟨x.trans x1, OutS.frm h (x1.frm w)⟩
  | exc c s1 => exact fun S1 H1 x1 w1 => h S1 H1 (x.trans x1) w1
  | stuck => exact h
theorem frz_st (is : List Nat) (x : Ext G S0 H0 S H) (w : Wd G S H st) (f : Fm G H0 S H sg r) : ∃ S1, Frm S H S1 H ∧ Ext G S0 H0 S1 H ∧ Wd G S1 H st ∧ Fm G H0 S1 H sg (frz r is) := by
  obtain ⟨S1, h1, h2, hz, hx, w1, f1⟩ := f.frz is w
  exact ⟨S1, ⟨h1, fun _ _ _ h => h, fun _ _ h => h, hx⟩, ⟨fun a z => h1 a (x.sub a z), fun a z => (h2 a z).elim (x.new a) .inr, x.keep, x.kn, fun a z => x.zn a (by rw [hz] at z; exact z), hx.trans x.xs⟩, w1, f1⟩
/-- a value for a slot -/
def SlRep (G : SS) (H : Hp) (S' : Wl) (H' : Hp) (v : V) : Slt → Prop
  | .val d => Rep S' H' v d
  | .own l => ∃ a xs, v = .ref a ∧ H a = none ∧ ¬ S' a ∧ ¬ S'.Z a ∧ H' a = some (.lst xs) ∧ Reps S' H' xs l
  | .un => False
theorem Fm.setS {i : Nat} {v : V} {sl : Slt} (f : Fm G H0 S H sg r) (w : Wd G S H st) (x : Ext G S H S' H') (hn : ∀ a, H a = none → H0 a = none) (h : SlRep G H S' H' v sl) : Fm G H0 S' H' (sg.set i (some v)) (r.set i sl) := by
  cases sl with
  | un => exact h.elim
  | val d => exact (f.ext w x).set h
  | own l =>
    obtain ⟨a, xs, rfl, h1, h2, h3, h4, h5⟩ := h
    refine (f.ext w x).setOwn h2 h3 (hn a h1) h4 h5 fun j es hj e => ?_
    obtain ⟨b, ys, e1, _, _, _, e2, _⟩ := f.own j es hj
    rw [e1] at e
    cases e
    rw [h1] at e2
    cases e2
end
def TOv (G : SS) (TB : Tab G.T) (E : XK) (xc : Nat → Value) (c : Xp) : TE := fun sg H Q => ∃ H0 S r st, Wd G S H st ∧ Fm G H0 S H sg r ∧ Out G E xc S H (evO TB r c st) (fun sl S' H' _ => ∀ v, SlRep G H S' H' v sl → Q v H')
def TC (G : SS) (TB : Tab G.T) (E : XK) (xc : Nat → Value) (c : Cm) : TS := fun D sg H => ∃ S0 H0 S r st, Ext G S0 H0 S H ∧ Wd G S H st ∧ Fm G H0 S H sg r ∧ OutS G E xc S0 H0 S H (exS TB c r st) D
def TCs (G : SS) (TB : Tab G.T) (E : XK) (xc : Nat → Value) (cs : List Cm) : TS := fun D sg H => ∃ S0 H0 S r st, Ext G S0 H0 S H ∧ Wd G S H st ∧ Fm G H0 S H sg r ∧ OutS G E xc S0 H0 S H (exSs TB cs r st) D
theorem _root_.L2.PS.imp {st : Stmt} {t u : TS} (h : PS X st t) (f : ∀ D sg H, u D sg H → t D sg H) : PS X st u := ⟨fun pins s sg H D I q => h.run pins s sg H D I (f _ _ _ q)⟩
theorem _root_.L2.PSs.imp {st : List Stmt} {t u : TS} (h : PSs X st t) (f : ∀ D sg H, u D sg H → t D sg H) : PSs X st u := ⟨fun pins s sg H D I q => h.run pins s sg H D I (f _ _ _ q)⟩
theorem tov_of {c : Xp} {sg : L2.St} {H : Hp} {Q : VK} (h : TOv G TB E xc c sg H Q) : (freshX c = true ∧ TFr G TB (cE E) xc c sg H Q) ∨ (freshX c = false ∧ TXp G TB (cE E) xc false c sg H Q) := by
  obtain ⟨H0, S, r, st, w, f, o⟩ := h
  unfold evO at o
  split at o
  · rename_i hf
    refine .inl ⟨hf, H0, S, r, st, w, f, ?_⟩
    cases q : evF TB r c st with
    | ok l s1 =>
      rw [q] at o
      exact fun S1 H1 x1 w1 a xs h1 h2 h3 h4 h5 => o S1 H1 x1 w1 _ ⟨a, xs, rfl, h1, h2, h3, h4, h5⟩
    | exc e s1 => rw [q] at o; exact o
    | stuck => rw [q] at o; exact o
  · rename_i hf
    refine .inr ⟨by simpa using hf, H0, S, r, st, w, f, ?_⟩
    cases q : ev TB false r c st with
    | ok l s1 =>
      rw [q] at o
      exact fun S1 H1 x1 w1 v rv => o S1 H1 x1 w1 v rv.rep
    | exc e s1 => rw [q] at o; exact o
    | stuck => rw [q] at o; exact o
theorem OkX.ov {e : Expr} {c : Xp} (h : OkX G TB (cE E) xc X e c) : PE X e (TOv G TB E xc c) := by
  cases q : freshX c with
  | true => exact (h.fr q).imp fun sg H Q t => (tov_of t).elim (fun z => z.2) fun z => by rw [q] at z; cases z.1
  | false => exact (h.pe false).imp fun sg H Q t => (tov_of t).elim (fun z => by rw [q] at z; cases z.1) fun z => z.2
/-! ### statement by statement -/
theorem st_set {st : Stmt} {i : Nat} {c : Xp} (h : PS X st (tAsg (TOv G TB E xc c) (gName i))) : PS X st (TC G TB E xc (.set i c)) := h.imp fun D sg H ⟨S0, H0, S, r, s, x, w, f, o⟩ => by
  simp only [exS] at o
  obtain ⟨S1, fr, x1, w1, f1⟩ := frz_st (esc false c) x w f
  refine ⟨H0, S1, _, s, w1, f1, ((o.frm fr).bind x1 w1).imp fun sl S2 H2 s2 x2 w2 ⟨x3, o2⟩ v hv => ?_⟩
  exact o2 S2 H2 _ x3 .refl w2 (f1.setS w1 x2 x1.kn hv)
theorem st_ret {e : Expr} {c : Xp} (h : PE X e (TXp G TB (cE E) xc false c)) : PS X (.Return (some e) pos) (TC G TB E xc (.ret c)) := (ps_ret (pos := pos) h).imp fun D sg H ⟨S0, H0, S, r, s, x, w, f, o⟩ => by
  simp only [exS] at o
  obtain ⟨S1, fr, x1, w1, f1⟩ := frz_st (esc false c) x w f
  refine ⟨H0, S1, _, s, w1, f1, ((o.frm fr).bind x1 w1).imp fun d S2 H2 s2 x2 w2 ⟨x3, o2⟩ v hv => ?_⟩
  exact o2 S2 H2 v x3 w2 hv.rep
theorem st_exp {e : Expr} {c : Xp} (h : PE X e (TXp G TB (cE E) xc false c)) (hs : swapsWith e none pos.line X.env = pure false) : PS X (.Expr e pos) (TC G TB E xc (.exp c)) := (ps_expr (pos := pos) h hs).imp fun D sg H ⟨S0, H0, S, r, s, x, w, f, o⟩ => by
  simp only [exS] at o
  obtain ⟨S1, fr, x1, w1, f1⟩ := frz_st (esc false c) x w f
  refine ⟨H0, S1, _, s, w1, f1, ((o.frm fr).bind x1 w1).imp fun d S2 H2 s2 x2 w2 ⟨x3, o2⟩ v hv => ?_⟩
  exact o2 S2 H2 sg x3 .refl w2 (f1.ext w1 x2)
theorem testM_out {S0 S : Wl} {H0 H : Hp} {s : G.T} {sg : L2.St} {r : MRho} {c : Xp} {D : Ends} {kk : Bool × MRho → G.T → Rs G.T Fl} {Q : Bool → Hp → Prop} (x : Ext G S0 H0 S H) (w : Wd G S H s) (f : Fm G H0 S H sg r) (o : OutS G E xc S0 H0 S H ((testM TB c r s).bind kk) D)
    (hQ : ∀ b S1 H1 s1, Ext G S0 H0 S1 H1 → Frm S H S1 H1 → Wd G S1 H1 s1 → Fm G H0 S1 H1 sg (frz r (esc false c)) → OutS G E xc S0 H0 S1 H1 (kk (b, frz r (esc false c)) s1) D → Q b H1) : TTp G TB (cE E) xc c sg H Q := by
  obtain ⟨S1, fr, x1, w1, f1⟩ := frz_st (esc false c) x w f
  unfold testM at o
  rw [bind_assoc'] at o
  refine ⟨H0, S1, _, s, w1, f1, ((o.frm fr).bind x1 w1).imp fun d S2 H2 s2 x2 w2 ⟨x3, o2⟩ => ?_⟩
  cases d with
  | bool b => exact ⟨b, rfl, hQ b S2 H2 s2 x3 (fr.trans (x2.frm w1)) w2 (f1.ext w1 x2) o2⟩
  | _ => exact o2.elim
theorem st_if {e : Expr} {c : Xp} {a b : List Stmt} {ca cb : List Cm} (hc : PT X e (TTp G TB (cE E) xc c)) (ha : PSs X a (TCs G TB E xc ca)) (hb : PSs X b (TCs G TB E xc cb)) : PS X (.If e a b pos) (TC G TB E xc (.iff c ca cb)) := (ps_if (pos := pos) hc ha hb).imp fun D sg H ⟨S0, H0, S, r, s, x, w, f, o⟩ => by
  simp only [exS] at o
  refine testM_out x w f o fun b S1 H1 s1 x1 fr w1 f1 o1 => ?_
  cases b with
  | true =>
    simp only [if_true]
    exact ⟨S0, H0, S1, _, s1, x1, w1, f1, o1⟩
  | false =>
    simp only [Bool.false_eq_true, if_false]
    exact ⟨S0, H0, S1, _, s1, x1, w1, f1, o1⟩
theorem sts_nil : PSs X [] (TCs G TB E xc []) := pss_nil.imp fun D sg H ⟨S0, H0, S, r, s, x, w, f, o⟩ => by
  simp only [exSs] at o
  exact o S H sg x .refl w f
theorem sts_cons {st : Stmt} {sts : List Stmt} {c : Cm} {cs : List Cm} (h1 : PS X st (TC G TB E xc c)) (h2 : PSs X sts (TCs G TB E xc cs)) : PSs X (st :: sts) (TCs G TB E xc (c :: cs)) := (pss_cons h1 h2).imp fun D sg H ⟨S0, H0, S, r, s, x, w, f, o⟩ => by
  simp only [exSs] at o
  refine ⟨S0, H0, S, r, s, x, w, f, ?_⟩
  cases q : exS TB c r s with
  | ok fl s1 =>
    rw [q] at o
    cases fl with
    | next r' => exact fun S1 H1 sg1 x1 fr w1 f1 => ⟨S0, H0, S1, r', s1, x1, w1, f1, OutS.frm o fr⟩
    | ret d => exact o
  | exc e s1 => rw [q] at o; exact o
  | stuck => rw [q] at o; exact o
theorem st_pass : PS X (.Pass pos) (TC G TB E xc .skip) := (ps_pass (pos := pos)).imp fun D sg H ⟨S0, H0, S, r, s, x, w, f, o⟩ => by
  simp only [exS] at o
  exact o S H sg x .refl w f
theorem st_never {st : Stmt} : PS X st (TC G TB E xc .never) := ps_never.imp fun D sg H ⟨S0, H0, S, r, s, x, w, f, o⟩ => by
  simp only [exS] at o
  exact o
theorem st_par {i j : Nat} {x y : Str} {a b : Expr} {px py pt : Pos} {kt k2 pt2} {ca cb : Xp} (hc : X.calm = true) (hN : X.N.Nodup) (hi : X.N[i]? = some x) (hj : X.N[j]? = some y) (hij : i ≠ j)
    (hx : X.env.scope.names.lookup x = some .local) (hy : X.env.scope.names.lookup y = some .local) (qa : OkX G TB (cE E) xc X a ca) (qb : OkX G TB (cE E) xc X b cb)
    (hw : swappedStores [.Tuple [.Name x px, .Name y py] kt pt] (.Tuple [a, b] k2 pt2) X.env = pure (some [x, y])) :
    PS X (.Assign [.Tuple [.Name x px, .Name y py] kt pt] (.Tuple [a, b] k2 pt2) pos) (TC G TB E xc (.par i j ca cb)) :=
  (ps_par (pos := pos) hc hN hi hj hij hx hy (pa_cons qa.ov (pa_cons qb.ov pa_nil (qb.star _ _)) (qa.star _ _)) hw).imp fun D sg H ⟨S0, H0, S, r, s, x, w, f, o⟩ => by
    simp only [exS] at o
    obtain ⟨S1, fr, x1, w1, f1⟩ := frz_st (esc false ca ++ esc false cb) x w f
    refine ⟨H0, S1, _, s, w1, f1, ((o.frm fr).bind x1 w1).imp fun sl S2 H2 s2 x2 w2 ⟨x3, o2⟩ v hv => ?_⟩
    refine ⟨H0, S2, _, s2, w2, f1.ext w1 x2, (o2.bind x3 w2).imp fun sl2 S3 H3 s3 x4 w3 ⟨x5, o3⟩ v2 hv2 => ?_⟩
    refine ⟨v, v2, rfl, ?_⟩
    exact o3 S3 H3 _ x5 .refl w3 ((f1.setS w1 x2 x1.kn hv).setS w2 x4 x3.kn hv2)
def gsOf : List Nat → TGs
  | [] => gNil
  | i :: is => gCons (gName i) (gsOf is)
theorem gsOf_set {S : Wl} {H0 H : Hp} : ∀ {is : List Nat} {ds : List D} {vs : List V} {sg : L2.St} {r : MRho} {Q : L2.St → Hp → Prop}, Fm G H0 S H sg r → Reps S H vs ds → ds.length = is.length → (∀ sg', Fm G H0 S H sg' (setAll r is ds) → Q sg' H) → gsOf is vs sg H Q
  | [], [], _, _, _, _, f, rv, _, q => by
    cases rv
    exact ⟨rfl, q _ f⟩
  | i :: is, d :: ds, _, _, _, _, f, rv, hl, q => by
    cases rv with
    | cons r1 r2 => exact ⟨_, _, rfl, gsOf_set (f.set r1) r2 (by simpa using hl) q⟩
  | [], _ :: _, _, _, _, _, _, _, hl, _ => by cases hl
  | _ :: _, [], _, _, _, _, _, _, hl, _ => by cases hl
theorem st_tset {es : List Expr} {e : Expr} {is : List Nat} {c : Xp} {kk : Nat} {pt : Pos} {n : Nat} (h : PE X e (TXp G TB (cE E) xc false c)) (hg : PG X (.Tuple es kk pt) (gTup X.K n (gsOf is))) (hn : n = is.length) (hs : swapsWithSole [.Tuple es kk pt] e pos.line X.env = pure false) (hw : swappedStores [.Tuple es kk pt] e X.env = pure none) :
    PS X (.Assign [.Tuple es kk pt] e pos) (TC G TB E xc (.tset is c)) := (ps_asg (pos := pos) h hg hs hw).imp fun D sg H ⟨S0, H0, S, r, s, x, w, f, o⟩ => by
  simp only [exS] at o
  obtain ⟨S1, fr, x1, w1, f1⟩ := frz_st (esc false c) x w f
  refine ⟨H0, S1, _, s, w1, f1, ((o.frm fr).bind x1 w1).imp fun d S2 H2 s2 x2 w2 ⟨x3, o2⟩ v hv => ?_⟩
  cases d with
  | tuple ds =>
    simp only at o2
    split at o2
    · rename_i hl
      obtain ⟨a, xs, rfl, ha, ra⟩ := hv.tuple
      refine ⟨a, xs, rfl, .inl (.inl ha), by rw [ra.length, hl, hn], gsOf_set (f1.ext w1 x2) ra hl fun sg' f2 => ?_⟩
      exact o2 S2 H2 _ x3 .refl w2 f2
    · exact o2.elim
  | _ => exact o2.elim
/-- an own list is changed -/
theorem own_upd {S0 S : Wl} {H0 H : Hp} {st : G.T} {sg : L2.St} {r : MRho} {i : Nat} {l l' : List D} {ys : List V} {a : Addr} (x : Ext G S0 H0 S H) (w : Wd G S H st) (f : Fm G H0 S H sg r) (hi : r[i]? = some (.own l)) (ha : sg[i]? = some (some (.ref a))) (ry : Reps S H ys l') :
    Ext G S0 H0 S (upd H a (.lst ys)) ∧ Frm S H S (upd H a (.lst ys)) ∧ Wd G S (upd H a (.lst ys)) st ∧ Fm G H0 S (upd H a (.lst ys)) sg (r.set i (.own l')) := by
  obtain ⟨b, xs, e1, n1, n2, n3, h1, r1⟩ := f.own i l hi
  rw [ha] at e1
  cases e1
  have up : ∀ {vs : List V} {ds : List D}, Reps S H vs ds → Reps S (upd H a (.lst ys)) vs ds := fun q => q.updD n1 h1
  have up1 : ∀ {vs : V} {ds : D}, Rep S H vs ds → Rep S (upd H a (.lst ys)) vs ds := fun q => q.updD n1 h1
  refine ⟨x.updNew n3, ⟨fun _ z => z, fun b o s e => ?_, fun b zs e => ?_, rfl⟩, w.upd n2 n1 h1, ⟨fun j d q => ?_, fun j es q => ?_, fun j m es fs b q1 q2 q3 q4 => ?_, by simpa using f.len⟩⟩
  · rw [upd_ne (show b ≠ a from fun z => n1 (z ▸ s))]; exact e
  · rw [upd_ne (show b ≠ a from fun z => by rw [z, h1] at e; cases e)]; exact e
  · by_cases hj : i = j
    · subst hj
      rw [List.getElem?_set] at q
      split at q
      · split at q <;> cases q
      · rename_i z; exact absurd rfl z
    · rw [List.getElem?_set_ne hj] at q
      obtain ⟨v, a1, a2⟩ := f.val j d q
      exact ⟨v, a1, up1 a2⟩
  · by_cases hj : i = j
    · subst hj
      rw [List.getElem?_set] at q
      split at q
      · split at q
        · cases q
          exact ⟨a, ys, ha, n1, n2, n3, upd_same, up ry⟩
        · cases q
      · rename_i z; exact absurd rfl z
    · rw [List.getElem?_set_ne hj] at q
      obtain ⟨b, zs, k1, k2, k3, k4, k5, k6⟩ := f.own j es q
      have hb : b ≠ a := fun z => hj (f.inj i j l es a hi q ha (z ▸ k1))
      exact ⟨b, zs, k1, k2, k3, k4, by rw [upd_ne hb]; exact k5, up k6⟩
  · have bk : ∀ (m : Nat) (fs : List D), (r.set i (Slt.own l'))[m]? = some (.own fs) → ∃ gs, r[m]? = some (.own gs) := fun m fs q => by
      by_cases hj : i = m
      · subst hj; exact ⟨l, hi⟩
      · rw [List.getElem?_set_ne hj] at q; exact ⟨fs, q⟩
    obtain ⟨g1, q1⟩ := bk j es q1
    obtain ⟨g2, q2⟩ := bk m fs q2
    exact f.inj j m g1 g2 b q1 q2 q3 q4
theorem st_app {x : Str} {i : Nat} {e : Expr} {c : Xp} {p apos cpos : Pos} (hv : PE X (.Name x p) (tVar i)) (q : OkX G TB (cE E) xc X e c) (hline : (apos.endLine == cpos.line) = true) :
    PS X (.Expr (.Call (.Attribute (.Name x p) "append" apos) [e] [] cpos) pos) (TC G TB E xc (.app i c)) := by
  have hf : ((backTo cpos (starEach [e] X.env)).all (fun x => !x.1) && (backToKw cpos (keywordEach [] X.env)).all (fun x => x.1.isSome) && decide ([e].length + ([] : List Keyword).length + (if ([] : List Keyword).isEmpty then 0 else 1) < 30)) = true := by
    rw [q.star]
    rfl
  refine (ps_expr (pos := pos) (pe_bm PySem.F.plainAttrs_list PySem.F.slot_list_append PySem.F.type_list_append mt_append hv (pa_cons (q.pe false) pa_nil (q.star _ _)) rfl hf hline (q.star _ _) rfl) rfl).imp fun D sg H ⟨S0, H0, S, r, s, x, w, f, o⟩ => ?_
  simp only [exS] at o
  obtain ⟨S1, fr, x1, w1, f1⟩ := frz_st (esc false c) x w f
  cases hi : (frz r (esc false c))[i]? with
  | none => rw [hi] at o; exact o.elim
  | some sl =>
    cases sl with
    | un => rw [hi] at o; exact o.elim
    | val d => rw [hi] at o; exact o.elim
    | own l =>
      rw [hi] at o
      obtain ⟨a, xs, e1, n1, n2, n3, h1, r1⟩ := f1.own i l hi
      refine ⟨.ref a, e1, .inl ⟨rfl, xs, .inl (.inl h1)⟩, H0, S1, _, s, w1, f1, ((o.frm fr).bind x1 w1).imp fun d S2 H2 s2 x2 w2 ⟨x3, o2⟩ v hv => ?_⟩
      split at o2
      · rename_i hl
        have f2 := f1.ext w1 x2
        have h2 := x2.keep a _ h1 n2
        have r2 := r1.ext w1 x2
        obtain ⟨t1, t2, t3, t4⟩ := own_upd (l' := l ++ [d]) x3 w2 f2 hi e1 (r2.append (.cons hv.rep .nil))
        refine ⟨a, xs, v, rfl, rfl, h2, ?_, o2 S2 _ sg t1 t2 t3 t4⟩
        rw [r1.length]
        exact Nat.lt_of_lt_of_le hl (lim_size (Nat.le_refl _))
      · exact o2.elim
theorem st_sti {x : Str} {i : Nat} {e ixe : Expr} {c ci : Xp} {p spos : Pos} (hv : PE X (.Name x p) (tVar i)) (q : PE X e (TXp G TB (cE E) xc false c)) (qi : PE X ixe (TXp G TB (cE E) xc false ci)) (hs : swapsWithSole [.Subscript (.Name x p) ixe spos] e pos.line X.env = pure false) (hw : swappedStores [.Subscript (.Name x p) ixe spos] e X.env = pure none)
    (ha : ∀ v, assign (.Subscript (.Name x p) ixe spos) X.env v = (do
      let ov ← holding [v] (eval (.Name x p) X.env)
      let iv ← holding [v, ov] (eval ixe X.env)
      standAt spos
      holding [v, ov, iv] (setItem ov iv v)
      release [v, ov, iv] [])) :
    PS X (.Assign [.Subscript (.Name x p) ixe spos] e pos) (TC G TB E xc (.sti i ci c)) := by
  refine (ps_asg (pos := pos) q (pg_sub hv qi set_list ha) hs hw).imp fun D sg H ⟨S0, H0, S, r, s, x, w, f, o⟩ => ?_
  simp only [exS] at o
  obtain ⟨S1, fr, x1, w1, f1⟩ := frz_st (esc false c ++ esc false ci) x w f
  cases hi : (frz r (esc false c ++ esc false ci))[i]? with
  | none => rw [hi] at o; exact o.elim
  | some sl =>
    cases sl with
    | un => rw [hi] at o; exact o.elim
    | val d => rw [hi] at o; exact o.elim
    | own l =>
      rw [hi] at o
      obtain ⟨a, xs, e1, n1, n2, n3, h1, r1⟩ := f1.own i l hi
      refine ⟨H0, S1, _, s, w1, f1, ((o.frm fr).bind x1 w1).imp fun d S2 H2 s2 x2 w2 ⟨x3, o2⟩ v hv => ?_⟩
      have f2 := f1.ext w1 x2
      refine ⟨.ref a, e1, H0, S2, _, s2, w2, f2, (o2.bind x3 w2).imp fun d3 S3 H3 s3 x4 w3 ⟨x5, o3⟩ v3 hv3 => ?_⟩
      cases d3 with
      | int kx =>
        simp only at o3
        cases hj : ixN l.length kx with
        | none => rw [hj] at o3; exact o3.elim
        | some j =>
          rw [hj] at o3
          cases hv3.int
          have f3 := f2.ext w2 x4
          have h3 := x4.keep a _ (x2.keep a _ h1 n2) (x2.nz h1 n2)
          have r3 := (r1.ext w1 x2).ext w2 x4
          obtain ⟨t1, t2, t3, t4⟩ := own_upd (l' := l.set j d) x5 w3 f3 hi e1 (r3.set j (hv.rep.ext w2 x4))
          exact ⟨a, xs, kx, j, rfl, rfl, h3, by rw [r1.length]; exact hj, o3 S3 _ sg t1 t2 t3 t4⟩
      | _ => exact o3.elim
theorem pip_of {op : Operator} {t : R2} (h : OpR X (inplaceOp op) t) : PIp X op t := fun pins s sg H x y v u Q I rx ry q => h pins s sg H x y v u Q I rx ry q
/-- x += e, x -= e -/
def rAug (o : Bop) : R2 := fun x y H Q => (∃ i j, x = .int i ∧ y = .int j ∧ ((o = .add ∧ Q (.int (i + j)) H) ∨ (o = .sub ∧ Q (.int (i - j)) H))) ∨ (o = .add ∧ ∃ l b xs zs, x = .ref l ∧ y = .ref b ∧ H l = some (.lst xs) ∧ H b = some (.lst zs) ∧ xs.length + zs.length ≤ sizeLine ∧ Q (.ref l) (upd H l (.lst (xs ++ zs))))
theorem aug_add : OpR X (inplaceOp .Add) (rAug .add) := by
  intro pins s sg H x y v u Q I rx ry h
  rcases h with ⟨i, j, e1, e2, ⟨_, q⟩ | ⟨e, _⟩⟩ | ⟨_, l, b, xs, zs, e1, e2, h1, h2, h3, q⟩
  · exact iop_add pins s sg H x y v u Q I rx ry ⟨i, j, e1, e2, q⟩
  · cases e
  · exact iop_ext pins s sg H x y v u Q I rx ry ⟨l, b, xs, zs, e1, e2, h1, h2, h3, q⟩
theorem aug_sub : OpR X (inplaceOp .Sub) (rAug .sub) := by
  intro pins s sg H x y v u Q I rx ry h
  rcases h with ⟨i, j, e1, e2, ⟨e, _⟩ | ⟨_, q⟩⟩ | ⟨e, _⟩
  · cases e
  · exact iop_sub pins s sg H x y v u Q I rx ry ⟨i, j, e1, e2, q⟩
  · cases e
theorem st_aug {st : Stmt} {i : Nat} {c : Xp} {o : Bop} (h : PS X st (tAug i (TXp G TB (cE E) xc true c) (rAug o))) (ho : o = .add ∨ o = .sub) : PS X st (TC G TB E xc (.aug o i c)) := by
  refine h.imp fun D sg H ⟨S0, H0, S, r, s, x, w, f, oo⟩ => ?_
  simp only [exS] at oo
  obtain ⟨S1, fr, x1, w1, f1⟩ := frz_st (esc true c) x w f
  cases hi : (frz r (esc true c))[i]? with
  | none => rw [hi] at oo; exact oo.elim
  | some sl =>
    cases sl with
    | un => rw [hi] at oo; exact oo.elim
    | val d =>
      cases d with
      | int xi =>
        rw [hi] at oo
        obtain ⟨v0, e1, r0⟩ := f1.val i _ hi
        cases r0
        refine ⟨.int xi, e1, H0, S1, _, s, w1, f1, ((oo.frm fr).bind x1 w1).imp fun d S2 H2 s2 x2 w2 ⟨x3, o2⟩ v hv => ?_⟩
        cases d with
        | int yi =>
          cases hv.int
          rcases ho with rfl | rfl
          · exact .inl ⟨xi, yi, rfl, rfl, .inl ⟨rfl, o2 S2 H2 _ x3 .refl w2 ((f1.ext w1 x2).set (.int _))⟩⟩
          · exact .inl ⟨xi, yi, rfl, rfl, .inr ⟨rfl, o2 S2 H2 _ x3 .refl w2 ((f1.ext w1 x2).set (.int _))⟩⟩
        | _ => rcases ho with rfl | rfl <;> exact o2.elim
      | _ => rw [hi] at oo; exact oo.elim
    | own l =>
      rw [hi] at oo
      obtain ⟨a, xs, e1, n1, n2, n3, h1, r1⟩ := f1.own i l hi
      refine ⟨.ref a, e1, H0, S1, _, s, w1, f1, ((oo.frm fr).bind x1 w1).imp fun d S2 H2 s2 x2 w2 ⟨x3, o2⟩ v hv => ?_⟩
      cases d with
      | list m =>
        rcases ho with rfl | rfl
        · simp only at o2
          split at o2
          · rename_i hl
            obtain ⟨b, zs, rfl, hb, rb⟩ := hv.list
            have f2 := f1.ext w1 x2
            have h2 := x2.keep a _ h1 n2
            have r2 := r1.ext w1 x2
            obtain ⟨t1, t2, t3, t4⟩ := own_upd (l' := l ++ m) x3 w2 f2 hi e1 (r2.append rb)
            refine .inr ⟨rfl, a, b, xs, zs, rfl, rfl, h2, hb, ?_, ?_⟩
            · rw [r1.length, rb.length]
              exact lim_size hl
            · show D.nx (List.set sg i (some (V.ref a))) _
              rw [List.set_same e1]
              exact o2 S2 _ sg t1 t2 t3 t4
          · exact o2.elim
        · exact o2.elim
      | _ => rcases ho with rfl | rfl <;> exact o2.elim
/-! ### loops -/
theorem st_loop {tgE iter : Expr} {body : List Stmt} {t : Tg} {sk : Srk} {src : List Xp} {cb : List Cm} (hp : PassesOwn (model X.prog X.w) X.A X.env X.xe) (hc : X.calm = true) (hi : PI X tgE iter (TSrc G TB (cE E) xc false sk src)) (hg : PG X tgE (gOf X.K t)) (hb : PSs X body (TCs G TB E xc cb)) (hs : ∀ x, foldedSetIterable iter X.env x = pure x) :
    PS X (.For tgE iter body [] pos) (TC G TB E xc (.loop t sk src cb)) := (ps_for (pos := pos) hp hc hi hg hb hs).imp fun D sg H ⟨S0, H0, S, r, s, x, w, f, o⟩ => by
  simp only [exS] at o
  obtain ⟨S1, fr, x1, w1, f1⟩ := frz_st (escs false src) x w f
  refine ⟨H0, S1, _, s, w1, f1, ((o.frm fr).bind x1 w1).imp fun ss S2 H2 s2 x2 w2 ⟨x3, o2⟩ => ?_⟩
  cases hd : srcD sk ss with
  | none => rw [hd] at o2; exact o2.elim
  | some ds =>
    rw [hd] at o2
    simp only at o2
    refine ⟨ds, rfl, fun J wk => ?_⟩
    obtain ⟨Gd, wl, hGd⟩ := wk.ex
    refine for_it wl (fun i sg' H' => ∃ S' r' s', Ext G S0 H0 S' H' ∧ Frm S2 H2 S' H' ∧ Wd G S' H' s' ∧ Fm G H0 S' H' sg' r' ∧ OutS G E xc S0 H0 S' H' (forM (fun d r s => match bindT t d r with | some r' => exSs TB cb r' s | none => .stuck) (ds.drop i) r' s') D) ?_ ?_ ?_ ?_
    · exact ⟨S2, _, s2, x3, .refl, w2, f1.ext w1 x2, by rw [List.drop_zero]; exact o2⟩
    · rintro i sg' H' _ ⟨S', r', s', _, fr', _⟩
      refine hGd H' fun a u h1 h2 => ?_
      rcases h2 with h2 | ⟨xs, h2⟩
      · exact fr'.keep a u h2 h1
      · rw [h1] at h2
        cases h2
        exact fr'.tup a xs h1
    · rintro i v sg' H' H3 hlt ⟨S', r', s', xa, fra, wa, fa, oa⟩ ⟨d, hdi, stp, rv⟩
      have hdr : ds.drop i = d :: ds.drop (i + 1) := by
        obtain ⟨h1, h2⟩ := List.getElem?_eq_some_iff.mp hdi
        rw [List.drop_eq_getElem_cons h1, h2]
      rw [hdr] at oa
      simp only [forM] at oa
      have xs : Ext G S' H' S' H3 := stp.ext
      have w3 : Wd G S' H3 s' := stp.wd wa
      have f3 : Fm G H0 S' H3 sg' r' := fa.ext wa xs
      have x03 := xa.trans xs
      have fr3 : Frm S2 H2 S' H3 := fra.trans (xs.frm wa)
      have oa3 := OutS.frm oa (xs.frm wa)
      have rv' : Rep S' H3 v d := Rep.mono fra.sub fra.xs (fun _ _ _ h => h) (fun _ _ h => h) _ _ rv
      cases hbt : bindT t d r' with
      | none => rw [hbt] at oa3; exact oa3.elim
      | some r2 =>
        rw [hbt] at oa3
        simp only at oa3
        refine bind_tg f3 hbt rv' fun sg2 _ _ f4 => ⟨S0, H0, S', r2, s', x03, w3, f4, ?_⟩
        cases q : exSs TB cb r2 s' with
        | ok fl s4 =>
          rw [q] at oa3
          cases fl with
          | next r4 => exact fun S4 H4 sg4 x4 fr4 w4 f4 => ⟨S4, r4, s4, x4, fr3.trans fr4, w4, f4, OutS.frm oa3 fr4⟩
          | ret d => exact oa3
        | exc e s4 => rw [q] at oa3; exact oa3
        | stuck => rw [q] at oa3; exact oa3
    · rintro sg' H' ⟨S', r', s', xa, fra, wa, fa, oa⟩
      rw [List.drop_length] at oa
      simp only [forM] at oa
      exact oa S' H' sg' xa .refl wa fa
theorem st_while {e : Expr} {c : Xp} {body : List Stmt} {cb : List Cm} (hp : PassesOwn (model X.prog X.w) X.A X.env X.xe) (hc : PT X e (TTp G TB (cE E) xc c)) (hb : PSs X body (TCs G TB E xc cb)) : PS X (.While e body [] pos) (TC G TB E xc (.whl c cb)) := (ps_while (pos := pos) hp hc hb).imp fun D sg H ⟨S0, H0, S, r, s, x, w, f, o⟩ => by
  simp only [exS] at o
  refine ⟨fun m sg' H' => ∃ S' r' s', Ext G S0 H0 S' H' ∧ Wd G S' H' s' ∧ Fm G H0 S' H' sg' r' ∧ OutS G E xc S0 H0 S' H' (whileM (testM TB c) (exSs TB cb) m r' s') D, ⟨1000, S, r, s, x, w, f, o⟩, ?_⟩
  rintro m sg' H' ⟨S', r', s', xa, wa, fa, oa⟩
  cases m with
  | zero => exact oa.elim
  | succ m =>
    simp only [whileM] at oa
    refine testM_out xa wa fa oa fun b S1 H1 s1 x1 fr1 w1 f1 o1 => ?_
    cases b with
    | true =>
      simp only [if_true]
      refine ⟨fun sg4 H4 => ∃ S' r' s', Ext G S0 H0 S' H4 ∧ Wd G S' H4 s' ∧ Fm G H0 S' H4 sg4 r' ∧ OutS G E xc S0 H0 S' H4 (whileM (testM TB c) (exSs TB cb) m r' s') D, fun sg4 H4 h => ⟨m, Nat.lt_succ_self m, h⟩, S0, H0, S1, _, s1, x1, w1, f1, ?_⟩
      simp only at o1
      cases q : exSs TB cb (frz r' (esc false c)) s1 with
      | ok fl s4 =>
        rw [q] at o1
        cases fl with
        | next r4 => exact fun S4 H4 sg4 x4 fr4 w4 f4 => ⟨S4, r4, s4, x4, w4, f4, OutS.frm o1 fr4⟩
        | ret d => exact o1
      | exc e s4 => rw [q] at o1; exact o1
      | stuck => rw [q] at o1; exact o1
    | false =>
      simp only [Bool.false_eq_true, if_false]
      simp only at o1
      exact o1 S1 H1 sg' x1 .refl w1 f1
end
end MR

namespace MR
open PySem PySem.Spec PyProof.Rows L2
section
variable {X : Cx} {pins : List (Addr × Obj)} {sg : L2.St} {H : Hp} {s : Shared}
/-- a pinned exception that is new in this frame becomes an object of ours -/
theorem track {a C : Addr} {oe : Obj} {vs : Array Value} (I : Inv X ((a, oe) :: pins) sg H s) (h0 : X.s_0.heap.get? a = none) (hc : ∀ y c, X.env.cells.lookup y = some c → c ≠ a) (hp : ∀ p ∈ X.pn ++ pins, p.1 ≠ a) (hz : Zc (.ref C) none oe) (hd : oe.data = .fields vs) : Inv X pins sg (upd H a (ExV C a)) s := by
  obtain ⟨ha, na, nL, _, _⟩ := I.pin (a, oe) (List.mem_append_right _ List.mem_cons_self)
  have ha : s.heap.get? a = some oe := ha
  have na : H a = none := na
  have ne : ∀ b o, H b = some o → b ≠ a := fun b o e q => by rw [q, na] at e; cases e
  have n0 : ∀ b o, X.s_0.heap.get? b = some o → b ≠ a := fun b o e q => by rw [q, h0] at e; cases e
  refine ⟨I.ok, I.os, I.bare, ⟨I.base.keep, I.base.slot, fun b o e n x => ?_, I.base.there, fun b xs e => ?_, fun b o u e => ?_, fun b ps e => ?_⟩, I.loc, I.cell, ?_, fun y c e => ?_, fun p hm => ?_, ?_, I.len⟩
  · rw [upd_ne (n0 b o e)]; exact I.base.free b o e n x
  · have q := I.base.tups b xs e
    rw [upd_ne (ne _ _ q)]; exact q
  · have q := I.base.frzs b o u e
    rw [upd_ne (ne _ _ q)]; exact q
  · obtain ⟨more, q⟩ := I.base.tbls b ps e
    exact ⟨more, by rw [upd_ne (ne _ _ q)]; exact q⟩
  · rw [upd_ne (Ne.symm nL)]; exact I.free
  · rw [upd_ne (hc y c e)]; exact I.freeC y c e
  · have hm' : p ∈ X.pn ++ ((a, oe) :: pins) := by
      rcases List.mem_append.mp hm with q | q
      · exact List.mem_append_left _ q
      · exact List.mem_append_right _ (List.mem_cons_of_mem _ q)
    obtain ⟨q1, q2, q3⟩ := I.pin p hm'
    exact ⟨q1, by rw [upd_ne (hp p hm)]; exact q2, q3⟩
  · refine HOk.laidN I.hok (fun _ _ q => q) na ⟨⟨oe, vs, ha, hz, hd⟩, ⟨oe, ha⟩, fun g1 g2 q k => ?_⟩
    obtain ⟨o1, v1, e1, e2, e3⟩ := q
    exact ⟨o1, v1, k _ e1, e2, e3⟩
/-- what is wished of an exception that is kept: e is slot i, the name that keeps it slot j -/
def wKeep (K : PySem.W.Frag) (c : Value) (i j : Nat) (D : Ends) : WX := fun cls d sg H => PySem.W.exmOne K cls c = some true ∧ d = none ∧ ∃ C : Addr, cls = .ref C ∧ ∀ a, H a = none → D.nx (((sg.set i (some (.ref a))).set j (some (.ref a))).set i none) (upd H a (ExV C a))
theorem ps_tryKeep {x m y : Str} {c : Value} {i j : Nat} {b : Stmt} {np pos pos' py p2 pa : Pos} {tb : WX → TS} (hs : X.stack = X.env :: X.outer) (hf : X.env.frame = some X.env.locals) (hex : X.ex = []) (hN : X.N.Nodup) (hi : X.N[i]? = some m) (hj : X.N[j]? = some y)
    (him : X.env.kindOf m = some .local) (hjy : X.env.scope.names.lookup y = some .local) (hmd : (m == ("__debug__" : Str)) = false) (hmc : (m == ("__classdict__" : Str)) = false) (hfn : X.fn y = true) (hnm : Names X x c)
    (hb : ∀ (W : WX) (pn : List (Addr × Obj)) (xe : Value → Shared → Prop), Takes (X.tr pn xe) W → PSs (X.tr pn xe) [b] (tb W)) :
    PS X (.Try [b] [.ExceptHandler (some (.Name x np)) (some m) [.Assign [.Name y py] (.Name m p2) pa] pos'] [] [] pos) (fun D sg H => tb (wKeep X.K c i j D) D sg H) := by
  refine ⟨fun pins s sg H D I h => ?_⟩
  have ok := I.ok
  have hfr : X.A.frames = some (X.env :: X.outer) := ok.frames.trans (by rw [hs])
  have hlm : Loc X.env.scope m := .inl him
  let hdl : List ExceptHandler := [.ExceptHandler (some (.Name x np)) (some m) [.Assign [.Name y py] (.Name m p2) pa] pos']
  refine wpAny_Try_except (wpAny_mono ((hb (wKeep X.K c i j D) (X.pn ++ pins) (fun e s1 => wpAny (model X.prog X.w) X.A (noteFrame e X.env) (fun _ s2 => wpAny (model X.prog X.w) X.A (setFlight e none) (fun _ s3 => wpAny (model X.prog X.w) X.A (handleBy e X.env hdl) (SP X pins D) X.xe s3) X.xe s2) X.xe s1) (fun u s1 q => ?_)).run [] s sg H D (I.toTry _) h) (fun f s1 q => ?_) fun _ _ q => q)
  · obtain ⟨a, B, sI, _, sg1, H1, cls, d, rfl, J', nb, up, sky, na, os, ag, hm, rfl, C, rfl, hQ⟩ := q
    have J : Inv X pins sg1 H1 sI := J'.ofTry ok
    rw [show (X.tr (X.pn ++ pins) _).stack = X.env :: X.outer from hs] at sky
    have gB : B.get? a = none := by
      rcases sky with q | q | q
      · exact q.2.1
      · exact q.2.1
      · exact q.2.1
    refine Sky.land Zc.steady hfr hf sky fun h3 fl3 up3 => ?_
    have J3 : Inv X pins sg1 H1 { s1 with heap := h3 } := J.landed nb fl3.1 (up.trans up3) os ag
    obtain ⟨o3, v3, he3, hz3, hd3⟩ := fl3.there
    have nfr : a ∉ frs (X.env :: X.outer) := fun z => by
      obtain ⟨_, o', e', hnf⟩ := fl3.2.2.1.mem z
      rw [he3] at e'
      cases e'
      exact hnf _ hd3
    have gI : sI.heap.get? a = none := by
      cases e : sI.heap.get? a with
      | none => rfl
      | some o =>
        have := nb a o e (by rw [show (X.tr (X.pn ++ pins) _).stack = X.env :: X.outer from hs]; exact nfr)
        rw [gB] at this
        cases this
    have nL : a ≠ X.env.locals := fun z => nfr (List.mem_filterMap.mpr ⟨X.env, List.mem_cons_self, by rw [hf, z]⟩)
    have nF : a ∉ X.fs := fun z => by
      obtain ⟨e, he, q⟩ := List.mem_filterMap.mp z
      exact nfr (List.mem_filterMap.mpr ⟨e, List.mem_cons_of_mem _ he, q⟩)
    have g0 : X.s_0.heap.get? a = none := by
      cases e : X.s_0.heap.get? a with
      | none => rfl
      | some o =>
        obtain ⟨o', q⟩ := J.base.there a o e (by rw [hex]; exact fun z => nomatch z)
        rw [gI] at q
        cases q
    have gc : ∀ y c, X.env.cells.lookup y = some c → c ≠ a := fun y c e z => by
      obtain ⟨v, o, q, _⟩ := J.cell y c e
      rw [z, gI] at q
      cases q
    have gp : ∀ p ∈ X.pn ++ pins, p.1 ≠ a := fun p hp z => by
      have q := (J.pin p hp).1
      rw [z, gI] at q
      cases q
    have S3 := J3.suite he3 hd3 na nL nF
    refine wpAny_handleBy_cons (codeAny_handlers_test ?_) (by intro q; cases q)
    have LT : PySem.W.Looks (model X.prog X.w) h3 (typeOf (.ref a)) (.ref C) := fun A Q E s k q => wpAny_typeOf_ref (k _ _ he3) (by rw [hz3.1]; exact q)
    have LM := PySem.W.exm_one (M := model X.prog X.w) J3.kIn LT hm
    have test : ∀ {Q E : Value → Shared → Prop}, Q c { s1 with heap := h3 } → wpAny (model X.prog X.w) (X.A.mark (some (.ref a))) (eval (.Name x np) X.env) Q E { s1 with heap := h3 } := fun {Q E} q => by
      obtain ⟨hg, hdb, e | ⟨e, hv, hnn⟩⟩ := hnm
      · exact ld_glob (X := X.suite a ((a, o3) :: (X.pn ++ pins))) S3 hg e q hdb
      · exact ld_blt (X := X.suite a ((a, o3) :: (X.pn ++ pins))) S3 hg e hv q hnn hdb
    refine test (LM.here (codeAny_handlers_suite_as (HandSPX.lands_againZ fl3 fun h4 fl4 up4 => ?_)))
    have J4 : Inv X pins sg1 H1 { s1 with heap := h4 } := J.landed nb fl4.1 ((up.trans up3).trans up4) os ag
    obtain ⟨o4, v4, he4, hz4, hd4⟩ := fl4.there
    refine store_ok (X := X.suite a ((a, o4) :: (X.pn ++ pins))) (v := .ref a) (J4.suite he4 hd4 na nL nF) hN hi hlm rfl (fun s5 S5 => ?_) (.inr him)
    have suite : PSs (X.suite a ((a, o4) :: (X.pn ++ pins))) [.Assign [.Name y py] (.Name m p2) pa] _ := pss_one (ps_set (i := j) hN hj (.inl hjy) (pe_var hi (.inl him) hmd hmc) rfl (.inl hfn))
    have hlt : i < sg1.length := by
      rw [J.len]
      exact (List.getElem?_eq_some_iff.mp hi).1
    refine wpAny_mono (suite.run [] s5 _ H1 { nx := fun sg' H' => sg' = (sg1.set i (some (.ref a))).set j (some (.ref a)) ∧ H' = H1, rt := fun _ _ => False, bk := fun _ _ => False, ct := fun _ _ => False } S5 ⟨.ref a, List.getElem?_set_self hlt, rfl, rfl⟩) (fun f s6 q => ?_) (fun _ _ z => False.elim z)
    cases f with
    | next =>
      obtain ⟨sg6, H6, S6, rfl, rfl⟩ := q
      have J6 : Inv X ((a, o4) :: pins) ((sg1.set i (some (.ref a))).set j (some (.ref a))) H6 s6 := ⟨ok, S6.os, S6.bare, S6.base, S6.loc, S6.cell, S6.free, S6.freeC, fun p hp => S6.pin p (by
        rw [List.append_nil]
        rcases List.mem_append.mp hp with q | q
        · exact List.mem_cons_of_mem _ (List.mem_append_left _ q)
        · rcases List.mem_cons.mp q with e | q
          · rw [e]; exact List.mem_cons_self
          · exact List.mem_cons_of_mem _ (List.mem_append_right _ q)), S6.hok, S6.len⟩
      exact gone_ok J6 hN hi him fun s7 J7 => ⟨_, _, track J7 g0 gc gp hz4 hd4, hQ a na⟩
    | brk => obtain ⟨_, _, _, z⟩ := q; exact z.elim
    | cont => obtain ⟨_, _, _, z⟩ := q; exact z.elim
    | ret u => obtain ⟨_, _, _, _, _, z⟩ := q; exact z.elim
  · cases f with
    | next =>
      obtain ⟨g1, H1, J1, q⟩ := q
      exact wpAny_execs_nil ⟨g1, H1, J1.ofTry ok, q⟩
    | brk =>
      obtain ⟨g1, H1, J1, q⟩ := q
      exact ⟨g1, H1, J1.ofTry ok, q⟩
    | cont =>
      obtain ⟨g1, H1, J1, q⟩ := q
      exact ⟨g1, H1, J1.ofTry ok, q⟩
    | ret u =>
      obtain ⟨v1, g1, H1, J1, r, q⟩ := q
      exact ⟨v1, g1, H1, J1.ofTry ok, r, q⟩
end
end MR

namespace MR
open PySem PySem.Spec PyProof.Rows L2
/-! ### slots without own lists -/
def noOwn (r : MRho) : Prop := ∀ (i : Nat) ds, r[i]? ≠ some (.own ds)
theorem frz_noOwn : ∀ (is : List Nat) {r : MRho}, noOwn r → frz r is = r
  | [], _, _ => rfl
  | i :: is, r, h => by
    unfold frz
    split
    · rename_i ds q; exact absurd q (h i ds)
    · exact frz_noOwn is h
theorem frz_length : ∀ (is : List Nat) (r : MRho), (frz r is).length = r.length
  | [], _ => rfl
  | i :: is, r => by
    unfold frz
    split
    · rw [frz_length, List.length_set]
    · exact frz_length is r
theorem frz_stay : ∀ (is : List Nat) (r : MRho) (j : Nat), (∀ ds, r[j]? ≠ some (.own ds)) → (frz r is)[j]? = r[j]?
  | [], _, _, _ => rfl
  | i :: is, r, j, h => by
    unfold frz
    split
    · rename_i ds q
      have hij : i ≠ j := fun e => h ds (e ▸ q)
      rw [frz_stay is _ j (fun es => by rw [List.getElem?_set_ne hij]; exact h es), List.getElem?_set_ne hij]
    · exact frz_stay is r j h
theorem frz_done : ∀ (is : List Nat) (r : MRho) (j : Nat), j ∈ is → ∀ ds, (frz r is)[j]? ≠ some (.own ds)
  | i :: is, r, j, hj, ds => by
    have clean : ∀ (r' : MRho), (∀ es, r'[j]? ≠ some (.own es)) → (frz r' is)[j]? ≠ some (.own ds) := fun r' h => by rw [frz_stay is r' j h]; exact h ds
    unfold frz
    rcases List.mem_cons.mp hj with e | hj
    · subst e
      split
      · rename_i es q
        refine clean _ fun es' z => ?_
        rw [List.getElem?_set] at z
        split at z
        · split at z <;> cases z
        · rename_i n; exact n rfl
      · rename_i n
        exact clean r fun es z => n es z
    · split
      · exact frz_done is _ j hj ds
      · exact frz_done is _ j hj ds
theorem frz_all (r : MRho) : noOwn (frz r (List.range r.length)) := fun i ds z => by
  by_cases h : i < r.length
  · exact frz_done _ r i (List.mem_range.mpr h) ds z
  · have e := frz_length (List.range r.length) r
    rw [List.getElem?_eq_none (by omega)] at z
    cases z
/-! ### the statement of a try's body -/
def OutL (G : SS) (E : XK) (xc : Nat → Value) (S0 : Wl) (H0 : Hp) (S : Wl) (H : Hp) (res : Rs G.T Fl) (D : Ends) : Prop := match res with
  | .ok (.next r) st => ∀ S' H' sg, Ext G S0 H0 S' H' → Frm S H S' H' → Wd G S' H' st → Fm G H0 S' H' sg r → D.nx sg H'
  | .ok (.ret d) st => ∀ S' H' v, Ext G S0 H0 S' H' → Wd G S' H' st → Rep S' H' v d → D.rt v H'
  | .exc x st => ∀ S' H', Ext G S H S' H' → Wd G S' H' st → E (xc x) none H'
  | .stuck => False
section
variable {G : SS} {TB : Tab G.T} {g : Cfg} {xc : Nat → Value} {CX : CXT} {k : Nat} {E : L2.St → XK} {sc : Scope} {X : Cx} {pos : Pos}
section
variable {E0 : XK} {S0 S S' : Wl} {H0 H H' : Hp} {st : G.T} {sg : L2.St} {r : MRho} {D : Ends}
theorem OutL.move {res : Rs G.T Fl} (h : OutL G E0 xc S0 H0 S H res D) (x : Ext G S H S' H') (f : Frm S H S' H') : OutL G E0 xc S0 H0 S' H' res D := by
  cases res with
  | ok fl st =>
    cases fl with
    | next r => exact fun S2 H2 sg x f2 w fm => h S2 H2 sg x (f.trans f2) w fm
    | ret d => exact h
  | exc c st => exact fun S2 H2 y w => h S2 H2 (x.trans y) w
  | stuck => exact h
theorem OutL.bind {A : Type} {r : Rs G.T A} {f : A → G.T → Rs G.T Fl} (h : OutL G E0 xc S0 H0 S H (r.bind f) D) (x : Ext G S0 H0 S H) (w : Wd G S H st) : Out G E0 xc S H r (fun a S1 H1 st1 => Ext G S0 H0 S1 H1 ∧ OutL G E0 xc S0 H0 S1 H1 (f a st1) D) := by
  cases r with
  | ok a s1 => exact fun S1 H1 x1 w1 => ⟨x.trans x1, OutL.move h x1 (x1.frm w)⟩
  | exc c s1 => exact h
  | stuck => exact h
end
def TL (G : SS) (TB : Tab G.T) (E : L2.St → XK) (xc : Nat → Value) (c : Cm) : TS := fun D sg H => ∃ S0 H0 S r st, Ext G S0 H0 S H ∧ Wd G S H st ∧ Fm G H0 S H sg r ∧ noOwn r ∧ OutL G (E sg) xc S0 H0 S H (exS TB c r st) D
theorem lf_set {st : Stmt} {i : Nat} {c : Xp} (hc : freshX c = false) (h : PS X st (tAsg (TXp G TB E xc false c) (gName i))) : PS X st (TL G TB E xc (.set i c)) := h.imp fun D sg H ⟨S0, H0, S, r, s, x, w, f, n, o⟩ => by
  simp only [exS, frz_noOwn _ n, evO, hc, Bool.false_eq_true, if_false, bind_assoc', Rs.bind_ok] at o
  refine ⟨H0, S, r, s, w, f, (o.bind x w).imp fun d S1 H1 s1 x1 w1 ⟨x2, o2⟩ v hv => ?_⟩
  exact o2 S1 H1 _ x2 .refl w1 ((f.ext w x1).set hv.rep)
theorem lf_exp {e : Expr} {c : Xp} (h : PE X e (TXp G TB E xc false c)) (hs : swapsWith e none pos.line X.env = pure false) : PS X (.Expr e pos) (TL G TB E xc (.exp c)) := (ps_expr (pos := pos) h hs).imp fun D sg H ⟨S0, H0, S, r, s, x, w, f, n, o⟩ => by
  simp only [exS, frz_noOwn _ n] at o
  refine ⟨H0, S, r, s, w, f, (o.bind x w).imp fun d S1 H1 s1 x1 w1 ⟨x2, o2⟩ v hv => ?_⟩
  exact o2 S1 H1 sg x2 .refl w1 (f.ext w x1)
theorem lf_if {e : Expr} {c : Xp} {a b : Stmt} {ca cb : Cm} (hc : PT X e (TTp G TB E xc c)) (ha : PS X a (TL G TB E xc ca)) (hb : PS X b (TL G TB E xc cb)) : PS X (.If e [a] [b] pos) (TL G TB E xc (.iff c [ca] [cb])) := (ps_if (pos := pos) hc (pss_one ha) (pss_one hb)).imp fun D sg H ⟨S0, H0, S, r, s, x, w, f, n, o⟩ => by
  simp only [exS, testM, frz_noOwn _ n, bind_assoc'] at o
  refine ⟨H0, S, r, s, w, f, (o.bind x w).imp fun d S1 H1 s1 x1 w1 ⟨x2, o2⟩ => ?_⟩
  have one : ∀ (cm : Cm), OutL G (E sg) xc S0 H0 S1 H1 (exSs TB [cm] r s1) D → OutL G (E sg) xc S0 H0 S1 H1 (exS TB cm r s1) D := fun cm q => by
    simp only [exSs] at q
    cases e : exS TB cm r s1 with
    | ok fl s2 =>
      rw [e] at q
      cases fl with
      | next r2 => exact q
      | ret d => exact q
    | exc y s2 => rw [e] at q; exact q
    | stuck => rw [e] at q; exact q
  cases d with
  | bool bb =>
    refine ⟨bb, rfl, ?_⟩
    cases bb with
    | true =>
      simp only [if_true]
      exact ⟨S0, H0, S1, r, s1, x2, w1, f.ext w x1, n, one ca o2⟩
    | false =>
      simp only [Bool.false_eq_true, if_false]
      exact ⟨S0, H0, S1, r, s1, x2, w1, f.ext w x1, n, one cb o2⟩
  | _ => exact o2.elim
/-! ### try: .. except MedianError as e: y = e -/
theorem st_try {E : XK} {x m y : Str} {cM : Value} {i j : Nat} {b : Stmt} {np pos pos' py p2 pa : Pos} {c : Cm} (hs : X.stack = X.env :: X.outer) (hf : X.env.frame = some X.env.locals) (hex : X.ex = []) (hN : X.N.Nodup) (hi : X.N[i]? = some m) (hj : X.N[j]? = some y) (hij : i ≠ j)
    (him : X.env.kindOf m = some .local) (hjy : X.env.scope.names.lookup y = some .local) (hmd : (m == ("__debug__" : Str)) = false) (hmc : (m == ("__classdict__" : Str)) = false) (hfn : X.fn y = true) (hnm : Names X x cM)
    (hxm : ∀ c, c < 6 → PySem.W.exmOne X.K (xc c) cM = some true) (hxc : ∀ st S H, G.R st S H → ∀ c, xc c = .ref (S.X c))
    (hb : ∀ (W : WX) (pn : List (Addr × Obj)) (xe : Value → Shared → Prop), Takes (X.tr pn xe) W → PS (X.tr pn xe) b (TL G TB (WE W) xc c)) :
    PS X (.Try [b] [.ExceptHandler (some (.Name x np)) (some m) [.Assign [.Name y py] (.Name m p2) pa] pos'] [] [] pos) (TC G TB E xc (.tryx c i j)) := by
  refine (ps_tryKeep (tb := fun W => TL G TB (WE W) xc c) hs hf hex hN hi hj him hjy hmd hmc hfn hnm fun W pn xe tk => (pss_one (hb W pn xe tk))).imp fun D sg H ⟨S0, H0, S, r, s, x, w, f, o⟩ => ?_
  simp only [exS] at o
  obtain ⟨S1, fr, x1, w1, f1⟩ := frz_st (List.range r.length) x w f
  refine ⟨S0, H0, S1, _, s, x1, w1, f1, frz_all r, ?_⟩
  cases q : exS TB c (frz r (List.range r.length)) s with
  | ok fl s1 =>
    rw [q] at o
    cases fl with
    | next r2 => exact OutS.frm (res := .ok (.next r2) s1) o fr
    | ret d => exact o
  | stuck => rw [q] at o; exact o
  | exc cx s1 =>
    rw [q] at o
    simp only at o
    split at o
    · rename_i hc6
      intro S2 H2 x2 w2
      have e2 := hxc _ _ _ w2.r cx
      refine ⟨hxm cx hc6, rfl, S2.X cx, e2, fun a na => ?_⟩
      have xl : Ext G S2 H2 (addS S2 a) (upd H2 a (ExV (S2.X cx) a)) := (Ext.laid na).addS na
      have wl : Wd G (addS S2 a) (upd H2 a (ExV (S2.X cx) a)) s1 := (w2.laid na).addS (w2.fresh na) (by rw [upd_same]; exact fun z => nomatch z)
      have f3 := (f1.ext w1 x2).ext w2 xl
      have f4 : Fm G H0 (addS S2 a) (upd H2 a (ExV (S2.X cx) a)) ((sg.set i (some (.ref a))).set j (some (.ref a))) (((frz r (List.range r.length)).set i .un).set j (.val (excD cx))) := (f3.un (i := i) (x := some (.ref a))).set (i := j) (v := .ref a) (Rep.exc cx (Or.inr rfl) upd_same)
      have f5 := f4.un (i := i) (x := none)
      have er : (((frz r (List.range r.length)).set i Slt.un).set j (.val (excD cx))).set i .un = ((frz r (List.range r.length)).set i Slt.un).set j (.val (excD cx)) := by
        rw [List.set_comm _ _ hij.symm, List.set_set]
      rw [er] at f5
      exact o _ _ _ (x1.trans (x2.trans xl)) (fr.trans ((x2.frm w1).trans (xl.frm w2))) wl f5
    · exact o.elim
end
end MR

namespace MR
open PySem PySem.Spec PyProof.Rows L2
structure StCtx (G : SS) (TB : Tab G.T) (g : Cfg) (xs : List (Str × Nat)) (xc : Nat → Value) (CX : CXT) (k : Nat) (E : XK) (sc : Scope) (X : Cx) : Prop where
  c : Ctx G TB g xc CX k (cE E) sc X
  fn : ∀ x, X.fn x = true
  kind : sc.kind = .function
  po : PassesOwn (model X.prog X.w) X.A X.env X.xe
  tr : xs ≠ [] → X.stack = X.env :: X.outer ∧ X.env.frame = some X.env.locals ∧ X.ex = [] ∧ (∃ cM, (Gl X "MedianError" → Names X "MedianError" cM) ∧ ∀ c, c < 6 → PySem.W.exmOne X.K (xc c) cM = some true) ∧ (∀ st S H, G.R st S H → ∀ c, xc c = .ref (S.X c)) ∧
    ∀ (W : WX) (pn : List (Addr × Obj)) (xe : Value → Shared → Prop), Takes (X.tr pn xe) W → Ctx G TB g xc CX k (WE W) sc (X.tr pn xe)
  rs : ∀ x i, xs.lookup x = some i → Gl X x → (x == ("__debug__" : Str)) = false → ∀ (m : Str) (j : Nat) (p p2 pos1 pos2 : Pos), PS X (.Raise (some (.Call (.Name x p) [.Constant (.str m) j p2] [] pos1)) none pos2) (fun _ _ H => E (xc i) none H)
theorem isLoc_loc {sc : Scope} {x : Str} (h : isLoc (sc.names.lookup x) = true) : Loc sc x := by
  unfold isLoc at h
  split at h
  · rename_i e; exact .inl e
  · rename_i e; exact .inr e
  · cases h
theorem isLoc_vis {sc : Scope} {x : Str} (h : isLoc (sc.names.lookup x) = true) : Vis sc x := (isLoc_loc h).elim .inl fun z => .inr (.inl z)
theorem lk_beq (o : Option NameKind) : (o == some NameKind.local) = decide (o = some NameKind.local) := by
  cases o with
  | none => rfl
  | some k => cases k <;> rfl
theorem sw_plain {e : Expr} (h : isComp e = false) (t : Option Expr) (l : Nat) (env : Env) : swapsWith e t l env = pure false := by
  cases e <;> first | rfl | cases h
theorem sw_sole {e t : Expr} {l : Nat} {env : Env} (h : isComp e = false) : swapsWithSole [t] e l env = pure false := by
  unfold swapsWithSole
  exact sw_plain h _ _ _
theorem blockFn {env : Env} {sc : Scope} (h : env.scope = sc) (hk : sc.kind = .function) : env.blockKind = .function := by
  unfold Env.blockKind
  rw [h, hk]
  rfl
theorem sw_comp {elt : Expr} {gs : List Comprehension} {scope sc : Scope} {pos py : Pos} {y : Str} {l : Nat} {env : Env} (h : env.scope = sc) (hk : sc.kind = .function) :
    swapsWith (.ListComp elt gs scope pos) (some (.Name y py)) l env = pure (swapC sc y py (.ListComp elt gs scope pos)) := by
  have hb := blockFn h hk
  have ky : env.kindOf y = sc.names.lookup y := by
    show env.scope.names.lookup y = _
    rw [h]
  unfold swapsWith swapC
  simp only [hb, ky, lk_beq, Expr.pos]
  rfl
theorem sws_none {es : List Expr} {kk : Nat} {pt : Pos} {e : Expr} {env : Env} (h : ∀ vs a b, e ≠ .Tuple vs a b) : swappedStores [.Tuple es kk pt] e env = pure none := by
  cases e <;> first | rfl | exact absurd rfl (h _ _ _)
theorem sws_sub {o i e : Expr} {p : Pos} {env : Env} : swappedStores [.Subscript o i p] e env = pure none := by
  cases e <;> rfl
theorem swapB_yes {sc : Scope} {x y : Str} {px py pt pp : Pos} {kt kk : Nat} {a b : Expr} {env : Env} (h : env.scope = sc) (hk : sc.kind = .function) (hb : swapB sc x y px py a b = true) (na : ∀ z p, a ≠ .Starred z p) (nb : ∀ z p, b ≠ .Starred z p) :
    swappedStores [.Tuple [.Name x px, .Name y py] kt pt] (.Tuple [a, b] kk pp) env = pure (some [x, y]) := by
  unfold swapB at hb
  simp only [Bool.and_eq_true, decide_eq_true_eq, Bool.not_eq_true'] at hb
  obtain ⟨⟨⟨⟨⟨h1, h2⟩, h3⟩, h4⟩, h5⟩, h6⟩ := hb
  have hbk := blockFn h hk
  have kx : env.kindOf x = some .local := by show env.scope.names.lookup x = _; rw [h, h1]
  have ky : env.kindOf y = some .local := by show env.scope.names.lookup y = _; rw [h, h2]
  have h3' : (py.line == px.line) = true := by simpa using (by simpa using h3 : px.line = py.line).symm
  have st : ([a, b].any fun | .Starred .. => true | _ => false) = false := by
    cases a <;> cases b <;> first | rfl | exact absurd rfl (na _ _) | exact absurd rfl (nb _ _)
  have h4' : (y == x) = false := by
    have : x ≠ y := by simpa using h4
    simpa using fun z => this z.symm
  unfold swappedStores
  simp only [hbk, st, kx, ky, h3', h5, h6, List.filterMap_cons, List.filterMap_nil, List.head?_cons, Option.map_some, Option.getD_some, Expr.pos, beq_self_eq_true, Bool.and_true, Bool.and_self, if_true]
  simp [List.eraseDups, List.eraseDupsBy, List.eraseDupsBy.loop, h4', h3', kx, ky]
theorem swapB_no {sc : Scope} {x y : Str} {px py pt pp : Pos} {kt kk : Nat} {a b : Expr} {env : Env} (h : env.scope = sc) (hk : sc.kind = .function) (hb : sc.names.lookup x = some .cell ∨ sc.names.lookup y = some .cell) (na : ∀ z p, a ≠ .Starred z p) (nb : ∀ z p, b ≠ .Starred z p) :
    swappedStores [.Tuple [.Name x px, .Name y py] kt pt] (.Tuple [a, b] kk pp) env = pure none := by
  have hbk := blockFn h hk
  have st : ([a, b].any fun | .Starred .. => true | _ => false) = false := by
    cases a <;> cases b <;> first | rfl | exact absurd rfl (na _ _) | exact absurd rfl (nb _ _)
  unfold swappedStores
  simp only [hbk, st]
  rcases hb with hb | hb
  · have kx : env.kindOf x = some .cell := by show env.scope.names.lookup x = _; rw [h, hb]
    simp [kx]
    intro q
    exfalso
    have ql := Nat.le_trans (Nat.le_of_eq q.symm) (List.length_filterMap_le _ _)
    exact absurd ql (by simp)
  · have ky : env.kindOf y = some .cell := by show env.scope.names.lookup y = _; rw [h, hb]
    simp [ky]
    intro q
    exfalso
    rw [List.filterMap_cons] at q
    simp only [List.filterMap_cons, List.filterMap_nil, ky] at q
    revert q
    split <;> simp
section
variable {G : SS} {TB : Tab G.T} {g : Cfg} {xc : Nat → Value} {CX : CXT} {k : Nat} {E : XK} {sc : Scope} {X : Cx} {pos : Pos} {xs : List (Str × Nat)}
theorem Ctx.pv {E : L2.St → XK} (C : Ctx G TB g xc CX k E sc X) {x : Str} {i : Nat} {p : Pos} (hn : okName x = true) (hv : isVis (sc.names.lookup x) = true) (hi : ixOf x g.N = some i) : PE X (.Name x p) (tVar i) := by
  obtain ⟨h1, h2, _⟩ := okName_debug hn
  exact pe_var (by rw [C.N]; exact ixOf_get hi) (by rw [C.scope]; exact isVis_vis hv) h1 h2
theorem StCtx.pg (C : StCtx G TB g xs xc CX k E sc X) {x : Str} {i : Nat} {p : Pos} (hl : isLoc (sc.names.lookup x) = true) (hi : ixOf x g.N = some i) : PG X (.Name x p) (gName i) :=
  pg_name C.c.nd (by rw [C.c.N]; exact ixOf_get hi) (by rw [C.c.scope]; exact isLoc_loc hl) (.inl (C.fn x))
theorem cpNames_ok (C : StCtx G TB g xs xc CX k E sc X) : ∀ {es : List Expr} {is : List Nat}, cpNames g.N sc es = some is → PGs X es (gsOf is) ∧ (assignEach es X.env).length = is.length ∧ (assignEach es X.env).findIdx? (·.1) = none
  | [], is, h => by
    cases h
    exact ⟨pgs_nil, rfl, rfl⟩
  | .Name x p :: r, is, h => by
    simp only [cpNames] at h
    split at h
    · rename_i hn
      rw [Bool.and_eq_true] at hn
      obtain ⟨i, hi, h⟩ := bind_inv h
      obtain ⟨js, hj, h⟩ := bind_inv h
      cases h
      obtain ⟨h1, h2, h3⟩ := cpNames_ok C hj
      refine ⟨pgs_cons (C.pg hn.2 hi) h1, ?_, ?_⟩
      · show (assignEach r X.env).length + 1 = js.length + 1
        rw [h2]
      · show List.findIdx? (·.1) ((false, assign (.Name x p) X.env) :: assignEach r X.env) = none
        rw [List.findIdx?_cons, h3]
        rfl
    · cases h
theorem cpE_noStar {E : L2.St → XK} (C : Ctx G TB g xc CX k E sc X) {n : Nat} {e : Expr} {c : Xp} (h : cpE g n sc e = some c) : ∀ z p, e ≠ .Starred z p := by
  intro z p e1
  subst e1
  cases n <;> cases h
/-- name = comprehension, where the store comes first -/
theorem set_comp (C : StCtx G TB g xs xc CX k E sc X) {n : Nat} {elt : Expr} {gs : List Comprehension} {scope : Scope} {p py : Pos} {y : Str} {i : Nat} {c : Xp} (h : cpE g n sc (.ListComp elt gs scope p) = some c) (hs : swapC sc y py (.ListComp elt gs scope p) = true) (hi : ixOf y g.N = some i) :
    PS X (.Assign [.Name y py] (.ListComp elt gs scope p) pos) (tAsg (TOv G TB E xc c) (gName i)) := by
  have hsw : swapsWith (.ListComp elt gs scope p) (some (.Name y py)) pos.line X.env = pure true := by rw [sw_comp C.c.scope C.kind, hs]
  have hyl : X.env.scope.names.lookup y = some .local := by
    rw [C.c.scope]
    unfold swapC at hs
    simp only [Bool.and_eq_true, decide_eq_true_eq] at hs
    exact hs.1.1
  have hy : X.N[i]? = some y := by rw [C.c.N]; exact ixOf_get hi
  cases n with
  | zero => cases h
  | succ n =>
    have ihL : ∀ {es : List Expr} {xs : List Xp}, cpL (cpE g n sc) es = some xs → OkL X (OkX G TB (cE E) xc X) es xs := fun {es xs} h => cpL_ok (fun e x q => ⟨cpE_ok n sc e x (cE E) X C.c q, (cpE_ok n sc e x (cE E) X C.c q).star⟩) h
    unfold cpE at h
    split at h <;> first | (rename_i z; cases z; done) | skip
    all_goals first | (rename_i z; cases z) | skip
    · obtain ⟨⟨t, own⟩, htg, h⟩ := bind_inv h
      simp only at h
      split at h
      · rename_i hblk
        obtain ⟨⟨sk, es⟩, hso, h⟩ := bind_inv h
        obtain ⟨src, hsrc, h⟩ := bind_inv h
        obtain ⟨x, hx, h⟩ := bind_inv h
        cases h
        obtain ⟨ho, hg⟩ := cpTg_ok C.c htg
        obtain ⟨hi, hfo⟩ := srcOf_ok (b := true) C.c (fun _ _ q => q) hso (ihL hsrc)
        refine (ps_setLc C.c.calm C.c.nd hy hyl hsw hi (by rw [C.c.N, C.c.scope]; exact blkOk_by hblk) hg (fun _ _ _ _ _ => pts_nil) (fun s H Ca cl fp => (cpE_ok n _ _ x Eff _ (C.c.blk s H _ cl Ca fp) hx).pe false) hfo).imp fun D sg H q => ?_
        rcases tov_of q with ⟨_, H0, S, rr, st, w, f, o⟩ | ⟨z, _⟩
        · simp only [evF] at o
          show tLc _ _ _ _ _ _ _ _
          rw [ho]
          exact comp_core (turnE_ok G TB xc rr t x) w f o
        · cases z
      · cases h
    · obtain ⟨⟨t, own⟩, htg, h⟩ := bind_inv h
      simp only at h
      split at h
      · rename_i hblk
        rw [Bool.and_eq_true] at hblk
        obtain ⟨⟨sk, es⟩, hso, h⟩ := bind_inv h
        obtain ⟨src, hsrc, h⟩ := bind_inv h
        obtain ⟨x, hx, h⟩ := bind_inv h
        obtain ⟨y2, hy2, h⟩ := bind_inv h
        cases h
        obtain ⟨ho, hg⟩ := cpTg_ok C.c htg
        obtain ⟨hi, hfo⟩ := srcOf_ok (b := true) C.c (fun _ _ q => q) hso (ihL hsrc)
        refine (ps_setLc C.c.calm C.c.nd hy hyl hsw hi (by rw [C.c.N, C.c.scope]; exact blkOk_by hblk.1) hg (fun s H Ca cl fp => pts_one ((cpE_ok n _ _ y2 Eff _ (C.c.blk s H _ cl Ca fp) hy2).pt hblk.2)) (fun s H Ca cl fp => (cpE_ok n _ _ x Eff _ (C.c.blk s H _ cl Ca fp) hx).pe false) hfo).imp fun D sg H q => ?_
        rcases tov_of q with ⟨_, H0, S, rr, st, w, f, o⟩ | ⟨z, _⟩
        · simp only [evF] at o
          show tLc _ _ _ _ _ _ _ _
          rw [ho]
          exact comp_core (turnC_ok G TB xc rr t x y2) w f o
        · cases z
      · cases h
    · cases h
theorem asg_sub {o ix : Expr} {p : Pos} (h : ∀ a b c d, ix ≠ .Slice a b c d) (env : Env) (v : Value) : assign (.Subscript o ix p) env v = (do
      let ov ← holding [v] (eval o env)
      let iv ← holding [v, ov] (eval ix env)
      standAt p
      holding [v, ov, iv] (setItem ov iv v)
      release [v, ov, iv] []) := by
  cases ix <;> first | rfl | exact absurd rfl (h _ _ _ _)
theorem cpE_noSlice {n : Nat} {e : Expr} {c : Xp} (h : cpE g n sc e = some c) : ∀ a b d f, e ≠ .Slice a b d f := by
  intro a b d f e1
  subst e1
  cases n <;> cases h
theorem cpFTg_ok (C : StCtx G TB g xs xc CX k E sc X) {tg : Expr} {t : Tg} (h : cpFTg g.N sc tg = some t) : PG X tg (gOf X.K t) := by
  unfold cpFTg at h
  split at h
  · split at h
    · rename_i hn
      rw [Bool.and_eq_true] at hn
      obtain ⟨i, hi, h⟩ := bind_inv h
      cases h
      exact C.pg hn.2 hi
    · cases h
  · split at h
    · rename_i hn
      simp only [Bool.and_eq_true] at hn
      obtain ⟨i, hi, h⟩ := bind_inv h
      obtain ⟨j, hj, h⟩ := bind_inv h
      cases h
      exact pg_tup C.c.calm (pgs_cons (C.pg hn.1.1.2 hi) (pgs_cons (C.pg hn.2 hj) pgs_nil))
    · cases h
  · cases h
/-- the statement of a try's body -/
theorem cpLf_ok {E : L2.St → XK} (C : Ctx G TB g xc CX k E sc X) (hfn : ∀ x, X.fn x = true) : ∀ (n : Nat) (st : Stmt) (c : Cm), cpLf g n sc st = some c → PS X st (TL G TB E xc c)
  | 0, _, _, h => by
    unfold cpLf at h
    cases h
  | n + 1, st, c, h => by
    have ih : ∀ e c, cpE g 60 sc e = some c → OkX G TB E xc X e c := fun e c q => cpE_ok 60 sc e c E X C q
    unfold cpLf at h
    split at h
    · rename_i y py e p
      split at h
      · rename_i hn
        simp only [Bool.and_eq_true, Bool.not_eq_true'] at hn
        obtain ⟨i, hi, h⟩ := bind_inv h
        obtain ⟨x, hx, h⟩ := bind_inv h
        split at h
        · cases h
        · rename_i hf
          cases h
          exact lf_set (Bool.eq_false_iff.mpr hf) (ps_set C.nd (by rw [C.N]; exact ixOf_get hi) (by rw [C.scope]; exact isLoc_loc hn.1.2) ((ih _ _ hx).pe false) (sw_plain hn.2 _ _ _) (.inl (hfn y)))
      · cases h
    · obtain ⟨x, hx, h⟩ := bind_inv h
      cases h
      exact lf_exp ((ih _ _ hx).pe false) rfl
    · split at h
      · rename_i ht
        obtain ⟨x, hx, h⟩ := bind_inv h
        obtain ⟨y, hy, h⟩ := bind_inv h
        obtain ⟨z, hz, h⟩ := bind_inv h
        cases h
        exact lf_if ((ih _ _ hx).pt ht) (cpLf_ok C hfn n _ _ hy) (cpLf_ok C hfn n _ _ hz)
      · cases h
    · cases h
mutual
theorem cpS_ok (C : StCtx G TB g xs xc CX k E sc X) : ∀ (n : Nat) (st : Stmt) (c : Cm), cpS g xs n sc st = some c → PS X st (TC G TB E xc c)
  | 0, _, _, h => by
    unfold cpS at h
    cases h
  | n + 1, st, c, h => by
    have ih : ∀ e c, cpE g 60 sc e = some c → OkX G TB (cE E) xc X e c := fun e c q => cpE_ok 60 sc e c (cE E) X C.c q
    have ihL : ∀ {es : List Expr} {xs : List Xp}, cpL (cpE g 60 sc) es = some xs → OkL X (OkX G TB (cE E) xc X) es xs := fun {es xs} h => cpL_ok (fun e x q => ⟨ih e x q, (ih e x q).star⟩) h
    unfold cpS at h
    split at h
    · cases h
      exact st_pass
    · obtain ⟨x, hx, h⟩ := bind_inv h
      cases h
      exact st_ret ((ih _ _ hx).pe false)
    · -- x = e
      rename_i y py e p
      split at h
      · rename_i hn
        rw [Bool.and_eq_true] at hn
        obtain ⟨i, hi, h⟩ := bind_inv h
        obtain ⟨x, hx, h⟩ := bind_inv h
        cases h
        have hN : X.N[i]? = some y := by rw [C.c.N]; exact ixOf_get hi
        have hl : Loc X.env.scope y := by rw [C.c.scope]; exact isLoc_loc hn.2
        have plain : swapsWith e (some (.Name y py)) p.line X.env = pure false → PS X (.Assign [.Name y py] e p) (TC G TB E xc (.set i x)) := fun hs => st_set (ps_set C.c.nd hN hl (ih _ _ hx).ov hs (.inl (C.fn y)))
        cases hc : isComp e with
        | false => exact plain (sw_plain hc _ _ _)
        | true =>
          cases e with
          | ListComp elt gs scope p2 =>
            cases hs : swapC sc y py (.ListComp elt gs scope p2) with
            | true => exact st_set (set_comp C hx hs hi)
            | false => exact plain (by rw [sw_comp C.c.scope C.kind, hs])
          | SetComp _ _ _ _ => cases hx
          | DictComp _ _ _ _ _ => cases hx
          | _ => cases hc
      · cases h
    · -- x, y = (a, b)
      split at h
      · rename_i hn
        simp only [Bool.and_eq_true] at hn
        obtain ⟨i, hi, h⟩ := bind_inv h
        obtain ⟨j, hj, h⟩ := bind_inv h
        split at h
        · cases h
        · rename_i hij
          split at h
          · rename_i hsw
            obtain ⟨u, hu, h⟩ := bind_inv h
            obtain ⟨v, hv, h⟩ := bind_inv h
            cases h
            have hsw' := hsw
            unfold swapB at hsw'
            simp only [Bool.and_eq_true, decide_eq_true_eq, Bool.not_eq_true'] at hsw'
            obtain ⟨⟨⟨⟨⟨h1, h2⟩, h3⟩, h4⟩, h5⟩, h6⟩ := hsw'
            exact st_par C.c.calm C.c.nd (by rw [C.c.N]; exact ixOf_get hi) (by rw [C.c.N]; exact ixOf_get hj) hij (by rw [C.c.scope]; exact h1) (by rw [C.c.scope]; exact h2) (ih _ _ hu) (ih _ _ hv) (swapB_yes C.c.scope C.kind hsw (cpE_noStar C.c hu) (cpE_noStar C.c hv))
          · split at h
            · rename_i hcell
              obtain ⟨x, hx, h⟩ := bind_inv h
              cases h
              have hx0 := hx
              unfold cpE at hx0
              obtain ⟨ys, hys, _⟩ := bind_inv hx0
              unfold cpL at hys
              obtain ⟨y1, hy1, hys⟩ := bind_inv hys
              obtain ⟨y2, hy2, hys⟩ := bind_inv hys
              unfold cpL at hy2
              obtain ⟨y3, hy3, hys⟩ := bind_inv hy2
              refine st_tset (n := 2) ((ih _ _ hx).pe false) (pg_tup C.c.calm (pgs_cons (C.pg hn.1.1.2 hi) (pgs_cons (C.pg hn.2 hj) pgs_nil))) rfl rfl (swapB_no C.c.scope C.kind (by simpa using hcell) (cpE_noStar C.c hy1) (cpE_noStar C.c hy3))
            · cases h
      · cases h
    · cases h
    · -- several names
      rename_i hnt
      split at h
      · cases h
      · rename_i hc
        obtain ⟨is, his, h⟩ := bind_inv h
        obtain ⟨x, hx, h⟩ := bind_inv h
        cases h
        obtain ⟨h1, h2, h3⟩ := cpNames_ok C his
        exact st_tset ((ih _ _ hx).pe false) (pg_tup C.c.calm h1 h2 h3) rfl (sw_sole (Bool.eq_false_iff.mpr hc)) (sws_none fun vs a b z => by subst z; exact hnt _ _ _ rfl)
    · -- x[i] = e
      split at h
      · rename_i hn
        simp only [Bool.and_eq_true, Bool.not_eq_true'] at hn
        obtain ⟨i, hi, h⟩ := bind_inv h
        obtain ⟨j, hj, h⟩ := bind_inv h
        obtain ⟨x, hx, h⟩ := bind_inv h
        cases h
        exact st_sti (C.c.pv hn.1.1 hn.1.2 hi) ((ih _ _ hx).pe false) ((ih _ _ hj).pe false) (sw_sole hn.2) sws_sub (asg_sub (cpE_noSlice hj) X.env)
      · cases h
    · split at h
      · rename_i hn
        rw [Bool.and_eq_true] at hn
        obtain ⟨i, hi, h⟩ := bind_inv h
        obtain ⟨x, hx, h⟩ := bind_inv h
        cases h
        exact st_aug (ps_aug C.c.nd (by rw [C.c.N]; exact ixOf_get hi) (by rw [C.c.scope]; exact isLoc_loc hn.2) ((ih _ _ hx).pe true) (pip_of aug_add) (.inl (C.fn _))) (.inl rfl)
      · cases h
    · split at h
      · rename_i hn
        rw [Bool.and_eq_true] at hn
        obtain ⟨i, hi, h⟩ := bind_inv h
        obtain ⟨x, hx, h⟩ := bind_inv h
        cases h
        exact st_aug (ps_aug C.c.nd (by rw [C.c.N]; exact ixOf_get hi) (by rw [C.c.scope]; exact isLoc_loc hn.2) ((ih _ _ hx).pe true) (pip_of aug_sub) (.inl (C.fn _))) (.inr rfl)
      · cases h
    · -- x.append(e)
      split at h
      · rename_i hn
        simp only [Bool.and_eq_true, decide_eq_true_eq] at hn
        obtain ⟨⟨⟨hm, hn1⟩, hn2⟩, hn3⟩ := hn
        subst hm
        obtain ⟨i, hi, h⟩ := bind_inv h
        obtain ⟨x, hx, h⟩ := bind_inv h
        cases h
        exact st_app (C.c.pv hn1 hn2 hi) (ih _ _ hx) hn3
      · cases h
    · obtain ⟨x, hx, h⟩ := bind_inv h
      cases h
      exact st_exp ((ih _ _ hx).pe false) rfl
    · split at h
      · rename_i ht
        obtain ⟨x, hx, h⟩ := bind_inv h
        obtain ⟨y, hy, h⟩ := bind_inv h
        obtain ⟨z, hz, h⟩ := bind_inv h
        cases h
        exact st_if ((ih _ _ hx).pt ht) (cpSs_ok C n _ _ hy) (cpSs_ok C n _ _ hz)
      · cases h
    · obtain ⟨t, htg, h⟩ := bind_inv h
      obtain ⟨⟨sk, es⟩, hso, h⟩ := bind_inv h
      obtain ⟨src, hsrc, h⟩ := bind_inv h
      obtain ⟨b, hb, h⟩ := bind_inv h
      cases h
      obtain ⟨hi, hfo⟩ := srcOf_ok (b := false) C.c (fun _ _ q => q) hso (ihL hsrc)
      exact st_loop C.po C.c.calm hi (cpFTg_ok C htg) (cpSs_ok C n _ _ hb) hfo
    · split at h
      · rename_i ht
        obtain ⟨x, hx, h⟩ := bind_inv h
        obtain ⟨y, hy, h⟩ := bind_inv h
        cases h
        exact st_while C.po ((ih _ _ hx).pt ht) (cpSs_ok C n _ _ hy)
      · cases h
    · split at h
      · rename_i hn
        rw [Bool.and_eq_true] at hn
        split at h
        · rename_i i hi
          cases h
          refine (C.rs _ i hi (C.c.gl hn.2) (okName_debug hn.1).1 _ _ _ _ _ _).imp fun D sg H ⟨S0, H0, S, r, s, x, w, f, o⟩ => ?_
          simp only [exS] at o
          exact o S H x w
        · cases h
          exact st_never
      · cases h
        exact st_never
    · -- try
      rename_i b x np m y py m2 p2 pa pos' pos
      split at h
      · rename_i hn
        simp only [Bool.and_eq_true, decide_eq_true_eq, Bool.not_eq_true'] at hn
        obtain ⟨⟨⟨⟨⟨⟨⟨⟨h1, h2⟩, rfl⟩, rfl⟩, h5⟩, h6⟩, h7⟩, h8⟩, h9⟩ := hn
        obtain ⟨e, he, h⟩ := bind_inv h
        obtain ⟨i, hi, h⟩ := bind_inv h
        split at h
        · cases h
        · rename_i hne
          obtain ⟨c1, hc1, h⟩ := bind_inv h
          cases h
          obtain ⟨t1, t2, t3, ⟨cM, tn, tm⟩, tx, tc⟩ := C.tr (fun z => by rw [z] at h9; cases h9)
          obtain ⟨d1, d2, d3⟩ := okName_debug h5
          exact st_try t1 t2 t3 C.c.nd (by rw [C.c.N]; exact ixOf_get he) (by rw [C.c.N]; exact ixOf_get hi) hne (by show X.env.scope.names.lookup _ = _; rw [C.c.scope]; exact h6) (by rw [C.c.scope]; exact h8) d1 d2 (C.fn _) (tn (C.c.gl h2)) tm tx fun W pn xe tk => cpLf_ok (tc W pn xe tk) C.fn n _ _ hc1
      · cases h
    · cases h
theorem cpSs_ok (C : StCtx G TB g xs xc CX k E sc X) : ∀ (n : Nat) (sts : List Stmt) (cs : List Cm), cpSs g xs n sc sts = some cs → PSs X sts (TCs G TB E xc cs)
  | 0, _, _, h => by
    unfold cpSs at h
    cases h
  | n + 1, [], cs, h => by
    unfold cpSs at h
    cases h
    exact sts_nil
  | n + 1, st :: r, cs, h => by
    unfold cpSs at h
    split at h
    · rename_i c hc
      obtain ⟨cr, hr, h⟩ := bind_inv h
      cases h
      exact sts_cons (cpS_ok C n st c hc) (cpSs_ok C n r cr hr)
    · cases h
      refine ⟨fun pins s sg H D I q => ?_⟩
      obtain ⟨S0, H0, S, rr, st1, x, w, f, o⟩ := q
      simp only [exSs, exS, Rs.bind_stuck] at o
      exact o.elim
end
end
end MR

namespace MR
open PySem PySem.Spec PyProof.Rows L2
/-- what the module holds -/
structure Glob (G : SS) (TB : Tab G.T) (g : Cfg) (xc : Nat → Value) (CX : CXT) (k : Nat) (P : Program) (w : World) (K : PySem.W.Frag) (mg : Str → Option Value) (base : Heap) : Prop where
  blt : ∀ x ∈ bltNames, mg x = none
  cst : ∀ x d, g.cst.lookup x = some d → ∃ u v, mg x = some u ∧ RelV v u ∧ ∀ S H, Rep S H v d
  fns : ∀ x i, g.fns.lookup x = some i → FnAt P w K mg base CX k x (spOf G xc (TB.ar i) (TB.F i))
  ffs : ∀ x i, g.ffs.lookup x = some i → FnAt P w K mg base CX k x (spFF G xc (TB.ar i) (TB.FF i))
  xcl : ∀ x i, g.xcl.lookup x = some i → XclAt G K mg x i
theorem fm_start {G : SS} {S : Wl} {H : Hp} {N : List Str} {vs : List V} {ds : List D} (r : Reps S H vs ds) (hl : vs.length ≤ N.length) : Fm G H S H (start N vs) (ds.map Slt.val ++ List.replicate (N.length - ds.length) .un) := by
  have hlen := r.length
  refine ⟨fun i d h => ?_, fun i l h => ?_, fun i j l m a h => ?_, ?_⟩
  · rw [List.getElem?_append] at h
    split at h
    · rename_i hi
      rw [List.getElem?_map] at h
      cases q : ds[i]? with
      | none => rw [q] at h; cases h
      | some e =>
        rw [q] at h
        cases h
        obtain ⟨v, hv, rv⟩ := r.get q
        refine ⟨v, ?_, rv⟩
        unfold L2.start
        rw [List.getElem?_append_left (by rw [List.length_map] at hi ⊢; omega), List.getElem?_map, hv]
        rfl
    · rw [List.getElem?_replicate] at h
      split at h <;> cases h
  · rw [List.getElem?_append] at h
    split at h
    · rw [List.getElem?_map] at h
      cases q : ds[i]? with
      | none => rw [q] at h; cases h
      | some e => rw [q] at h; cases h
    · rw [List.getElem?_replicate] at h
      split at h <;> cases h
  · rw [List.getElem?_append] at h
    split at h
    · rw [List.getElem?_map] at h
      cases q : ds[i]? with
      | none => rw [q] at h; cases h
      | some e => rw [q] at h; cases h
    · rw [List.getElem?_replicate] at h
      split at h <;> cases h
  · unfold L2.start
    rw [List.length_append, List.length_append, List.length_map, List.length_map, List.length_replicate, List.length_replicate, hlen]
section
variable {G : SS} {TB : Tab G.T} {g : Cfg} {xc : Nat → Value} {k : Nat} {P : Program} {w : World} {K : PySem.W.Frag} {mg : Str → Option Value} {base : Heap}
theorem pass00 {X : Cx} {sg : L2.St} {E : XK} : PassesAt CX0 X sg E := fun _ _ _ _ _ _ h => h.elim
/-- the context of a def's body that lets nothing out -/
theorem ctx0 (gl : Glob G TB g xc CX0 k P w K mg base) (nd : g.N.Nodup) {sc : Scope} (hk : sc.kind = .function) {qual : Str} {f : Addr} {cdv : Value} {A : Around} {outer : List Env} {s : Shared} {H : Hp} {E : XK} (hr : Room k (A.deeper (envOfC qual sc s.heap.objs.size f cdv))) :
    StCtx G TB g [] xc CX0 k E sc (cxOf CX0 P w K mg base g.N qual sc f cdv A outer s H E).nox where
  c := { scope := rfl, N := rfl, nd := nd, calm := rfl, room := hr, blt := gl.blt, cst := gl.cst, fns := gl.fns, ffs := gl.ffs, xcl := gl.xcl, pas := fun _ => pass00, cx0 := fun _ _ _ _ => pass00 }
  fn := fun _ => rfl
  kind := hk
  po := PassesOwn.never
  tr := fun h => absurd rfl h
  rs := fun x i h => nomatch h
/-- a def keeps the promise that the small language reads off its text -/
theorem fn_ok0 {x qual : Str} {st : Stmt} {f : Addr} {fd : FuncData} {ps : List Str} {body : List Cm} (F : Fun K x qual st f fd) (Sc : FnScope g.N ps (defScope st)) (gl : Glob G TB g xc CX0 k P w K mg base) (hc : cpSs g [] 60 (defScope st) (defBody st) = some body) (hps : ps.length ≤ g.N.length) :
    FnOk P w K mg base CX0 (k + 1) f fd ps (spOf G xc ps.length (runD TB g.N.length body)) := by
  refine F.ok Sc (fun vs H Q E h => h.1) (fun cdv A outer s H vs Q E hr h => ?_)
  obtain ⟨hl, S, ds, st0, wd, rp, o⟩ := h
  refine ⟨_, cpSs_ok (ctx0 gl Sc.nd Sc.kind hr) 60 _ _ hc, ?_⟩
  refine ⟨S, H, S, _, st0, .refl, wd, fm_start rp (by omega), ?_⟩
  unfold runD at o
  cases q : exSs TB body (ds.map Slt.val ++ List.replicate (g.N.length - ds.length) .un) st0 with
  | ok fl s1 =>
    rw [q] at o
    cases fl with
    | next r => exact fun S' H' sg' x1 _ w1 _ => o S' H' x1 w1 _ .non
    | ret d => exact fun S' H' v x1 w1 rv => o S' H' x1 w1 v rv
  | exc c s1 => rw [q] at o; exact o
  | stuck => rw [q] at o; exact o
/-- the same by a function of plain data -/
theorem spOf_imp {n : Nat} {a b : List D → G.T → Rs G.T D} (h : ∀ ds s, ds.length = n → b ds s ≠ .stuck → a ds s = b ds s) {vs : List V} {H : Hp} {Q : VK} {E : XK} (q : spOf G xc n b vs H Q E) : spOf G xc n a vs H Q E := by
  obtain ⟨hl, S, ds, st, w, r, o⟩ := q
  refine ⟨hl, S, ds, st, w, r, ?_⟩
  rw [h ds st (by rw [← r.length]; exact hl) (fun z => by rw [z] at o; exact o)]
  exact o
theorem fn_okD {x qual : Str} {st : Stmt} {f : Addr} {fd : FuncData} {ps : List Str} {body : List Cm} {fn : List D → G.T → Rs G.T D} (F : Fun K x qual st f fd) (Sc : FnScope g.N ps (defScope st)) (gl : Glob G TB g xc CX0 k P w K mg base) (hc : cpSs g [] 60 (defScope st) (defBody st) = some body) (hps : ps.length ≤ g.N.length)
    (h : ∀ ds s, ds.length = ps.length → fn ds s ≠ .stuck → runD TB g.N.length body ds s = fn ds s) : FnOk P w K mg base CX0 (k + 1) f fd ps (spOf G xc ps.length fn) :=
  (fn_ok0 F Sc gl hc hps).imp fun _ _ _ _ q => spOf_imp h q
/-! ### defs that may raise -/
structure XFacts (K : PySem.W.Frag) (mg : Str → Option Value) (xs : List (Str × Nat)) (xc : Nat → Value) : Prop where
  cls : ∀ x i, xs.lookup x = some i → ∃ C : Addr, xc i = .ref C ∧ mg x = some (.ref C) ∧ PySem.W.excIn K C [.type "ValueError", .type "Exception", .type "BaseException", .type "object"] "ValueError.__new__" = true ∧ PySem.W.keepIn K (.ref C) = true ∧ PySem.W.subIn K (.ref C) (.type "BaseException") = some true ∧ PySem.W.typeIn K (.ref C) = some (.type "type")
  med : ∃ CM : Addr, mg "MedianError" = some (.ref CM) ∧ ∀ c, c < 6 → PySem.W.exmOne K (xc c) (.ref CM) = some true
theorem ctxX {xs : List (Str × Nat)} (xf : XFacts K mg xs xc) (hxc : ∀ st S H, G.R st S H → ∀ c, xc c = .ref (S.X c)) (gl : Glob G TB g xc (L2.CX P w) k P w K mg base) (nd : g.N.Nodup) {sc : Scope} (hk : sc.kind = .function) {qual : Str} {f : Addr} {cdv : Value} {A : Around} {outer : List Env} {s : Shared} {H : Hp} {E : XK} (hr : Room k (A.deeper (envOfC qual sc s.heap.objs.size f cdv))) :
    StCtx G TB g xs xc (L2.CX P w) k E sc (cxOf (L2.CX P w) P w K mg base g.N qual sc f cdv A outer s H E) := by
  have tk : Takes (cxOf (L2.CX P w) P w K mg base g.N qual sc f cdv A outer s H E) (fun cls d _ H => E cls d H) := takes_of rfl rfl rfl rfl
  have c0 : ∀ (Y : Cx), Y.prog = P → Y.w = w → ∀ sg, PassesAt (L2.CX P w) Y sg fun _ _ _ => False := fun Y _ _ sg pins H s e s' I c => by
    obtain ⟨_, _, _, _, _, _, _, _, _, _, _, _, z⟩ := c
    exact z.elim
  refine { c := { scope := rfl, N := rfl, nd := nd, calm := rfl, room := hr, blt := gl.blt, cst := gl.cst, fns := gl.fns, ffs := gl.ffs, xcl := gl.xcl, pas := fun sg => passAt tk sg, cx0 := c0 }, fn := fun _ => rfl, kind := hk, po := passes_of rfl, tr := fun _ => ⟨rfl, rfl, rfl, ?_, hxc, fun W pn xe tk => { scope := rfl, N := rfl, nd := nd, calm := rfl, room := hr, blt := gl.blt, cst := gl.cst, fns := gl.fns, ffs := gl.ffs, xcl := gl.xcl, pas := fun sg => passAt tk sg, cx0 := c0 }⟩, rs := fun x i h hg hd m j p p2 pos1 pos2 => ?_ }
  · obtain ⟨CM, h1, h2⟩ := xf.med
    exact ⟨.ref CM, fun hg => ⟨hg, by decide, .inl h1⟩, h2⟩
  · obtain ⟨C, e, h1, h2, h3, h4, h5⟩ := xf.cls x i h
    rw [e]
    exact ps_raise rfl tk (pmk_own PySem.F.excBase_ValueError h2 h1 h3 (raises_own h4 h5) hg hd)
theorem fn_okX {x qual : Str} {st : Stmt} {f : Addr} {fd : FuncData} {ps : List Str} {body : List Cm} {xs : List (Str × Nat)} {fn : List D → G.T → Rs G.T D} (xf : XFacts K mg xs xc) (hxc : ∀ st S H, G.R st S H → ∀ c, xc c = .ref (S.X c)) (F : Fun K x qual st f fd) (Sc : FnScope g.N ps (defScope st)) (gl : Glob G TB g xc (L2.CX P w) k P w K mg base) (hc : cpSs g xs 60 (defScope st) (defBody st) = some body) (hps : ps.length ≤ g.N.length)
    (h : ∀ ds s, ds.length = ps.length → fn ds s ≠ .stuck → runD TB g.N.length body ds s = fn ds s) : FnOk P w K mg base (L2.CX P w) (k + 1) f fd ps (spOf G xc ps.length fn) := by
  refine F.okX Sc (fun vs H Q E h => h.1) (fun cdv A outer s H vs Q E hr q => ?_)
  obtain ⟨hl, S, ds, st0, wd, rp, o⟩ := spOf_imp h q
  refine ⟨_, cpSs_ok (ctxX xf hxc gl Sc.nd Sc.kind hr) 60 _ _ hc, ?_⟩
  refine ⟨S, H, S, _, st0, .refl, wd, fm_start rp (by omega), ?_⟩
  unfold runD at o
  cases q : exSs TB body (ds.map Slt.val ++ List.replicate (g.N.length - ds.length) .un) st0 with
  | ok fl s1 =>
    rw [q] at o
    cases fl with
    | next r => exact fun S' H' sg' x1 _ w1 _ => o S' H' x1 w1 _ .non
    | ret d => exact fun S' H' v x1 w1 rv => o S' H' x1 w1 v rv
  | exc c s1 => rw [q] at o; exact o
  | stuck => rw [q] at o; exact o
/-- a def that lets nothing out keeps its promise among defs that may raise -/
theorem fn_lift {f : Addr} {fd : FuncData} {ps : List Str} {sp : Sp} {CX : CXT} (h : FnOk P w K mg base CX0 k f fd ps sp) : FnOk P w K mg base CX k f fd ps sp :=
  ⟨h.len, fun A outer s H args us vs Q E hr he hb hv hs => codeAny_mono (h.run A outer s H args us vs Q E hr he hb hv hs) fun r s' q => by
    cases r with
    | ok f =>
      cases f with
      | ret u => exact q
      | _ => exact q
    | error e => exact (show False from q).elim⟩
/-- a sum of two lists is a new list -/
def rCatN (G : SS) (E : XK) (xc : Nat → Value) : R2 := fun x y H Q => ∃ S xs ys st, Wd G S H st ∧ RepB G true S H x (.list xs) ∧ RepB G true S H y (.list ys) ∧ xs.length + ys.length ≤ LIM ∧ Out G E xc S H (.ok (xs ++ ys) st) (WantF G H Q)
theorem opR_catN {X : Cx} {E : XK} : OpR X (binaryOp .Add) (rCatN G E xc) := by
  intro pins s sg H x y v u Q I rx ry ⟨S, xs, ys, st, w, hx, hy, hl, h⟩
  obtain ⟨a, us, rfl, ha, ra⟩ := hx.list
  obtain ⟨b, vs, rfl, hb, rb⟩ := hy.list
  refine op_cat pins s sg H _ _ v u Q I rx ry ⟨a, b, us, vs, rfl, rfl, ha, hb, ?_, fun p hp => laidL h .refl w (ra.append rb) hp⟩
  rw [ra.length, rb.length]
  exact lim_size hl
def evCat {T : Type} (TB : Tab T) (r : MRho) (x y : Xp) (s : T) : Rs T (List D) := (ev TB true r x s).bind fun d s1 => (ev TB true r y s1).bind fun e s2 => match d, e with
  | .list a, .list b => if a.length + b.length ≤ LIM then .ok (a ++ b) s2 else .stuck
  | _, _ => .stuck
/-- a def that hands back a sum of two lists: a new list -/
theorem fn_okF {nm qual : Str} {st : Stmt} {f : Addr} {fd : FuncData} {ps : List Str} {a b : Expr} {p1 p2 : Pos} {x y : Xp} (F : Fun K nm qual st f fd) (Sc : FnScope g.N ps (defScope st)) (gl : Glob G TB g xc CX0 k P w K mg base) (hb : defBody st = [.Return (some (.BinOp a .Add b p1)) p2]) (hx : cpE g 60 (defScope st) a = some x) (hy : cpE g 60 (defScope st) b = some y) (hps : ps.length ≤ g.N.length) :
    FnOk P w K mg base CX0 (k + 1) f fd ps (spFF G xc ps.length (fun ds s => evCat TB (ds.map Slt.val ++ List.replicate (g.N.length - ds.length) .un) x y s)) := by
  refine F.ok Sc (fun vs H Q E h => h.1) (fun cdv A outer s H vs Q E hr h => ?_)
  obtain ⟨hl, S, ds, st0, wd, rp, o⟩ := h
  have C := ctx0 (E := E) (qual := qual) (f := f) (cdv := cdv) (outer := outer) (s := s) (H := H) gl Sc.nd Sc.kind hr
  rw [hb]
  refine ⟨_, pss_one (ps_ret (pe_op (opR_catN (G := G) (E := E) (xc := xc)) ((cpE_ok 60 _ _ x (cE E) _ C.c hx).pe true) ((cpE_ok 60 _ _ y (cE E) _ C.c hy).pe true))), ?_⟩
  have f0 := fm_start (G := G) (N := g.N) rp (by omega)
  unfold evCat at o
  refine ⟨H, S, _, st0, wd, f0, o.bind.imp fun d S1 H1 st1 x1 w1 o1 v1 r1 => ?_⟩
  refine ⟨H, S1, _, st1, w1, f0.ext wd x1, o1.bind.imp fun d2 S2 H2 st2 x2 w2 o2 v2 r2 => ?_⟩
  cases d with
  | list l1 =>
    cases d2 with
    | list l2 =>
      simp only at o2
      split at o2
      · rename_i hlm
        exact ⟨S2, l1, l2, st2, w2, r1.ext w1 x2, r2, hlm, o2.imp fun l S3 H3 st3 x3 w3 q a ys h1 h2 h3 h4 h5 => q a ys ((x1.trans x2).kn a h1) h2 h3 h4 h5⟩
      · exact o2.elim
    | _ => exact o2.elim
  | _ => exact o2.elim
end
end MR

namespace MR
open PySem PySem.Spec PyProof.Rows L2
/-! ### the draws -/
abbrev DrT := List Int × Int
def DrR (da na : Addr) (s : DrT) (H : Hp) : Prop := H da = some (.lst [.ref na, .int s.2]) ∧ H na = some (.lst (s.1.map V.int)) ∧ s.1 ≠ [] ∧ s.1.length ≤ 63 ∧ da ≠ na
def drS (da na : Addr) (xa : Nat → Addr := fun _ => 0) : SS where
  T := DrT
  R := fun st S H => DrR da na st H ∧ (∀ a, S.Z a ↔ a = da ∨ a = na) ∧ S.X = xa
  stab := fun st S H S' H' h hz hx _ k _ _ => ⟨⟨by rw [k da ((h.2.1 da).mpr (.inl rfl))]; exact h.1.1, by rw [k na ((h.2.1 na).mpr (.inr rfl))]; exact h.1.2.1, h.1.2.2⟩, fun a => by rw [hz]; exact h.2.1 a, hx.trans h.2.2⟩
  live := fun st S H a h z => by
    rcases (h.2.1 a).mp z with rfl | rfl
    · rw [h.1.1]; exact fun z => nomatch z
    · rw [h.1.2.1]; exact fun z => nomatch z
  ntup := fun st S H a xs h z => by
    rcases (h.2.1 a).mp z with rfl | rfl
    · rw [h.1.1]; exact fun z => nomatch z
    · rw [h.1.2.1]; exact fun z => nomatch z
def drMix (cell c limit : Int) : Int := (((cell + 104729 * c) % 4294967291) ^ 5 % 4294967279 / 64 * 69621 + ((cell + 104729 * c) % 4294967291) ^ 5 % 4294967279) % 4294967231 / 8 % limit
def drawM (s : DrT) (limit : Int) : Int × DrT :=
  if 1000000000000000000 ≤ s.1.getD ((s.2 + 1) % (s.1.length : Int)).toNat 0 then
    (s.1.getD ((s.2 + 1) % (s.1.length : Int)).toNat 0 % limit, (s.1.set ((s.2 + 1) % (s.1.length : Int)).toNat (s.1.getD ((s.2 + 1) % (s.1.length : Int)).toNat 0 / limit), s.2 + 1))
  else (drMix (s.1.getD ((s.2 + 1) % (s.1.length : Int)).toNat 0) (s.2 + 1) limit, (s.1, s.2 + 1))
theorem drawM_nonneg (s : DrT) {limit : Int} (h : 0 < limit) : 0 ≤ (drawM s limit).1 := by
  unfold drawM drMix
  split
  · exact Int.emod_nonneg _ (by omega)
  · exact Int.emod_nonneg _ (by omega)
theorem drawM_lt (s : DrT) {limit : Int} (h : 0 < limit) : (drawM s limit).1 < limit := by
  unfold drawM drMix
  split
  · exact Int.emod_lt_of_pos _ h
  · exact Int.emod_lt_of_pos _ h
def drawD (da : Addr) : List D → DrT → Rs DrT D
  | [.dict [(.int a, .none)], .int limit], s => if a = (da : Int) ∧ 0 < limit ∧ limit < 1073741824 then .ok (.int (drawM s limit).1) (drawM s limit).2 else .stuck
  | _, _ => .stuck
theorem drawD_inv {da : Addr} {ds : List D} {s : DrT} (h : drawD da ds s ≠ .stuck) : ∃ limit, ds = [tokD da, .int limit] ∧ 0 < limit ∧ limit < 1073741824 ∧ drawD da ds s = .ok (.int (drawM s limit).1) (drawM s limit).2 := by
  unfold drawD at h
  split at h
  · rename_i a limit
    split at h
    · rename_i hc
      obtain ⟨rfl, h1, h2⟩ := hc
      refine ⟨limit, rfl, h1, h2, ?_⟩
      simp only [drawD]
      rw [if_pos ⟨trivial, h1, h2⟩]
    · exact absurd rfl h
  · exact absurd rfl h
theorem atI_int {l : List Int} {j : Nat} (h : j < l.length) : atI (l.map V.int) (j : Int) = some (.int (l.getD j 0)) := by
  refine atI_nat ?_
  rw [List.getElem?_map, List.getElem?_eq_getElem h, List.getD_eq_getElem?_getD, List.getElem?_eq_getElem h]
  rfl
theorem pow5 {m : Int} (h0 : 0 ≤ m) (h1 : m < 4294967291) : m.natAbs < 18446744073709551616 := by omega
/-- what a step of the draws leaves -/
theorem dr_ext {da na : Addr} {xa : Nat → Addr} {S : Wl} {H H' : Hp} {s : DrT} (s' : DrT) (w : Wd (drS da na xa) S H s) (k : ∀ a, a ≠ da → a ≠ na → H' a = H a) (r : DrR da na s' H') : Ext (drS da na xa) S H S H' ∧ Wd (drS da na xa) S H' s' := by
  have zz : ∀ a, S.Z a ↔ a = da ∨ a = na := w.r.2.1
  refine ⟨⟨fun _ h => h, fun _ h => .inl h, fun a o h z => ?_, fun a h => ?_, fun _ z => .inl z, rfl⟩, ⟨⟨r, w.r.2⟩, w.dis, fun a h => ?_⟩⟩
  · rw [k a (fun e => z ((zz a).mpr (.inl e))) (fun e => z ((zz a).mpr (.inr e)))]; exact h
  · by_cases h1 : a = da
    · rw [h1, r.1] at h; cases h
    · by_cases h2 : a = na
      · rw [h2, r.2.1] at h; cases h
      · rw [← k a h1 h2]; exact h
  · have z := w.dis a h
    rw [k a (fun e => z ((zz a).mpr (.inl e))) (fun e => z ((zz a).mpr (.inr e)))]
    exact w.dom a h
end MR

namespace MR
open PySem PySem.Spec PyProof.Rows L2
/-! ### the defs of a module -/
def DefAt (K : PySem.W.Frag) (mg : Str → Option Value) (x : Str) (st : Stmt) (ps : List Str) : Prop := ∃ f fd, Fun K x x st f fd ∧ mg x = some (.ref f) ∧ Binds K fd ps []
section
variable {P : Program} {w : World} {K : PySem.W.Frag} {mg : Str → Option Value} {base : Heap} {xc : Nat → Value} {G : SS} {TB : Tab G.T} {g : Cfg} {k : Nat}
theorem FnAt.mono {CX : CXT} {j : Nat} {x : Str} {sp : Sp} (h : FnAt P w K mg base CX j x sp) (hk : j ≤ k) : FnAt P w K mg base CX k x sp := by
  obtain ⟨f, fd, ps, a, b⟩ := h.ex
  exact ⟨f, fd, ps, a.mono hk, b⟩
theorem fnAtD {x : Str} {st : Stmt} {ps : List Str} {body : List Cm} {i : Nat} {fn : List D → G.T → Rs G.T D} (d : DefAt K mg x st ps) (Sc : FnScope g.N ps (defScope st)) (gl : Glob G TB g xc CX0 k P w K mg base) (hc : cpSs g [] 60 (defScope st) (defBody st) = some body) (hps : ps.length ≤ g.N.length)
    (h : ∀ ds s, ds.length = ps.length → fn ds s ≠ .stuck → runD TB g.N.length body ds s = fn ds s) (har : TB.ar i = ps.length) (hF : TB.F i = fn) : FnAt P w K mg base CX0 (k + 1) x (spOf G xc (TB.ar i) (TB.F i)) := by
  obtain ⟨f, fd, F, hm, hb⟩ := d
  refine ⟨f, fd, ps, ?_, hm, F.kp, hb⟩
  rw [har, hF]
  exact fn_okD F Sc gl hc hps h
theorem fnAtX {x : Str} {st : Stmt} {ps : List Str} {body : List Cm} {i : Nat} {xs : List (Str × Nat)} {fn : List D → G.T → Rs G.T D} (xf : XFacts K mg xs xc) (hxc : ∀ st S H, G.R st S H → ∀ c, xc c = .ref (S.X c)) (d : DefAt K mg x st ps) (Sc : FnScope g.N ps (defScope st)) (gl : Glob G TB g xc (L2.CX P w) k P w K mg base) (hc : cpSs g xs 60 (defScope st) (defBody st) = some body) (hps : ps.length ≤ g.N.length)
    (h : ∀ ds s, ds.length = ps.length → fn ds s ≠ .stuck → runD TB g.N.length body ds s = fn ds s) (har : TB.ar i = ps.length) (hF : TB.F i = fn) : FnAt P w K mg base (L2.CX P w) (k + 1) x (spOf G xc (TB.ar i) (TB.F i)) := by
  obtain ⟨f, fd, F, hm, hb⟩ := d
  refine ⟨f, fd, ps, ?_, hm, F.kp, hb⟩
  rw [har, hF]
  exact fn_okX xf hxc F Sc gl hc hps h
theorem FnAt.lift {CX : CXT} {x : Str} {sp : Sp} (h : FnAt P w K mg base CX0 k x sp) : FnAt P w K mg base CX k x sp := by
  obtain ⟨f, fd, ps, a, b⟩ := h.ex
  exact ⟨f, fd, ps, fn_lift a, b⟩
abbrev FnsOkC (CX : CXT) (P : Program) (w : World) (K : PySem.W.Frag) (mg : Str → Option Value) (base : Heap) (xc : Nat → Value) (G : SS) (TB : Tab G.T) (k : Nat) (l : List (Str × Nat)) : Prop := ∀ x i, l.lookup x = some i → FnAt P w K mg base CX k x (spOf G xc (TB.ar i) (TB.F i))
theorem fns_nil {CX : CXT} : FnsOkC CX P w K mg base xc G TB k [] := fun _ _ h => nomatch h
theorem fns_cons {CX : CXT} {x : Str} {i j : Nat} {l : List (Str × Nat)} (h : FnAt P w K mg base CX j x (spOf G xc (TB.ar i) (TB.F i))) (hk : j ≤ k) (r : FnsOkC CX P w K mg base xc G TB k l) : FnsOkC CX P w K mg base xc G TB k ((x, i) :: l) := fun y n e => by
  rw [List.lookup_cons] at e
  split at e
  · rename_i q
    cases e
    rw [eq_of_beq q]
    exact h.mono hk
  · exact r y n e
abbrev FnsOk (P : Program) (w : World) (K : PySem.W.Frag) (mg : Str → Option Value) (base : Heap) (xc : Nat → Value) (G : SS) (TB : Tab G.T) (k : Nat) (l : List (Str × Nat)) : Prop := FnsOkC CX0 P w K mg base xc G TB k l
abbrev CstOk (mg : Str → Option Value) (l : List (Str × D)) : Prop := ∀ x d, l.lookup x = some d → ∃ u v, mg x = some u ∧ RelV v u ∧ ∀ S H, Rep S H v d
theorem cst_nil : CstOk mg [] := fun _ _ h => nomatch h
theorem cst_int {x : Str} {n : Int} {t : Tok} {l : List (Str × D)} (h : mg x = some (.int n t)) (r : CstOk mg l) : CstOk mg ((x, .int n) :: l) := fun y d e => by
  rw [List.lookup_cons] at e
  split at e
  · rename_i q
    cases e
    rw [eq_of_beq q]
    exact ⟨_, .int n, h, ⟨_, rfl⟩, fun _ _ => .int n⟩
  · exact r y d e
theorem glob_mk {CX : CXT} (b : ∀ x ∈ bltNames, mg x = none) (c : CstOk mg g.cst) (f : FnsOkC CX P w K mg base xc G TB k g.fns) (hff : g.ffs = []) (hx : g.xcl = [] := by rfl) : Glob G TB g xc CX k P w K mg base := ⟨b, c, f, fun x i h => (by rw [hff] at h; cases h), fun x i h => (by rw [hx] at h; cases h)⟩
/-- the frame of a law behind its first statement -/
theorem fm_law {da na : Addr} {xa : Nat → Addr} {H : Hp} {S : Wl} {v : Option V} {m : Nat} : Fm (drS da na xa) H S H (v :: some (.ref da) :: List.replicate m none) (.un :: .val (tokD da) :: List.replicate m .un) := by
  refine ⟨fun i d h => ?_, fun i l h => ?_, fun i j l m a h => ?_, ?_⟩
  · match i with
    | 0 => cases h
    | 1 => cases h; exact ⟨_, rfl, .tok da⟩
    | i + 2 =>
      rw [List.getElem?_cons_succ, List.getElem?_cons_succ, List.getElem?_replicate] at h
      split at h <;> cases h
  · match i with
    | 0 => cases h
    | 1 => cases h
    | i + 2 =>
      rw [List.getElem?_cons_succ, List.getElem?_cons_succ, List.getElem?_replicate] at h
      split at h <;> cases h
  · match i with
    | 0 => cases h
    | 1 => cases h
    | i + 2 =>
      rw [List.getElem?_cons_succ, List.getElem?_cons_succ, List.getElem?_replicate] at h
      split at h <;> cases h
  · simp
end
/-! ### the draws' beginning -/
def cellsOf (ns : List Int) : List Int := if ns = [] then [0] else ns
theorem cellsOf_ne (ns : List Int) : cellsOf ns ≠ [] := by
  unfold cellsOf
  split
  · exact fun z => nomatch z
  · assumption
theorem cellsOf_len {ns : List Int} (h : ns.length ≤ 63) : (cellsOf ns).length ≤ 63 := by
  unfold cellsOf
  split
  · decide
  · exact h
def spStart (K : PySem.W.Frag) : Sp := fun vs H Q _ => ∃ (a : Addr) (ns : List Int), vs = [.ref a] ∧ SqL K H a (ns.map V.int) ∧ ns.length ≤ 63 ∧ ∀ H' da na, da ≠ na → H' da = some (.lst [.ref na, .int 0]) → H' na = some (.lst ((cellsOf ns).map V.int)) → Q (.ref da) H'
def spLaw (K : PySem.W.Frag) : Sp := fun vs H Q _ => ∃ (a : Addr) (ns : List Int), vs = [.ref a] ∧ SqL K H a (ns.map V.int) ∧ ns.length ≤ 63 ∧ ∀ H', Q (.bl true) H'
theorem dp_ints {K : PySem.W.Frag} {H : Hp} : ∀ ns : List Int, DpAll K H (ns.map V.int) (ns.map PyData.int)
  | [] => .nil
  | n :: r => .cons (.int n) (dp_ints r)
theorem shaped_ints (ns : List Int) : SeqAt.shaped (.list (ns.map PyData.int)) = true := by
  refine okD_shaped ?_
  unfold okD
  induction ns with
  | nil => rfl
  | cons n r ih => exact ih
theorem eqv_nil (ns : List Int) : PyData.eqv (.list (ns.map PyData.int)) (.list []) = decide (ns = []) := by
  cases ns <;> rfl
theorem Rep.tokv {S : Wl} {H : Hp} {v : V} {a : Addr} (h : Rep S H v (tokD a)) : v = .ref a := by
  have q : ∀ d, Rep S H v d → d = tokD a → v = .ref a := by
    intro d h e
    unfold tokD at e
    cases h with
    | tok b =>
      injection e with e
      injection e with e _
      injection e with e _
      injection e with e
      rw [Int.ofNat.inj e]
    | _ => cases e
  exact q _ h rfl
theorem outs_true {G : SS} {E : XK} {xc : Nat → Value} {S0 S : Wl} {H0 H : Hp} {r : Rs G.T Fl} {D : Ends} {s' : G.T} (h : r = .ok (.ret (.bool true)) s') (q : ∀ H', D.rt (.bl true) H') : OutS G E xc S0 H0 S H r D := by
  rw [h]
  intro S' H' v x1 w1 rv
  cases rv
  exact q _
end MR

namespace MR
open PySem L2
/-! ### plain reckoning: equations of the evaluator -/
def ix (xs : List Int) : List D := xs.map PyData.int
section
variable {T : Type} {TB : Tab T} {r : MRho} {s : T}
theorem ev_var (b : Bool) (i : Nat) : ev TB b r (.var i) s = .of (getV b r i) s := by simp only [ev]
theorem ev_lit (b : Bool) (d : D) : ev TB b r (.lit d) s = .ok d s := by simp only [ev]
theorem ev_bin (b : Bool) (o : Bop) (x y : Xp) : ev TB b r (.bin o x y) s = (ev TB true r x s).bind fun d s1 => (ev TB true r y s1).bind fun e s2 => .of (opD o d e) s2 := by simp only [ev]
def negK (d : D) (s1 : T) : Rs T D := match d with
    | .int i => .ok (.int (-i)) s1
    | _ => .stuck
def notK (d : D) (s1 : T) : Rs T D := match d with
    | .bool c => .ok (.bool (!c)) s1
    | _ => .stuck
def revK (d : D) (s1 : T) : Rs T D := match d with
    | .list ds => .ok (.list ds.reverse) s1
    | _ => .stuck
def isiK (o : Option Bool) (s1 : T) : Rs T D := match o with
    | some c => .ok (.bool c) s1
    | none => .stuck
theorem negK_i (i : Int) (s1 : T) : negK (.int i) s1 = .ok (.int (-i)) s1 := Eq.trans rfl rfl
theorem notK_b (c : Bool) (s1 : T) : notK (.bool c) s1 = .ok (.bool (!c)) s1 := Eq.trans rfl rfl
theorem revK_l (ds : List D) (s1 : T) : revK (.list ds) s1 = .ok (.list ds.reverse) s1 := Eq.trans rfl rfl
theorem isiK_s (c : Bool) (s1 : T) : isiK (some c) s1 = .ok (.bool c) s1 := Eq.trans rfl rfl
theorem ev_neg (b : Bool) (x : Xp) : ev TB b r (.neg x) s = (ev TB false r x s).bind negK := by simp only [ev]; rfl
theorem ev_not (b : Bool) (x : Xp) : ev TB b r (.not x) s = (ev TB false r x s).bind notK := by simp only [ev]; rfl
theorem ev_rev (b : Bool) (x : Xp) : ev TB b r (.rev x) s = (ev TB true r x s).bind revK := by simp only [ev]; rfl
theorem ev_isi (b : Bool) (t : Ty) (x : Xp) : ev TB b r (.isi t x) s = (ev TB true r x s).bind fun d s1 => isiK (isiD t d) s1 := by simp only [ev]; rfl
def andK (f : T → Rs T D) (d : D) (s1 : T) : Rs T D := match d with
    | .bool true => f s1
    | .bool false => .ok (.bool false) s1
    | _ => .stuck
def orK (f : T → Rs T D) (d : D) (s1 : T) : Rs T D := match d with
    | .bool true => .ok (.bool true) s1
    | .bool false => f s1
    | _ => .stuck
def iteK (f g : T → Rs T D) (d : D) (s1 : T) : Rs T D := match d with
    | .bool true => f s1
    | .bool false => g s1
    | _ => .stuck
theorem andK_b (f : T → Rs T D) (c : Bool) (s1 : T) : andK f (.bool c) s1 = if c = true then f s1 else .ok (.bool false) s1 := by cases c <;> rfl
theorem orK_b (f : T → Rs T D) (c : Bool) (s1 : T) : orK f (.bool c) s1 = if c = true then .ok (.bool true) s1 else f s1 := by cases c <;> rfl
theorem iteK_b (f g : T → Rs T D) (c : Bool) (s1 : T) : iteK f g (.bool c) s1 = if c = true then f s1 else g s1 := by cases c <;> rfl
theorem ev_and (b : Bool) (x y : Xp) : ev TB b r (.and x y) s = (ev TB false r x s).bind (andK fun s1 => ev TB false r y s1) := by simp only [ev]; rfl
theorem ev_or (b : Bool) (x y : Xp) : ev TB b r (.or x y) s = (ev TB false r x s).bind (orK fun s1 => ev TB false r y s1) := by simp only [ev]; rfl
theorem ev_ite (b : Bool) (c x y : Xp) : ev TB b r (.ite c x y) s = (ev TB false r c s).bind (iteK (fun s1 => ev TB false r x s1) (fun s1 => ev TB false r y s1)) := by simp only [ev]; rfl
def chnK (o p : Bop) (z : T → Rs T D) (d e : D) (s2 : T) : Rs T D := match opD o d e with
    | some (.bool true) => (z s2).bind fun f s3 => .of (opD p e f) s3
    | some (.bool false) => .ok (.bool false) s2
    | _ => .stuck
theorem ev_chn (b : Bool) (o p : Bop) (x y z : Xp) : ev TB b r (.chn o p x y z) s = (ev TB true r x s).bind fun d s1 => (ev TB true r y s1).bind fun e s2 => chnK o p (fun s => ev TB true r z s) d e s2 := by simp only [ev]; rfl
theorem chnK_b {o p : Bop} {z : T → Rs T D} {d e : D} {s2 : T} {c : Bool} (h : opD o d e = some (.bool c)) : chnK o p z d e s2 = if c = true then (z s2).bind fun f s3 => .of (opD p e f) s3 else .ok (.bool false) s2 := by
  unfold chnK
  rw [h]
  cases c <;> rfl
theorem chnK_le {p : Bop} {z : T → Rs T D} {i j : Int} {s2 : T} : chnK .le p z (.int i) (.int j) s2 = if i ≤ j then (z s2).bind fun f s3 => .of (opD p (.int j) f) s3 else .ok (.bool false) s2 := by
  rw [chnK_b (c := decide (i ≤ j)) rfl]
  by_cases h : i ≤ j <;> simp [h]
theorem ev_list (b : Bool) (es : List Xp) : ev TB b r (.list es) s = (evs TB false r es s).bind fun ds s1 => if ds.length ≤ LIM then .ok (.list ds) s1 else .stuck := by simp only [ev]
theorem ev_tup (b : Bool) (es : List Xp) : ev TB b r (.tup es) s = (evs TB false r es s).bind fun ds s1 => if ds.length ≤ LIM then .ok (.tuple ds) s1 else .stuck := by simp only [ev]
theorem ev_idx (b : Bool) (x y : Xp) : ev TB b r (.idx x y) s = (ev TB true r x s).bind fun d s1 => (ev TB false r y s1).bind fun e s2 => .of (idxD d e) s2 := by simp only [ev]
def slcK2 (hi : Xp) (d : D) (l' : Option Int) (h : D) (s3 : T) : Rs T D := match bndX hi h with
  | some h' => .of (slcD d l' h') s3
  | none => .stuck
def slcK1 (lo hi : Xp) (d l : D) (f : T → Rs T D) (s2 : T) : Rs T D := match bndX lo l with
  | some l' => (f s2).bind fun h s3 => slcK2 hi d l' h s3
  | none => .stuck
theorem ev_slc (b : Bool) (x lo hi : Xp) : ev TB b r (.slc x lo hi) s = (ev TB true r x s).bind fun d s1 => (ev TB false r lo s1).bind fun l s2 => slcK1 lo hi d l (fun s => ev TB false r hi s) s2 := by simp only [ev]; rfl
theorem slcK2_s {hi : Xp} {d : D} {l' h' : Option Int} {h : D} {s3 : T} (e : bndX hi h = some h') : slcK2 hi d l' h s3 = .of (slcD d l' h') s3 := by unfold slcK2; rw [e]
theorem slcK1_s {lo hi : Xp} {d l : D} {l' : Option Int} {f : T → Rs T D} {s2 : T} (e : bndX lo l = some l') : slcK1 lo hi d l f s2 = (f s2).bind fun h s3 => slcK2 hi d l' h s3 := by unfold slcK1; rw [e]
theorem ev_blt (b : Bool) (f : Blt) (es : List Xp) : ev TB b r (.blt f es) s = (evs TB true r es s).bind fun ds s1 => .of (bltD f ds) s1 := by simp only [ev]
theorem ev_call (b : Bool) (f : Nat) (es : List Xp) : ev TB b r (.call f es) s = if es.length = TB.ar f then (evs TB false r es s).bind fun ds s1 => TB.F f ds s1 else .stuck := by simp only [ev]
theorem ev_comp (b : Bool) (elt : Xp) (tg : Tg) (k : Srk) (src : List Xp) : ev TB b r (.comp elt tg k src none) s = (compF TB k src r (turnE TB r tg elt) s).bind fun l s1 => .ok (.list l) s1 := ev_fresh TB b r _ s rfl
theorem ev_compC (b : Bool) (elt c : Xp) (tg : Tg) (k : Srk) (src : List Xp) : ev TB b r (.comp elt tg k src (some c)) s = (compF TB k src r (turnC TB r tg elt c) s).bind fun l s1 => .ok (.list l) s1 := ev_fresh TB b r _ s rfl
theorem evs_nil (b : Bool) : evs TB b r [] s = .ok [] s := by simp only [evs]
theorem evs_cons (b : Bool) (e : Xp) (es : List Xp) : evs TB b r (e :: es) s = (ev TB b r e s).bind fun d s1 => (evs TB b r es s1).bind fun ds s2 => .ok (d :: ds) s2 := by simp only [evs]
theorem evO_val {e : Xp} (h : freshX e = false) : evO TB r e s = (ev TB false r e s).bind fun d s1 => .ok (.val d) s1 := by
  unfold evO
  rw [h]
  rfl
theorem evO_own {e : Xp} (h : freshX e = true) : evO TB r e s = (evF TB r e s).bind fun l s1 => .ok (.own l) s1 := by
  unfold evO
  rw [h]
  rfl
/-! ### comprehensions that leave the state as it is -/
theorem compM_of {f : D → T → Rs T (Option D)} {g : D → Option D} : ∀ {ds : List D}, (∀ d ∈ ds, f d s = .ok (g d) s) → compM f ds s = .ok (ds.filterMap g) s
  | [], _ => rfl
  | d :: ds, h => by
    simp only [compM]
    rw [h d List.mem_cons_self]
    simp only [Rs.bind_ok]
    rw [compM_of (ds := ds) fun e he => h e (List.mem_cons_of_mem _ he)]
    simp only [Rs.bind_ok, List.filterMap_cons]
    cases g d <;> rfl
theorem compM_map {A : Type} {f : D → T → Rs T (Option D)} {i : A → D} {g : A → D} {xs : List A} (h : ∀ x ∈ xs, f (i x) s = .ok (some (g x)) s) : compM f (xs.map i) s = .ok (xs.map g) s := by
  induction xs with
  | nil => rfl
  | cons x r ih =>
    simp only [List.map_cons, compM]
    rw [h x List.mem_cons_self]
    simp only [Rs.bind_ok]
    rw [ih fun e he => h e (List.mem_cons_of_mem _ he)]
    rfl
theorem compM_fmap {A : Type} {f : D → T → Rs T (Option D)} {i : A → D} {p : A → Bool} {g : A → D} {xs : List A} (h : ∀ x ∈ xs, f (i x) s = .ok (if p x = true then some (g x) else none) s) : compM f (xs.map i) s = .ok ((xs.filter p).map g) s := by
  induction xs with
  | nil => rfl
  | cons x r ih =>
    simp only [List.map_cons, compM]
    rw [h x List.mem_cons_self]
    simp only [Rs.bind_ok]
    rw [ih fun e he => h e (List.mem_cons_of_mem _ he), List.filter_cons]
    cases p x <;> rfl
theorem compF_of {k : Srk} {src : List Xp} {f : D → T → Rs T (Option D)} {ss ds l : List D} (h1 : evs TB true r src s = .ok ss s) (h2 : srcD k ss = some ds) (h3 : ds.length ≤ LIM) (h4 : compM f ds s = .ok l s) : compF TB k src r f s = .ok l s := by
  unfold compF
  rw [h1]
  simp only [Rs.bind_ok]
  rw [h2]
  simp only
  rw [if_pos h3, h4]
  rfl
theorem src_rng1' {n : Nat} (h : n ≤ LIM) : srcD .rng [.int (n : Int)] = some (upto 0 n) := by
  simp only [srcD]
  rw [if_pos (by unfold BIG; unfold LIM at h; omega)]
  rfl
theorem src_rng2' {i j : Int} (h1 : -1000000 ≤ i) (h2 : i ≤ 1000000) (h3 : -1000000 ≤ j) (h4 : j ≤ 1000000) : srcD .rng [.int i, .int j] = some (upto i (j - i).toNat) := by
  simp only [srcD]
  rw [if_pos (by unfold BIG; omega)]
theorem upto_map (lo : Int) (n : Nat) : upto lo n = (List.range n).map fun (i : Nat) => PyData.int (lo + (i : Int)) := rfl
end
end MR

namespace MR
open PySem L2
section
variable {T : Type} {TB : Tab T} {r : MRho} {s : T}
def seqK (TB : Tab T) (cs : List Cm) (fl : Fl) (s1 : T) : Rs T Fl := match fl with
  | .next r' => exSs TB cs r' s1
  | .ret v => .ok (.ret v) s1
theorem seqK_next (cs : List Cm) (r' : MRho) (s1 : T) : seqK TB cs (.next r') s1 = exSs TB cs r' s1 := Eq.trans rfl rfl
theorem seqK_ret (cs : List Cm) (v : D) (s1 : T) : seqK TB cs (.ret v) s1 = .ok (.ret v) s1 := Eq.trans rfl rfl
theorem exSs_nil : exSs TB [] r s = .ok (.next r) s := by simp only [exSs]
theorem exSs_cons (c : Cm) (cs : List Cm) : exSs TB (c :: cs) r s = (exS TB c r s).bind (seqK TB cs) := by simp only [exSs]; rfl
theorem exS_set (i : Nat) (e : Xp) : exS TB (.set i e) r s = (evO TB (frz r (esc false e)) e s).bind fun v s1 => .ok (.next ((frz r (esc false e)).set i v)) s1 := by simp only [exS]
theorem exS_ret (e : Xp) : exS TB (.ret e) r s = (ev TB false (frz r (esc false e)) e s).bind fun d s1 => .ok (.ret d) s1 := by simp only [exS]
theorem exS_exp (e : Xp) : exS TB (.exp e) r s = (ev TB false (frz r (esc false e)) e s).bind fun _ s1 => .ok (.next (frz r (esc false e))) s1 := by simp only [exS]
theorem exS_skip : exS TB .skip r s = .ok (.next r) s := by simp only [exS]
theorem exS_never : exS TB .never r s = .stuck := by simp only [exS]
def ifK (TB : Tab T) (a b : List Cm) (p : Bool × MRho) (s1 : T) : Rs T Fl := match p with
  | (true, r1) => exSs TB a r1 s1
  | (false, r1) => exSs TB b r1 s1
theorem ifK_b (a b : List Cm) (c : Bool) (r1 : MRho) (s1 : T) : ifK TB a b (c, r1) s1 = if c = true then exSs TB a r1 s1 else exSs TB b r1 s1 := by cases c <;> rfl
theorem exS_iff (c : Xp) (a b : List Cm) : exS TB (.iff c a b) r s = (testM TB c r s).bind (ifK TB a b) := by simp only [exS]; rfl
def testK (r' : MRho) (d : D) (s1 : T) : Rs T (Bool × MRho) := match d with
  | .bool b => .ok (b, r') s1
  | _ => .stuck
theorem testK_b (r' : MRho) (b : Bool) (s1 : T) : testK r' (.bool b) s1 = .ok (b, r') s1 := Eq.trans rfl rfl
theorem testM_eq (c : Xp) : testM TB c r s = (ev TB false (frz r (esc false c)) c s).bind (testK (frz r (esc false c))) := by unfold testM; rfl
def appK (r' : MRho) (i : Nat) (f : T → Rs T D) (s : T) : Rs T Fl := match r'[i]? with
  | some (.own l) => (f s).bind fun d s1 => if l.length < LIM then .ok (.next (r'.set i (.own (l ++ [d])))) s1 else .stuck
  | _ => .stuck
theorem exS_app (i : Nat) (e : Xp) : exS TB (.app i e) r s = appK (frz r (esc false e)) i (fun s => ev TB false (frz r (esc false e)) e s) s := by simp only [exS]; rfl
theorem appK_own {r' : MRho} {i : Nat} {f : T → Rs T D} {l : List D} (h : r'[i]? = some (.own l)) : appK r' i f s = (f s).bind fun d s1 => if l.length < LIM then .ok (.next (r'.set i (.own (l ++ [d])))) s1 else .stuck := by unfold appK; rw [h]
def stiK (r' : MRho) (i : Nat) (f g : T → Rs T D) (s : T) : Rs T Fl := match r'[i]? with
  | some (.own l) => (f s).bind fun d s1 => (g s1).bind fun x s2 => match x with
    | .int k => match ixN l.length k with
      | some j => .ok (.next (r'.set i (.own (l.set j d)))) s2
      | none => .stuck
    | _ => .stuck
  | _ => .stuck
theorem exS_sti (i : Nat) (x e : Xp) : exS TB (.sti i x e) r s = stiK (frz r (esc false e ++ esc false x)) i (fun s => ev TB false (frz r (esc false e ++ esc false x)) e s) (fun s => ev TB false (frz r (esc false e ++ esc false x)) x s) s := by simp only [exS]; rfl
theorem exS_par (i j : Nat) (a b : Xp) : exS TB (.par i j a b) r s = (evO TB (frz r (esc false a ++ esc false b)) a s).bind fun v s1 => (evO TB (frz r (esc false a ++ esc false b)) b s1).bind fun u s2 => .ok (.next (((frz r (esc false a ++ esc false b)).set i v).set j u)) s2 := by simp only [exS]
def tsetK (r' : MRho) (is : List Nat) (d : D) (s1 : T) : Rs T Fl := match d with
  | .tuple ds => if ds.length = is.length then .ok (.next (setAll r' is ds)) s1 else .stuck
  | _ => .stuck
theorem tsetK_t (r' : MRho) (is : List Nat) (ds : List D) (s1 : T) : tsetK r' is (.tuple ds) s1 = if ds.length = is.length then .ok (.next (setAll r' is ds)) s1 else .stuck := Eq.trans rfl rfl
theorem exS_tset (is : List Nat) (e : Xp) : exS TB (.tset is e) r s = (ev TB false (frz r (esc false e)) e s).bind (tsetK (frz r (esc false e)) is) := by simp only [exS]; rfl
def turnL (TB : Tab T) (tg : Tg) (body : List Cm) (d : D) (r : MRho) (s : T) : Rs T Fl := match bindT tg d r with
  | some r' => exSs TB body r' s
  | none => .stuck
def loopK (o : Option (List D)) (f : List D → T → Rs T Fl) (s1 : T) : Rs T Fl := match o with
  | some ds => f ds s1
  | none => .stuck
theorem exS_loop (tg : Tg) (k : Srk) (src : List Xp) (body : List Cm) : exS TB (.loop tg k src body) r s = (evs TB false (frz r (escs false src)) src s).bind fun ss s1 => loopK (srcD k ss) (fun ds s1 => forM (turnL TB tg body) ds (frz r (escs false src)) s1) s1 := by simp only [exS]; rfl
theorem exS_whl (c : Xp) (body : List Cm) : exS TB (.whl c body) r s = whileM (testM TB c) (exSs TB body) 1000 r s := by simp only [exS]
def runK (fl : Fl) (s1 : T) : Rs T D := match fl with
  | .next _ => .ok .none s1
  | .ret d => .ok d s1
theorem runK_next (r : MRho) (s1 : T) : runK (.next r) s1 = .ok .none s1 := Eq.trans rfl rfl
theorem runK_ret (d : D) (s1 : T) : runK (.ret d) s1 = .ok d s1 := Eq.trans rfl rfl
theorem runD_eq (n : Nat) (body : List Cm) (ds : List D) : runD TB n body ds s = (exSs TB body (ds.map Slt.val ++ List.replicate (n - ds.length) .un) s).bind runK := by unfold runD; rfl
/-- a loop by what stands behind each turn -/
theorem forM_inv {A : Type} {f : D → MRho → T → Rs T Fl} {i : A → D} {n : Nat} {xs : List A} (R : Nat → MRho) (S : Nat → T) (hn : xs.length = n) (h : ∀ (j : Nat) (x : A), xs[j]? = some x → f (i x) (R j) (S j) = .ok (.next (R (j + 1))) (S (j + 1))) : forM f (xs.map i) (R 0) (S 0) = .ok (.next (R n)) (S n) := by
  have key : ∀ (ys : List A) (m : Nat), (∀ (j : Nat) (x : A), ys[j]? = some x → f (i x) (R (m + j)) (S (m + j)) = .ok (.next (R (m + j + 1))) (S (m + j + 1))) → forM f (ys.map i) (R m) (S m) = .ok (.next (R (m + ys.length))) (S (m + ys.length)) := by
    intro ys
    induction ys with
    | nil => intro m _; rfl
    | cons y r ih =>
      intro m hm
      simp only [List.map_cons, forM]
      have h0 := hm 0 y rfl
      rw [Nat.add_zero] at h0
      rw [h0]
      simp only [Rs.bind_ok]
      have := ih (m + 1) fun j x hx => by
        have q := hm (j + 1) x (by simpa using hx)
        rw [show m + 1 + j = m + (j + 1) by omega]
        exact q
      rw [this, List.length_cons]
      rw [show m + 1 + r.length = m + (r.length + 1) by omega]
  have := key xs 0 fun j x hx => by
    rw [Nat.zero_add]
    exact h j x hx
  rw [this, hn, Nat.zero_add]
theorem range_get {n j x : Nat} (h : (List.range n)[j]? = some x) : x = j ∧ j < n := by
  obtain ⟨h1, h2⟩ := List.getElem?_eq_some_iff.mp h
  simp at h1 h2
  exact ⟨h2.symm, h1⟩
/-- .. over a range -/
theorem forM_rng {f : D → MRho → T → Rs T Fl} {lo : Int} {n : Nat} (R : Nat → MRho) (S : Nat → T) (h : ∀ (j : Nat), j < n → f (.int (lo + (j : Int))) (R j) (S j) = .ok (.next (R (j + 1))) (S (j + 1))) : forM f (upto lo n) (R 0) (S 0) = .ok (.next (R n)) (S n) := by
  rw [upto_map]
  refine forM_inv R S List.length_range fun j x hx => ?_
  obtain ⟨rfl, hj⟩ := range_get hx
  exact h x hj
end
/-! ### lists of ints -/
theorem ix_length (xs : List Int) : (ix xs).length = xs.length := by unfold ix; rw [List.length_map]
theorem ix_append (xs ys : List Int) : ix xs ++ ix ys = ix (xs ++ ys) := by unfold ix; rw [List.map_append]
theorem ix_nil : ix [] = [] := rfl
theorem ix_cons (x : Int) (xs : List Int) : ix (x :: xs) = .int x :: ix xs := rfl
theorem ix_rev (xs : List Int) : (ix xs).reverse = ix xs.reverse := by unfold ix; rw [List.map_reverse]
theorem intsOf_ix (xs : List Int) : intsOf (ix xs) = some xs := intsOf_map xs
theorem cut_ix (xs : List Int) (lo hi : Option Int) : cutD (ix xs) lo hi = ix (cutD xs lo hi) := by
  unfold cutD ix
  rw [List.length_map, List.map_take, List.map_drop]
theorem atI_ix {xs : List Int} {i : Int} : atI (ix xs) i = (atI xs i).map PyData.int := by
  unfold atI ix
  rw [List.length_map]
  cases ixN xs.length i with
  | none => rfl
  | some j => simp
theorem flat_ix (n : Nat) (xs : List Int) : (List.replicate n (ix xs)).flatten = ix (List.replicate n xs).flatten := by
  induction n with
  | zero => rfl
  | succ n ih => rw [List.replicate_succ, List.replicate_succ, List.flatten_cons, List.flatten_cons, ih, ix_append]
theorem lvl_ix (n : Nat) (xs : List Int) : lvl (n + 1) (.list (ix xs)) = true := by
  show (ix xs).all (lvl n) = true
  unfold ix
  rw [List.all_map, List.all_eq_true]
  intro x _
  cases n <;> rfl
theorem okD_ix (xs : List Int) : okD (.list (ix xs)) = true := lvl_ix 4 xs
theorem eqvAll_ix : ∀ (xs ys : List Int), PyData.eqvAll (ix xs) (ix ys) = decide (xs = ys)
  | [], [] => by simp [ix, PyData.eqvAll]
  | [], y :: ys => by simp [ix, PyData.eqvAll]
  | x :: xs, [] => by simp [ix, PyData.eqvAll]
  | x :: xs, y :: ys => by
    have ih := eqvAll_ix xs ys
    rw [ix_cons, ix_cons, PyData.eqvAll, ih]
    by_cases h1 : x = y
    · subst h1
      by_cases h2 : xs = ys <;> simp [PyData.eqv, h2]
    · simp [PyData.eqv, h1]
theorem eqv_ix (xs ys : List Int) : PyData.eqv (.list (ix xs)) (.list (ix ys)) = decide (xs = ys) := by
  rw [PyData.eqv]
  exact eqvAll_ix xs ys
theorem eq_ix (xs ys : List Int) : opD .eq (.list (ix xs)) (.list (ix ys)) = some (.bool (decide (xs = ys))) := by
  simp only [opD, okD_ix, and_self, if_true, eqv_ix]
theorem ne_ix (xs ys : List Int) : opD .ne (.list (ix xs)) (.list (ix ys)) = some (.bool (!decide (xs = ys))) := by
  simp only [opD, okD_ix, and_self, if_true, eqv_ix]
theorem len_ix (xs : List Int) : bltD .len [.list (ix xs)] = some (.int (xs.length : Int)) := by
  simp only [bltD, ix_length]
theorem sorted_ix (xs : List Int) : bltD .sorted [.list (ix xs)] = some (.list (ix (isort xs))) := by
  simp only [bltD, intsOf_ix]
  rfl
theorem sum_ix (xs : List Int) : bltD .sum [.list (ix xs)] = some (.int xs.sum) := by
  simp only [bltD, intsOf_ix]
theorem max_ix {xs : List Int} (h : xs ≠ []) : bltD .max [.list (ix xs)] = some (.int (maxL xs)) := by
  cases xs with
  | nil => exact absurd rfl h
  | cons x r => simp only [bltD, intsOf_ix]
theorem min_ix {xs : List Int} (h : xs ≠ []) : bltD .min [.list (ix xs)] = some (.int (minL xs)) := by
  cases xs with
  | nil => exact absurd rfl h
  | cons x r => simp only [bltD, intsOf_ix]
end MR
namespace MR
open PySem L2
section
variable {T : Type} {TB : Tab T} {r : MRho} {s : T}
theorem add_ii (i j : Int) : opD .add (.int i) (.int j) = some (.int (i + j)) := Eq.trans rfl rfl
theorem sub_ii (i j : Int) : opD .sub (.int i) (.int j) = some (.int (i - j)) := Eq.trans rfl rfl
theorem lt_ii (i j : Int) : opD .lt (.int i) (.int j) = some (.bool (decide (i < j))) := Eq.trans rfl rfl
theorem le_ii (i j : Int) : opD .le (.int i) (.int j) = some (.bool (decide (i ≤ j))) := Eq.trans rfl rfl
theorem gt_ii (i j : Int) : opD .gt (.int i) (.int j) = some (.bool (decide (j < i))) := Eq.trans rfl rfl
theorem ge_ii (i j : Int) : opD .ge (.int i) (.int j) = some (.bool (decide (j ≤ i))) := Eq.trans rfl rfl
theorem is_tt (a b : Bool) : opD .is (.bool a) (.bool b) = some (.bool (decide (a = b))) := Eq.trans rfl rfl
theorem isnot_tt (a b : Bool) : opD .isnot (.bool a) (.bool b) = some (.bool (!decide (a = b))) := Eq.trans rfl rfl
theorem mul_2i (k : Int) : opD .mul (.int 2) (.int k) = some (.int (2 * k)) := by
  simp only [opD]
  rw [if_pos (by omega)]
theorem turnE_one (i : Nat) (elt : Xp) (d : D) : turnE TB r (.one i) elt d s = (ev TB false ((r.set i .un).set i (.val d)) elt s).bind fun x s2 => .ok (some x) s2 := Eq.trans rfl rfl
def turnCK (TB : Tab T) (r' : MRho) (elt : Xp) (y : D) (s1 : T) : Rs T (Option D) := match y with
  | .bool true => (ev TB false r' elt s1).bind fun x s2 => .ok (some x) s2
  | .bool false => .ok none s1
  | _ => .stuck
theorem turnC_one (i : Nat) (elt c : Xp) (d : D) : turnC TB r (.one i) elt c d s = (ev TB false ((r.set i .un).set i (.val d)) c s).bind (turnCK TB ((r.set i .un).set i (.val d)) elt) := Eq.trans rfl rfl
theorem turnC_b (r' : MRho) (elt : Xp) (b : Bool) (s1 : T) : turnCK TB r' elt (.bool b) s1 = if b = true then (ev TB false r' elt s1).bind fun x s2 => .ok (some x) s2 else .ok none s1 := by cases b <;> rfl
theorem turnL_one (i : Nat) (body : List Cm) (d : D) : turnL TB (.one i) body d r s = exSs TB body (r.set i (.val d)) s := Eq.trans rfl rfl
theorem loopK_s (ds : List D) (f : List D → T → Rs T Fl) (s1 : T) : loopK (some ds) f s1 = f ds s1 := Eq.trans rfl rfl
theorem len_lit0 : (0 : Nat) ≤ LIM := Nat.zero_le _
end
theorem atI_nat_getD {xs : List Int} {j : Nat} (h : j < xs.length) : atI xs (j : Int) = some (xs.getD j 0) := by
  refine atI_nat ?_
  rw [List.getD_eq_getElem?_getD, List.getElem?_eq_getElem h]
  rfl
theorem idx_ix {xs : List Int} {j : Nat} (h : j < xs.length) : idxD (.list (ix xs)) (.int (j : Int)) = some (.int (xs.getD j 0)) := by
  simp only [idxD]
  rw [atI_ix, atI_nat_getD h]
  rfl
theorem idx_ixI {xs : List Int} {i : Int} (h0 : 0 ≤ i) (h : i < xs.length) : idxD (.list (ix xs)) (.int i) = some (.int (xs.getD i.toNat 0)) := by
  have e : i = (i.toNat : Int) := by omega
  rw [e, idx_ix (by omega), Int.toNat_natCast]
theorem lim_ok {n : Nat} (h : n ≤ 1000) : n ≤ LIM := by unfold LIM; omega
theorem lim_lt {n : Nat} (h : n ≤ 1000) : n < LIM := by unfold LIM; omega
theorem ix_range (n : Nat) (f : Nat → Int) : (List.range n).map (fun i => PyData.int (f i)) = ix ((List.range n).map f) := by
  unfold ix
  rw [List.map_map]
  rfl
theorem ix_map {A : Type} (xs : List A) (f : A → Int) : xs.map (fun i => PyData.int (f i)) = ix (xs.map f) := by
  unfold ix
  rw [List.map_map]
  rfl
end MR

namespace MR
open PySem L2
/-! ### rows, radii: the mirrors -/
def isRow (row : List Int) : Prop := 1 ≤ row.length ∧ row.length ≤ 12 ∧ ∀ x ∈ row, 0 ≤ x ∧ x ≤ 9
instance (row : List Int) : Decidable (isRow row) := by unfold isRow; infer_instance
/-- a def of a row (or a list of ints) and a radius, by its value where P holds -/
def onRK {T : Type} (P : List Int → Prop) [DecidablePred P] (f : List Int → Nat → D) : List D → T → Rs T D
  | [.list ds, .int k], s => match intsOf ds with
    | some row => if P row ∧ 1 ≤ k ∧ k ≤ 3 then .ok (f row k.toNat) s else .stuck
    | none => .stuck
  | _, _ => .stuck
theorem onRK_inv {T : Type} {P : List Int → Prop} [DecidablePred P] {f : List Int → Nat → D} {ds : List D} {s : T} (h : onRK P f ds s ≠ .stuck) : ∃ row k, ds = [.list (ix row), .int ((k : Nat) : Int)] ∧ P row ∧ 1 ≤ k ∧ k ≤ 3 ∧ onRK P f ds s = .ok (f row k) s := by
  unfold onRK at h
  split at h
  · rename_i ds k
    split at h
    · rename_i row hr
      split at h
      · rename_i hc
        refine ⟨row, k.toNat, ?_, hc.1, by omega, by omega, ?_⟩
        · rw [of_intsOf hr, Int.toNat_of_nonneg (by omega)]
          rfl
        · simp only [onRK, hr]
          rw [if_pos hc]
      · exact absurd rfl h
    · exact absurd rfl h
  · exact absurd rfl h
theorem onRK_eq {T : Type} {P : List Int → Prop} [DecidablePred P] {f : List Int → Nat → D} {row : List Int} {k : Nat} {s : T} (hp : P row) (h1 : 1 ≤ k) (h2 : k ≤ 3) : onRK P f [.list (ix row), .int (k : Int)] s = .ok (f row k) s := by
  simp only [onRK, intsOf_ix]
  rw [if_pos ⟨hp, by omega, by omega⟩, Int.toNat_natCast]
/-- a def of a row, a radius and one more int -/
def onRKI {T : Type} (P : List Int → Prop) [DecidablePred P] (Q : Nat → Int → Prop) [∀ k i, Decidable (Q k i)] (f : List Int → Nat → Int → D) : List D → T → Rs T D
  | [.list ds, .int k, .int i], s => match intsOf ds with
    | some row => if P row ∧ 1 ≤ k ∧ k ≤ 3 ∧ Q k.toNat i then .ok (f row k.toNat i) s else .stuck
    | none => .stuck
  | _, _ => .stuck
theorem onRKI_inv {T : Type} {P : List Int → Prop} [DecidablePred P] {Q : Nat → Int → Prop} [∀ k i, Decidable (Q k i)] {f : List Int → Nat → Int → D} {ds : List D} {s : T} (h : onRKI P Q f ds s ≠ .stuck) : ∃ row k i, ds = [.list (ix row), .int ((k : Nat) : Int), .int i] ∧ P row ∧ 1 ≤ k ∧ k ≤ 3 ∧ Q k i ∧ onRKI P Q f ds s = .ok (f row k i) s := by
  unfold onRKI at h
  split at h
  · rename_i ds k i
    split at h
    · rename_i row hr
      split at h
      · rename_i hc
        refine ⟨row, k.toNat, i, ?_, hc.1, by omega, by omega, hc.2.2.2, ?_⟩
        · rw [of_intsOf hr, Int.toNat_of_nonneg (by omega)]
          rfl
        · simp only [onRKI, hr]
          rw [if_pos hc]
      · exact absurd rfl h
    · exact absurd rfl h
  · exact absurd rfl h
theorem onRKI_eq {T : Type} {P : List Int → Prop} [DecidablePred P] {Q : Nat → Int → Prop} [∀ k i, Decidable (Q k i)] {f : List Int → Nat → Int → D} {row : List Int} {k : Nat} {i : Int} {s : T} (hp : P row) (h1 : 1 ≤ k) (h2 : k ≤ 3) (hq : Q k i) : onRKI P Q f [.list (ix row), .int (k : Int), .int i] s = .ok (f row k i) s := by
  simp only [onRKI, intsOf_ix]
  rw [if_pos ⟨hp, by omega, by omega, by rw [Int.toNat_natCast]; exact hq⟩, Int.toNat_natCast]
/-- a def of one list of ints -/
def onR {T : Type} (P : List Int → Prop) [DecidablePred P] (f : List Int → D) : List D → T → Rs T D
  | [.list ds], s => match intsOf ds with
    | some row => if P row then .ok (f row) s else .stuck
    | none => .stuck
  | _, _ => .stuck
theorem onR_inv {T : Type} {P : List Int → Prop} [DecidablePred P] {f : List Int → D} {ds : List D} {s : T} (h : onR P f ds s ≠ .stuck) : ∃ row, ds = [.list (ix row)] ∧ P row ∧ onR P f ds s = .ok (f row) s := by
  unfold onR at h
  split at h
  · rename_i ds
    split at h
    · rename_i row hr
      split at h
      · rename_i hc
        refine ⟨row, ?_, hc, ?_⟩
        · rw [of_intsOf hr]
          rfl
        · simp only [onR, hr]
          rw [if_pos hc]
      · exact absurd rfl h
    · exact absurd rfl h
  · exact absurd rfl h
theorem onR_eq {T : Type} {P : List Int → Prop} [DecidablePred P] {f : List Int → D} {row : List Int} {s : T} (hp : P row) : onR P f [.list (ix row)] s = .ok (f row) s := by
  simp only [onR, intsOf_ix]
  rw [if_pos hp]
def small (row : List Int) : Prop := row ≠ [] ∧ row.length ≤ 100
instance (row : List Int) : Decidable (small row) := by unfold small; infer_instance
theorem isRow.small {row : List Int} (h : isRow row) : small row := ⟨fun z => by subst z; exact absurd h.1 (by decide), by have := h.2.1; omega⟩
/-- the value at a place, also beyond the ends -/
def near (row : List Int) (i : Int) : Int := row.getD (min (max i 0) ((row.length : Int) - 1)).toNat 0
def longerM (row : List Int) (k : Nat) : List Int := List.replicate k (near row 0) ++ row ++ List.replicate k (near row ((row.length : Int) - 1))
def longerD {T : Type} : List D → T → Rs T D := onRK small fun row k => .list (ix (longerM row k))
def medAt (k : Nat) (w : List Int) : Int := (isort w).getD k 0
def win (row : List Int) (i : Int) (w : Nat) : List Int := (List.range w).map fun (j : Nat) => near row (i + (j : Int))
def rankM (row : List Int) (k t : Nat) : List Int := (List.range row.length).map fun (i : Nat) => medAt t (win row ((i : Int) - (k : Int)) (2 * k + 1))
def medianM (row : List Int) (k : Nat) : List Int := rankM row k k
def medianD {T : Type} : List D → T → Rs T D := onRK small fun row k => .list (ix (medianM row k))
theorem longerM_length (row : List Int) (k : Nat) : (longerM row k).length = row.length + 2 * k := by
  unfold longerM
  simp only [List.length_append, List.length_replicate]
  omega
theorem near_mid {row : List Int} {i : Nat} (h : i < row.length) : near row (i : Int) = row[i] := by
  unfold near
  have e : (min (max (i : Int) 0) ((row.length : Int) - 1)).toNat = i := by omega
  rw [e, List.getD_eq_getElem?_getD, List.getElem?_eq_getElem h]
  rfl
theorem near_low {row : List Int} {i : Int} (h : i ≤ 0) : near row i = near row 0 := by
  unfold near
  have e : (min (max i 0) ((row.length : Int) - 1)).toNat = (min (max (0 : Int) 0) ((row.length : Int) - 1)).toNat := by omega
  rw [e]
theorem near_high {row : List Int} {i : Int} (h : (row.length : Int) - 1 ≤ i) : near row i = near row ((row.length : Int) - 1) := by
  unfold near
  have e : (min (max i 0) ((row.length : Int) - 1)).toNat = (min (max ((row.length : Int) - 1) 0) ((row.length : Int) - 1)).toNat := by omega
  rw [e]
theorem longerM_get {row : List Int} {k j : Nat} (h0 : row ≠ []) (h : j < row.length + 2 * k) : (longerM row k)[j]? = some (near row ((j : Int) - (k : Int))) := by
  have hl : 0 < row.length := List.length_pos_iff.mpr h0
  unfold longerM
  by_cases h1 : j < k
  · rw [List.append_assoc, List.getElem?_append_left (by rw [List.length_replicate]; exact h1), List.getElem?_replicate, if_pos h1]
    rw [near_low (i := (j : Int) - (k : Int)) (by omega)]
  · by_cases h2 : j < k + row.length
    · rw [List.getElem?_append_left (by simp only [List.length_append, List.length_replicate]; exact h2), List.getElem?_append_right (by rw [List.length_replicate]; omega), List.length_replicate]
      have h3 : j - k < row.length := by omega
      rw [List.getElem?_eq_getElem h3, ← near_mid h3]
      congr 2
      omega
    · rw [List.getElem?_append_right (by simp only [List.length_append, List.length_replicate]; omega)]
      simp only [List.length_append, List.length_replicate]
      rw [List.getElem?_replicate, if_pos (by omega)]
      rw [near_high (i := (j : Int) - (k : Int)) (by omega)]
theorem cut_nat {A : Type} {xs : List A} {a b : Nat} (h1 : a ≤ b) (h2 : b ≤ xs.length) : cutD xs (some (a : Int)) (some (b : Int)) = (xs.drop a).take (b - a) := by
  unfold cutD
  rw [HT.sIx_nat, HT.sIx_nat, Nat.min_eq_left h2, Nat.min_eq_left (by omega)]
theorem longerM_cut {row : List Int} {k i w : Nat} (h0 : row ≠ []) (h : i + w ≤ row.length + 2 * k) : ((longerM row k).drop i).take w = win row ((i : Int) - (k : Int)) w := by
  apply List.ext_getElem?
  intro j
  by_cases hj : j < w
  · rw [List.getElem?_take, if_pos hj, List.getElem?_drop, longerM_get h0 (by omega)]
    unfold win
    rw [List.getElem?_map, List.getElem?_range hj]
    simp only [Option.map_some]
    congr 2
    omega
  · rw [List.getElem?_take, if_neg hj]
    unfold win
    rw [List.getElem?_map, List.getElem?_eq_none (by simp; omega)]
    rfl
theorem win_length (row : List Int) (i : Int) (w : Nat) : (win row i w).length = w := by unfold win; simp
theorem rankM_length (row : List Int) (k t : Nat) : (rankM row k t).length = row.length := by unfold rankM; simp
theorem medianM_length (row : List Int) (k : Nat) : (medianM row k).length = row.length := rankM_length row k k
section
variable {T : Type} {TB : Tab T} {r : MRho} {s : T}
/-- a cut of a list of ints -/
theorem slc_ix {lo hi : Xp} {xs : List Int} {a b : Nat} {l h : D} {f : T → Rs T D} (el : bndX lo l = some (some (a : Int))) (hf : f s = .ok h s) (eh : bndX hi h = some (some (b : Int))) (h1 : a ≤ b) (h2 : b ≤ xs.length) : slcK1 lo hi (.list (ix xs)) l f s = .ok (.list (ix ((xs.drop a).take (b - a)))) s := by
  rw [slcK1_s el, hf]
  simp only [Rs.bind_ok]
  rw [slcK2_s eh]
  simp only [slcD, cut_ix, cut_nat h1 h2, Rs.of_some]
/-- the sorted windows of the longer row -/
theorem run_ranks {elt : Xp} {row : List Int} {k t : Nat} {src : List Xp} {tg : Tg} (h0 : row ≠ []) (hl : row.length ≤ 100) (hs : evs TB true r src s = .ok [.int (row.length : Int)] s)
    (he : ∀ (i : Nat), i < row.length → turnE TB r tg elt (.int (0 + (i : Int))) s = .ok (some (.int (medAt t (win row ((i : Int) - (k : Int)) (2 * k + 1))))) s) :
    compF TB .rng src r (turnE TB r tg elt) s = .ok (ix (rankM row k t)) s := by
  refine compF_of hs (src_rng1' (lim_ok (by omega))) (by rw [upto_length]; exact lim_ok (by omega)) ?_
  rw [upto_map, compM_map (g := fun (i : Nat) => PyData.int (medAt t (win row ((i : Int) - (k : Int)) (2 * k + 1)))) fun i hi => he i (by simpa using hi)]
  rw [ix_range]
  rfl
def code_median : List Cm := [.set 2 (.call 5 [.var 0, .var 1]), .ret (.comp (.idx (.blt .sorted [.slc (.var 2) (.var 3) (.bin .add (.bin .add (.var 3) (.bin .mul (.lit (.int 2)) (.var 1))) (.lit (.int 1)))]) (.var 1)) (.one 3) .rng [.blt .len [.var 0]] none)]
theorem run_median (ha : TB.ar 5 = 2) (h5 : TB.F 5 = longerD) : ∀ (ds : List D) (s : T), ds.length = 2 → medianD ds s ≠ .stuck → runD TB 4 code_median ds s = medianD ds s := by
  intro ds s hlen h
  obtain ⟨row, k, rfl, hp, k1, k3, e⟩ := onRK_inv h
  rw [show medianD [.list (ix row), .int (k : Int)] s = _ from e]
  have h0 := hp.1
  have h100 := hp.2
  have hL : longerD [.list (ix row), .int (k : Int)] s = .ok (.list (ix (longerM row k))) s := onRK_eq hp k1 k3
  rw [runD_eq]
  simp only [code_median, ha, h5, hL, exSs_cons, exSs_nil, seqK_next, seqK_ret, exS_set, exS_ret, exS_exp, exS_skip, exS_never, exS_iff, ifK_b, testM_eq, testK_b, exS_app, exS_par, exS_tset, tsetK_t, exS_loop, runK_next, runK_ret, evO, evF, freshX, esc, escs, frz, ev_var, ev_lit, ev_bin, ev_neg, negK_i, ev_not, notK_b, ev_and, andK_b, ev_or, orK_b, ev_ite, iteK_b, ev_chn, chnK_le, ev_list, ev_tup, ev_idx, ev_slc, ev_rev, revK_l, ev_blt, ev_isi, isiK_s, ev_call, ev_comp, ev_compC, evs_cons, evs_nil, getV, isiD, List.length_cons, List.length_nil, List.map_cons, List.map_nil, List.replicate, List.append_eq, List.nil_append, List.cons_append, List.append_nil, List.getElem?_cons_zero, List.getElem?_cons_succ, Rs.of_some, Rs.bind_ok, Rs.bind_stuck, if_true, Bool.false_eq_true, if_false, List.set_cons_zero, List.set_cons_succ, Nat.zero_add, Nat.reduceAdd, Nat.reduceSub, add_ii, sub_ii, mul_2i, lt_ii, le_ii, gt_ii, ge_ii, len_ix, sorted_ix, sum_ix, eq_ix, ne_ix, turnE_one, turnC_one, turnC_b, turnL_one, reduceIte, Bool.not_true, Bool.not_false, Bool.true_eq_false, is_tt, isnot_tt, loopK_s, len_lit0]
  rw [run_ranks (k := k) (t := k) h0 h100 (by simp only [exSs_cons, exSs_nil, seqK_next, seqK_ret, exS_set, exS_ret, exS_exp, exS_skip, exS_never, exS_iff, ifK_b, testM_eq, testK_b, exS_app, exS_par, exS_tset, tsetK_t, exS_loop, runK_next, runK_ret, evO, evF, freshX, esc, escs, frz, ev_var, ev_lit, ev_bin, ev_neg, negK_i, ev_not, notK_b, ev_and, andK_b, ev_or, orK_b, ev_ite, iteK_b, ev_chn, chnK_le, ev_list, ev_tup, ev_idx, ev_slc, ev_rev, revK_l, ev_blt, ev_isi, isiK_s, ev_call, ev_comp, ev_compC, evs_cons, evs_nil, getV, isiD, List.length_cons, List.length_nil, List.map_cons, List.map_nil, List.replicate, List.append_eq, List.nil_append, List.cons_append, List.append_nil, List.getElem?_cons_zero, List.getElem?_cons_succ, Rs.of_some, Rs.bind_ok, Rs.bind_stuck, if_true, Bool.false_eq_true, if_false, List.set_cons_zero, List.set_cons_succ, Nat.zero_add, Nat.reduceAdd, Nat.reduceSub, add_ii, sub_ii, mul_2i, lt_ii, le_ii, gt_ii, ge_ii, len_ix, sorted_ix, sum_ix, eq_ix, ne_ix, turnE_one, turnC_one, turnC_b, turnL_one, reduceIte, Bool.not_true, Bool.not_false, Bool.true_eq_false, is_tt, isnot_tt, loopK_s, len_lit0]) ?_]
  · simp only [exSs_cons, exSs_nil, seqK_next, seqK_ret, exS_set, exS_ret, exS_exp, exS_skip, exS_never, exS_iff, ifK_b, testM_eq, testK_b, exS_app, exS_par, exS_tset, tsetK_t, exS_loop, runK_next, runK_ret, evO, evF, freshX, esc, escs, frz, ev_var, ev_lit, ev_bin, ev_neg, negK_i, ev_not, notK_b, ev_and, andK_b, ev_or, orK_b, ev_ite, iteK_b, ev_chn, chnK_le, ev_list, ev_tup, ev_idx, ev_slc, ev_rev, revK_l, ev_blt, ev_isi, isiK_s, ev_call, ev_comp, ev_compC, evs_cons, evs_nil, getV, isiD, List.length_cons, List.length_nil, List.map_cons, List.map_nil, List.replicate, List.append_eq, List.nil_append, List.cons_append, List.append_nil, List.getElem?_cons_zero, List.getElem?_cons_succ, Rs.of_some, Rs.bind_ok, Rs.bind_stuck, if_true, Bool.false_eq_true, if_false, List.set_cons_zero, List.set_cons_succ, Nat.zero_add, Nat.reduceAdd, Nat.reduceSub, add_ii, sub_ii, mul_2i, lt_ii, le_ii, gt_ii, ge_ii, len_ix, sorted_ix, sum_ix, eq_ix, ne_ix, turnE_one, turnC_one, turnC_b, turnL_one, reduceIte, Bool.not_true, Bool.not_false, Bool.true_eq_false, is_tt, isnot_tt, loopK_s, len_lit0]
    rfl
  · intro i hi
    simp only [exSs_cons, exSs_nil, seqK_next, seqK_ret, exS_set, exS_ret, exS_exp, exS_skip, exS_never, exS_iff, ifK_b, testM_eq, testK_b, exS_app, exS_par, exS_tset, tsetK_t, exS_loop, runK_next, runK_ret, evO, evF, freshX, esc, escs, frz, ev_var, ev_lit, ev_bin, ev_neg, negK_i, ev_not, notK_b, ev_and, andK_b, ev_or, orK_b, ev_ite, iteK_b, ev_chn, chnK_le, ev_list, ev_tup, ev_idx, ev_slc, ev_rev, revK_l, ev_blt, ev_isi, isiK_s, ev_call, ev_comp, ev_compC, evs_cons, evs_nil, getV, isiD, List.length_cons, List.length_nil, List.map_cons, List.map_nil, List.replicate, List.append_eq, List.nil_append, List.cons_append, List.append_nil, List.getElem?_cons_zero, List.getElem?_cons_succ, Rs.of_some, Rs.bind_ok, Rs.bind_stuck, if_true, Bool.false_eq_true, if_false, List.set_cons_zero, List.set_cons_succ, Nat.zero_add, Nat.reduceAdd, Nat.reduceSub, add_ii, sub_ii, mul_2i, lt_ii, le_ii, gt_ii, ge_ii, len_ix, sorted_ix, sum_ix, eq_ix, ne_ix, turnE_one, turnC_one, turnC_b, turnL_one, reduceIte, Bool.not_true, Bool.not_false, Bool.true_eq_false, is_tt, isnot_tt, loopK_s, len_lit0]
    rw [slc_ix (a := i) (b := i + (2 * k + 1)) (h := .int (0 + (i : Int) + 2 * (k : Int) + 1)) (by simp only [bndX]; congr 2; omega) (by simp only [exSs_cons, exSs_nil, seqK_next, seqK_ret, exS_set, exS_ret, exS_exp, exS_skip, exS_never, exS_iff, ifK_b, testM_eq, testK_b, exS_app, exS_par, exS_tset, tsetK_t, exS_loop, runK_next, runK_ret, evO, evF, freshX, esc, escs, frz, ev_var, ev_lit, ev_bin, ev_neg, negK_i, ev_not, notK_b, ev_and, andK_b, ev_or, orK_b, ev_ite, iteK_b, ev_chn, chnK_le, ev_list, ev_tup, ev_idx, ev_slc, ev_rev, revK_l, ev_blt, ev_isi, isiK_s, ev_call, ev_comp, ev_compC, evs_cons, evs_nil, getV, isiD, List.length_cons, List.length_nil, List.map_cons, List.map_nil, List.replicate, List.append_eq, List.nil_append, List.cons_append, List.append_nil, List.getElem?_cons_zero, List.getElem?_cons_succ, Rs.of_some, Rs.bind_ok, Rs.bind_stuck, if_true, Bool.false_eq_true, if_false, List.set_cons_zero, List.set_cons_succ, Nat.zero_add, Nat.reduceAdd, Nat.reduceSub, add_ii, sub_ii, mul_2i, lt_ii, le_ii, gt_ii, ge_ii, len_ix, sorted_ix, sum_ix, eq_ix, ne_ix, turnE_one, turnC_one, turnC_b, turnL_one, reduceIte, Bool.not_true, Bool.not_false, Bool.true_eq_false, is_tt, isnot_tt, loopK_s, len_lit0]) (by simp only [bndX]; congr 2; omega) (by omega) (by rw [longerM_length]; omega)]
    rw [Nat.add_sub_cancel_left, longerM_cut h0 (by omega)]
    simp only [exSs_cons, exSs_nil, seqK_next, seqK_ret, exS_set, exS_ret, exS_exp, exS_skip, exS_never, exS_iff, ifK_b, testM_eq, testK_b, exS_app, exS_par, exS_tset, tsetK_t, exS_loop, runK_next, runK_ret, evO, evF, freshX, esc, escs, frz, ev_var, ev_lit, ev_bin, ev_neg, negK_i, ev_not, notK_b, ev_and, andK_b, ev_or, orK_b, ev_ite, iteK_b, ev_chn, chnK_le, ev_list, ev_tup, ev_idx, ev_slc, ev_rev, revK_l, ev_blt, ev_isi, isiK_s, ev_call, ev_comp, ev_compC, evs_cons, evs_nil, getV, isiD, List.length_cons, List.length_nil, List.map_cons, List.map_nil, List.replicate, List.append_eq, List.nil_append, List.cons_append, List.append_nil, List.getElem?_cons_zero, List.getElem?_cons_succ, Rs.of_some, Rs.bind_ok, Rs.bind_stuck, if_true, Bool.false_eq_true, if_false, List.set_cons_zero, List.set_cons_succ, Nat.zero_add, Nat.reduceAdd, Nat.reduceSub, add_ii, sub_ii, mul_2i, lt_ii, le_ii, gt_ii, ge_ii, len_ix, sorted_ix, sum_ix, eq_ix, ne_ix, turnE_one, turnC_one, turnC_b, turnL_one, reduceIte, Bool.not_true, Bool.not_false, Bool.true_eq_false, is_tt, isnot_tt, loopK_s, len_lit0]
    rw [idx_ix (by rw [isort_length, win_length]; omega)]
    simp only [exSs_cons, exSs_nil, seqK_next, seqK_ret, exS_set, exS_ret, exS_exp, exS_skip, exS_never, exS_iff, ifK_b, testM_eq, testK_b, exS_app, exS_par, exS_tset, tsetK_t, exS_loop, runK_next, runK_ret, evO, evF, freshX, esc, escs, frz, ev_var, ev_lit, ev_bin, ev_neg, negK_i, ev_not, notK_b, ev_and, andK_b, ev_or, orK_b, ev_ite, iteK_b, ev_chn, chnK_le, ev_list, ev_tup, ev_idx, ev_slc, ev_rev, revK_l, ev_blt, ev_isi, isiK_s, ev_call, ev_comp, ev_compC, evs_cons, evs_nil, getV, isiD, List.length_cons, List.length_nil, List.map_cons, List.map_nil, List.replicate, List.append_eq, List.nil_append, List.cons_append, List.append_nil, List.getElem?_cons_zero, List.getElem?_cons_succ, Rs.of_some, Rs.bind_ok, Rs.bind_stuck, if_true, Bool.false_eq_true, if_false, List.set_cons_zero, List.set_cons_succ, Nat.zero_add, Nat.reduceAdd, Nat.reduceSub, add_ii, sub_ii, mul_2i, lt_ii, le_ii, gt_ii, ge_ii, len_ix, sorted_ix, sum_ix, eq_ix, ne_ix, turnE_one, turnC_one, turnC_b, turnL_one, reduceIte, Bool.not_true, Bool.not_false, Bool.true_eq_false, is_tt, isnot_tt, loopK_s, len_lit0]
    rfl
end
end MR

namespace MR
open PySem L2
/-! ### is_int, is_row and the checks -/
def isTok : D → Bool
  | .dict _ => true
  | _ => false
def isIntB (lo hi : Int) : D → Bool
  | .int v => decide (lo ≤ v) && decide (v ≤ hi)
  | _ => false
def isIntD {T : Type} : List D → T → Rs T D
  | [d, .int lo, .int hi], s => if isTok d = true then .stuck else .ok (.bool (isIntB lo hi d)) s
  | _, _ => .stuck
/-- is it a row? -/
def rowB : D → Bool
  | .list ds => decide (1 ≤ ds.length) && decide (ds.length ≤ 12) && ds.all (isIntB 0 9)
  | _ => false
def noTok : D → Bool
  | .list ds => !ds.any isTok
  | .dict _ => false
  | _ => true
def isRowD {T : Type} : List D → T → Rs T D
  | [d], s => if noTok d = true then .ok (.bool (rowB d)) s else .stuck
  | _, _ => .stuck
theorem isIntB_row (row : List Int) : (ix row).all (isIntB 0 9) = decide (∀ x ∈ row, 0 ≤ x ∧ x ≤ 9) := by
  unfold ix
  rw [List.all_map]
  by_cases h : ∀ x ∈ row, 0 ≤ x ∧ x ≤ 9
  · rw [decide_eq_true h, List.all_eq_true]
    intro x hx
    have := h x hx
    simp only [Function.comp, isIntB, Bool.and_eq_true, decide_eq_true_eq]
    exact this
  · rw [decide_eq_false h, List.all_eq_false]
    simp only [Classical.not_forall] at h
    obtain ⟨x, hx, h⟩ := h
    refine ⟨x, hx, ?_⟩
    simp only [Function.comp, isIntB, Bool.and_eq_true, decide_eq_true_eq]
    exact h
theorem rowB_ix (row : List Int) : rowB (.list (ix row)) = decide (isRow row) := by
  simp only [rowB, ix_length, isIntB_row]
  unfold isRow
  by_cases h1 : 1 ≤ row.length <;> by_cases h2 : row.length ≤ 12 <;> simp [h1, h2]
theorem noTok_ix (row : List Int) : noTok (.list (ix row)) = true := by
  simp only [noTok, Bool.not_eq_true']
  rw [List.any_eq_false]
  intro d hd
  unfold ix at hd
  obtain ⟨x, _, rfl⟩ := List.mem_map.mp hd
  simp [isTok]
section
variable {T : Type} {TB : Tab T} {r : MRho} {s : T}
theorem isRowD_ix (row : List Int) : isRowD [.list (ix row)] s = .ok (.bool (decide (isRow row))) s := by
  simp only [isRowD, noTok_ix, if_true, rowB_ix]
theorem isIntD_i (v lo hi : Int) : isIntD [.int v, .int lo, .int hi] s = .ok (.bool (decide (lo ≤ v) && decide (v ≤ hi))) s := by
  simp only [isIntD, isTok, Bool.false_eq_true, if_false, isIntB]
def code_is_int : List Cm := [.ret (.and (.isi .int (.var 0)) (.and (.not (.isi .bool (.var 0))) (.chn .le .le (.var 1) (.var 0) (.var 2))))]
theorem run_is_int : ∀ (ds : List D) (s : T), ds.length = 3 → isIntD ds s ≠ .stuck → runD TB 3 code_is_int ds s = isIntD ds s := by
  intro ds s hlen h
  unfold isIntD at h
  split at h
  · rename_i d lo hi
    split at h
    · exact absurd rfl h
    · rename_i ht
      rw [runD_eq]
      cases d with
      | int v =>
        rw [isIntD_i]
        simp only [code_is_int, exSs_cons, exSs_nil, seqK_next, seqK_ret, exS_set, exS_ret, exS_exp, exS_skip, exS_never, exS_iff, ifK_b, testM_eq, testK_b, exS_app, exS_par, exS_tset, tsetK_t, exS_loop, runK_next, runK_ret, evO, evF, freshX, esc, escs, frz, ev_var, ev_lit, ev_bin, ev_neg, negK_i, ev_not, notK_b, ev_and, andK_b, ev_or, orK_b, ev_ite, iteK_b, ev_chn, chnK_le, ev_list, ev_tup, ev_idx, ev_slc, ev_rev, revK_l, ev_blt, ev_isi, isiK_s, ev_call, ev_comp, ev_compC, evs_cons, evs_nil, getV, isiD, List.length_cons, List.length_nil, List.map_cons, List.map_nil, List.replicate, List.append_eq, List.nil_append, List.cons_append, List.append_nil, List.getElem?_cons_zero, List.getElem?_cons_succ, Rs.of_some, Rs.bind_ok, Rs.bind_stuck, if_true, Bool.false_eq_true, if_false, List.set_cons_zero, List.set_cons_succ, Nat.zero_add, Nat.reduceAdd, Nat.reduceSub, add_ii, sub_ii, mul_2i, lt_ii, le_ii, gt_ii, ge_ii, len_ix, sorted_ix, sum_ix, eq_ix, ne_ix, turnE_one, turnC_one, turnC_b, turnL_one, reduceIte, Bool.not_true, Bool.not_false, Bool.true_eq_false, is_tt, isnot_tt, loopK_s, len_lit0]
        by_cases h1 : lo ≤ v <;> by_cases h2 : v ≤ hi <;> simp [h1, h2, exSs_cons, exSs_nil, seqK_next, seqK_ret, exS_set, exS_ret, exS_exp, exS_skip, exS_never, exS_iff, ifK_b, testM_eq, testK_b, exS_app, exS_par, exS_tset, tsetK_t, exS_loop, runK_next, runK_ret, evO, evF, freshX, esc, escs, frz, ev_var, ev_lit, ev_bin, ev_neg, negK_i, ev_not, notK_b, ev_and, andK_b, ev_or, orK_b, ev_ite, iteK_b, ev_chn, chnK_le, ev_list, ev_tup, ev_idx, ev_slc, ev_rev, revK_l, ev_blt, ev_isi, isiK_s, ev_call, ev_comp, ev_compC, evs_cons, evs_nil, getV, isiD, List.length_cons, List.length_nil, List.map_cons, List.map_nil, List.replicate, List.append_eq, List.nil_append, List.cons_append, List.append_nil, List.getElem?_cons_zero, List.getElem?_cons_succ, Rs.of_some, Rs.bind_ok, Rs.bind_stuck, if_true, Bool.false_eq_true, if_false, List.set_cons_zero, List.set_cons_succ, Nat.zero_add, Nat.reduceAdd, Nat.reduceSub, add_ii, sub_ii, mul_2i, lt_ii, le_ii, gt_ii, ge_ii, len_ix, sorted_ix, sum_ix, eq_ix, ne_ix, turnE_one, turnC_one, turnC_b, turnL_one, reduceIte, Bool.not_true, Bool.not_false, Bool.true_eq_false, is_tt, isnot_tt, loopK_s, len_lit0]
      | dict x => exact absurd rfl ht
      | _ => simp only [code_is_int, isIntD, isTok, isIntB, exSs_cons, exSs_nil, seqK_next, seqK_ret, exS_set, exS_ret, exS_exp, exS_skip, exS_never, exS_iff, ifK_b, testM_eq, testK_b, exS_app, exS_par, exS_tset, tsetK_t, exS_loop, runK_next, runK_ret, evO, evF, freshX, esc, escs, frz, ev_var, ev_lit, ev_bin, ev_neg, negK_i, ev_not, notK_b, ev_and, andK_b, ev_or, orK_b, ev_ite, iteK_b, ev_chn, chnK_le, ev_list, ev_tup, ev_idx, ev_slc, ev_rev, revK_l, ev_blt, ev_isi, isiK_s, ev_call, ev_comp, ev_compC, evs_cons, evs_nil, getV, isiD, List.length_cons, List.length_nil, List.map_cons, List.map_nil, List.replicate, List.append_eq, List.nil_append, List.cons_append, List.append_nil, List.getElem?_cons_zero, List.getElem?_cons_succ, Rs.of_some, Rs.bind_ok, Rs.bind_stuck, if_true, Bool.false_eq_true, if_false, List.set_cons_zero, List.set_cons_succ, Nat.zero_add, Nat.reduceAdd, Nat.reduceSub, add_ii, sub_ii, mul_2i, lt_ii, le_ii, gt_ii, ge_ii, len_ix, sorted_ix, sum_ix, eq_ix, ne_ix, turnE_one, turnC_one, turnC_b, turnL_one, reduceIte, Bool.not_true, Bool.not_false, Bool.true_eq_false, is_tt, isnot_tt, loopK_s, len_lit0]
  · exact absurd rfl h
def code_is_row : List Cm := [.iff (.or (.not (.isi .list (.var 0))) (.not (.chn .le .le (.lit (.int 1)) (.blt .len [.var 0]) (.lit (.int 12))))) [.ret (.lit (.bool false))] [], .ret (.blt .all [.comp (.call 0 [.var 1, .lit (.int 0), .lit (.int 9)]) (.one 1) .seq [.var 0] none])]
theorem compM_bools {f : D → T → Rs T (Option D)} {g : D → Bool} : ∀ {ds : List D}, (∀ d ∈ ds, f d s = .ok (some (.bool (g d))) s) → compM f ds s = .ok ((ds.map g).map PyData.bool) s
  | [], _ => rfl
  | d :: ds, h => by
    simp only [compM]
    rw [h d List.mem_cons_self]
    simp only [Rs.bind_ok]
    rw [compM_bools (ds := ds) fun e he => h e (List.mem_cons_of_mem _ he)]
    rfl
theorem all_bools (bs : List Bool) : bltD .all [.list (bs.map PyData.bool)] = some (.bool (bs.all id)) := by
  simp only [bltD, boolsOf_map]
theorem any_bools (bs : List Bool) : bltD .any [.list (bs.map PyData.bool)] = some (.bool (bs.any id)) := by
  simp only [bltD, boolsOf_map]
theorem len_list (xs : List D) : bltD .len [.list xs] = some (.int (xs.length : Int)) := by simp only [bltD]
theorem run_is_row (h0a : TB.ar 0 = 3) (h0 : TB.F 0 = isIntD) : ∀ (ds : List D) (s : T), ds.length = 1 → isRowD ds s ≠ .stuck → runD TB 2 code_is_row ds s = isRowD ds s := by
  intro ds s hlen h
  unfold isRowD at h
  split at h
  · rename_i d
    split at h
    · rename_i ht
      rw [runD_eq, isRowD, if_pos ht]
      cases d with
      | dict x => cases ht
      | list xs =>
        simp only [code_is_row, len_list, exSs_cons, exSs_nil, seqK_next, seqK_ret, exS_set, exS_ret, exS_exp, exS_skip, exS_never, exS_iff, ifK_b, testM_eq, testK_b, exS_app, exS_par, exS_tset, tsetK_t, exS_loop, runK_next, runK_ret, evO, evF, freshX, esc, escs, frz, ev_var, ev_lit, ev_bin, ev_neg, negK_i, ev_not, notK_b, ev_and, andK_b, ev_or, orK_b, ev_ite, iteK_b, ev_chn, chnK_le, ev_list, ev_tup, ev_idx, ev_slc, ev_rev, revK_l, ev_blt, ev_isi, isiK_s, ev_call, ev_comp, ev_compC, evs_cons, evs_nil, getV, isiD, List.length_cons, List.length_nil, List.map_cons, List.map_nil, List.replicate, List.append_eq, List.nil_append, List.cons_append, List.append_nil, List.getElem?_cons_zero, List.getElem?_cons_succ, Rs.of_some, Rs.bind_ok, Rs.bind_stuck, if_true, Bool.false_eq_true, if_false, List.set_cons_zero, List.set_cons_succ, Nat.zero_add, Nat.reduceAdd, Nat.reduceSub, add_ii, sub_ii, mul_2i, lt_ii, le_ii, gt_ii, ge_ii, len_ix, sorted_ix, sum_ix, eq_ix, ne_ix, turnE_one, turnC_one, turnC_b, turnL_one, reduceIte, Bool.not_true, Bool.not_false, Bool.true_eq_false, is_tt, isnot_tt, loopK_s, len_lit0]
        by_cases h1 : 1 ≤ xs.length
        · have h1' : (1 : Int) ≤ (xs.length : Int) := by omega
          by_cases h2 : xs.length ≤ 12
          · have h2' : (xs.length : Int) ≤ 12 := by omega
            simp only [h1', h2', decide_true, exSs_cons, exSs_nil, seqK_next, seqK_ret, exS_set, exS_ret, exS_exp, exS_skip, exS_never, exS_iff, ifK_b, testM_eq, testK_b, exS_app, exS_par, exS_tset, tsetK_t, exS_loop, runK_next, runK_ret, evO, evF, freshX, esc, escs, frz, ev_var, ev_lit, ev_bin, ev_neg, negK_i, ev_not, notK_b, ev_and, andK_b, ev_or, orK_b, ev_ite, iteK_b, ev_chn, chnK_le, ev_list, ev_tup, ev_idx, ev_slc, ev_rev, revK_l, ev_blt, ev_isi, isiK_s, ev_call, ev_comp, ev_compC, evs_cons, evs_nil, getV, isiD, List.length_cons, List.length_nil, List.map_cons, List.map_nil, List.replicate, List.append_eq, List.nil_append, List.cons_append, List.append_nil, List.getElem?_cons_zero, List.getElem?_cons_succ, Rs.of_some, Rs.bind_ok, Rs.bind_stuck, if_true, Bool.false_eq_true, if_false, List.set_cons_zero, List.set_cons_succ, Nat.zero_add, Nat.reduceAdd, Nat.reduceSub, add_ii, sub_ii, mul_2i, lt_ii, le_ii, gt_ii, ge_ii, len_ix, sorted_ix, sum_ix, eq_ix, ne_ix, turnE_one, turnC_one, turnC_b, turnL_one, reduceIte, Bool.not_true, Bool.not_false, Bool.true_eq_false, is_tt, isnot_tt, loopK_s, len_lit0]
            rw [compF_of (ss := [.list xs]) (ds := xs) (l := (xs.map (isIntB 0 9)).map PyData.bool) (by simp only [exSs_cons, exSs_nil, seqK_next, seqK_ret, exS_set, exS_ret, exS_exp, exS_skip, exS_never, exS_iff, ifK_b, testM_eq, testK_b, exS_app, exS_par, exS_tset, tsetK_t, exS_loop, runK_next, runK_ret, evO, evF, freshX, esc, escs, frz, ev_var, ev_lit, ev_bin, ev_neg, negK_i, ev_not, notK_b, ev_and, andK_b, ev_or, orK_b, ev_ite, iteK_b, ev_chn, chnK_le, ev_list, ev_tup, ev_idx, ev_slc, ev_rev, revK_l, ev_blt, ev_isi, isiK_s, ev_call, ev_comp, ev_compC, evs_cons, evs_nil, getV, isiD, List.length_cons, List.length_nil, List.map_cons, List.map_nil, List.replicate, List.append_eq, List.nil_append, List.cons_append, List.append_nil, List.getElem?_cons_zero, List.getElem?_cons_succ, Rs.of_some, Rs.bind_ok, Rs.bind_stuck, if_true, Bool.false_eq_true, if_false, List.set_cons_zero, List.set_cons_succ, Nat.zero_add, Nat.reduceAdd, Nat.reduceSub, add_ii, sub_ii, mul_2i, lt_ii, le_ii, gt_ii, ge_ii, len_ix, sorted_ix, sum_ix, eq_ix, ne_ix, turnE_one, turnC_one, turnC_b, turnL_one, reduceIte, Bool.not_true, Bool.not_false, Bool.true_eq_false, is_tt, isnot_tt, loopK_s, len_lit0]) rfl (lim_ok (by omega)) (compM_bools fun d hd => ?_)]
            · simp only [all_bools, rowB, h1, h2, decide_true, Bool.true_and, exSs_cons, exSs_nil, seqK_next, seqK_ret, exS_set, exS_ret, exS_exp, exS_skip, exS_never, exS_iff, ifK_b, testM_eq, testK_b, exS_app, exS_par, exS_tset, tsetK_t, exS_loop, runK_next, runK_ret, evO, evF, freshX, esc, escs, frz, ev_var, ev_lit, ev_bin, ev_neg, negK_i, ev_not, notK_b, ev_and, andK_b, ev_or, orK_b, ev_ite, iteK_b, ev_chn, chnK_le, ev_list, ev_tup, ev_idx, ev_slc, ev_rev, revK_l, ev_blt, ev_isi, isiK_s, ev_call, ev_comp, ev_compC, evs_cons, evs_nil, getV, isiD, List.length_cons, List.length_nil, List.map_cons, List.map_nil, List.replicate, List.append_eq, List.nil_append, List.cons_append, List.append_nil, List.getElem?_cons_zero, List.getElem?_cons_succ, Rs.of_some, Rs.bind_ok, Rs.bind_stuck, if_true, Bool.false_eq_true, if_false, List.set_cons_zero, List.set_cons_succ, Nat.zero_add, Nat.reduceAdd, Nat.reduceSub, add_ii, sub_ii, mul_2i, lt_ii, le_ii, gt_ii, ge_ii, len_ix, sorted_ix, sum_ix, eq_ix, ne_ix, turnE_one, turnC_one, turnC_b, turnL_one, reduceIte, Bool.not_true, Bool.not_false, Bool.true_eq_false, is_tt, isnot_tt, loopK_s, len_lit0]
              congr 2
              induction xs with
              | nil => rfl
              | cons y ys ih => simp [List.all_cons]
            · have hd' : isTok d = false := by
                have q : (!xs.any isTok) = true := ht
                rw [Bool.not_eq_true', List.any_eq_false] at q
                simpa using q d hd
              simp only [h0a, h0, isIntD, hd', exSs_cons, exSs_nil, seqK_next, seqK_ret, exS_set, exS_ret, exS_exp, exS_skip, exS_never, exS_iff, ifK_b, testM_eq, testK_b, exS_app, exS_par, exS_tset, tsetK_t, exS_loop, runK_next, runK_ret, evO, evF, freshX, esc, escs, frz, ev_var, ev_lit, ev_bin, ev_neg, negK_i, ev_not, notK_b, ev_and, andK_b, ev_or, orK_b, ev_ite, iteK_b, ev_chn, chnK_le, ev_list, ev_tup, ev_idx, ev_slc, ev_rev, revK_l, ev_blt, ev_isi, isiK_s, ev_call, ev_comp, ev_compC, evs_cons, evs_nil, getV, isiD, List.length_cons, List.length_nil, List.map_cons, List.map_nil, List.replicate, List.append_eq, List.nil_append, List.cons_append, List.append_nil, List.getElem?_cons_zero, List.getElem?_cons_succ, Rs.of_some, Rs.bind_ok, Rs.bind_stuck, if_true, Bool.false_eq_true, if_false, List.set_cons_zero, List.set_cons_succ, Nat.zero_add, Nat.reduceAdd, Nat.reduceSub, add_ii, sub_ii, mul_2i, lt_ii, le_ii, gt_ii, ge_ii, len_ix, sorted_ix, sum_ix, eq_ix, ne_ix, turnE_one, turnC_one, turnC_b, turnL_one, reduceIte, Bool.not_true, Bool.not_false, Bool.true_eq_false, is_tt, isnot_tt, loopK_s, len_lit0]
          · have h2' : ¬ (xs.length : Int) ≤ 12 := by omega
            simp only [h1', h2', decide_true, decide_false, rowB, h1, h2, Bool.and_false, Bool.false_and, Bool.true_and, exSs_cons, exSs_nil, seqK_next, seqK_ret, exS_set, exS_ret, exS_exp, exS_skip, exS_never, exS_iff, ifK_b, testM_eq, testK_b, exS_app, exS_par, exS_tset, tsetK_t, exS_loop, runK_next, runK_ret, evO, evF, freshX, esc, escs, frz, ev_var, ev_lit, ev_bin, ev_neg, negK_i, ev_not, notK_b, ev_and, andK_b, ev_or, orK_b, ev_ite, iteK_b, ev_chn, chnK_le, ev_list, ev_tup, ev_idx, ev_slc, ev_rev, revK_l, ev_blt, ev_isi, isiK_s, ev_call, ev_comp, ev_compC, evs_cons, evs_nil, getV, isiD, List.length_cons, List.length_nil, List.map_cons, List.map_nil, List.replicate, List.append_eq, List.nil_append, List.cons_append, List.append_nil, List.getElem?_cons_zero, List.getElem?_cons_succ, Rs.of_some, Rs.bind_ok, Rs.bind_stuck, if_true, Bool.false_eq_true, if_false, List.set_cons_zero, List.set_cons_succ, Nat.zero_add, Nat.reduceAdd, Nat.reduceSub, add_ii, sub_ii, mul_2i, lt_ii, le_ii, gt_ii, ge_ii, len_ix, sorted_ix, sum_ix, eq_ix, ne_ix, turnE_one, turnC_one, turnC_b, turnL_one, reduceIte, Bool.not_true, Bool.not_false, Bool.true_eq_false, is_tt, isnot_tt, loopK_s, len_lit0]
        · have h1' : ¬ (1 : Int) ≤ (xs.length : Int) := by omega
          simp only [h1', rowB, h1, decide_false, Bool.false_and, exSs_cons, exSs_nil, seqK_next, seqK_ret, exS_set, exS_ret, exS_exp, exS_skip, exS_never, exS_iff, ifK_b, testM_eq, testK_b, exS_app, exS_par, exS_tset, tsetK_t, exS_loop, runK_next, runK_ret, evO, evF, freshX, esc, escs, frz, ev_var, ev_lit, ev_bin, ev_neg, negK_i, ev_not, notK_b, ev_and, andK_b, ev_or, orK_b, ev_ite, iteK_b, ev_chn, chnK_le, ev_list, ev_tup, ev_idx, ev_slc, ev_rev, revK_l, ev_blt, ev_isi, isiK_s, ev_call, ev_comp, ev_compC, evs_cons, evs_nil, getV, isiD, List.length_cons, List.length_nil, List.map_cons, List.map_nil, List.replicate, List.append_eq, List.nil_append, List.cons_append, List.append_nil, List.getElem?_cons_zero, List.getElem?_cons_succ, Rs.of_some, Rs.bind_ok, Rs.bind_stuck, if_true, Bool.false_eq_true, if_false, List.set_cons_zero, List.set_cons_succ, Nat.zero_add, Nat.reduceAdd, Nat.reduceSub, add_ii, sub_ii, mul_2i, lt_ii, le_ii, gt_ii, ge_ii, len_ix, sorted_ix, sum_ix, eq_ix, ne_ix, turnE_one, turnC_one, turnC_b, turnL_one, reduceIte, Bool.not_true, Bool.not_false, Bool.true_eq_false, is_tt, isnot_tt, loopK_s, len_lit0]
      | _ => simp only [code_is_row, rowB, exSs_cons, exSs_nil, seqK_next, seqK_ret, exS_set, exS_ret, exS_exp, exS_skip, exS_never, exS_iff, ifK_b, testM_eq, testK_b, exS_app, exS_par, exS_tset, tsetK_t, exS_loop, runK_next, runK_ret, evO, evF, freshX, esc, escs, frz, ev_var, ev_lit, ev_bin, ev_neg, negK_i, ev_not, notK_b, ev_and, andK_b, ev_or, orK_b, ev_ite, iteK_b, ev_chn, chnK_le, ev_list, ev_tup, ev_idx, ev_slc, ev_rev, revK_l, ev_blt, ev_isi, isiK_s, ev_call, ev_comp, ev_compC, evs_cons, evs_nil, getV, isiD, List.length_cons, List.length_nil, List.map_cons, List.map_nil, List.replicate, List.append_eq, List.nil_append, List.cons_append, List.append_nil, List.getElem?_cons_zero, List.getElem?_cons_succ, Rs.of_some, Rs.bind_ok, Rs.bind_stuck, if_true, Bool.false_eq_true, if_false, List.set_cons_zero, List.set_cons_succ, Nat.zero_add, Nat.reduceAdd, Nat.reduceSub, add_ii, sub_ii, mul_2i, lt_ii, le_ii, gt_ii, ge_ii, len_ix, sorted_ix, sum_ix, eq_ix, ne_ix, turnE_one, turnC_one, turnC_b, turnL_one, reduceIte, Bool.not_true, Bool.not_false, Bool.true_eq_false, is_tt, isnot_tt, loopK_s, len_lit0]
    · exact absurd rfl h
  · exact absurd rfl h
end
end MR

namespace MR
open PySem L2
section
variable {T : Type} {TB : Tab T} {r : MRho} {s : T}
/-- check_row, check_radius, check_both of good arguments -/
def checkRowD {T : Type} : List D → T → Rs T D
  | [d], s => if noTok d = true ∧ rowB d = true then .ok .none s else .stuck
  | _, _ => .stuck
def checkRadD {T : Type} : List D → T → Rs T D
  | [.int k], s => if 1 ≤ k ∧ k ≤ 3 then .ok .none s else .stuck
  | _, _ => .stuck
def checkBothD {T : Type} : List D → T → Rs T D := onRK isRow fun _ _ => .none
theorem checkRowD_ix {row : List Int} (h : isRow row) : checkRowD [.list (ix row)] s = .ok .none s := by
  simp only [checkRowD, noTok_ix, rowB_ix, decide_eq_true h, and_self, if_true]
theorem checkRadD_i {k : Nat} (h1 : 1 ≤ k) (h2 : k ≤ 3) : checkRadD [.int (k : Int)] s = .ok .none s := by
  simp only [checkRadD]
  rw [if_pos (by omega)]
def code_check_row : List Cm := [.iff (.not (.call 1 [.var 0])) [.never] []]
theorem run_check_row (ha : TB.ar 1 = 1) (h1 : TB.F 1 = isRowD) : ∀ (ds : List D) (s : T), ds.length = 1 → checkRowD ds s ≠ .stuck → runD TB 1 code_check_row ds s = checkRowD ds s := by
  intro ds s hlen h
  unfold checkRowD at h
  split at h
  · rename_i d
    split at h
    · rename_i hc
      rw [runD_eq]
      simp only [code_check_row, ha, h1, isRowD, checkRowD, hc.1, hc.2, and_self, exSs_cons, exSs_nil, seqK_next, seqK_ret, exS_set, exS_ret, exS_exp, exS_skip, exS_never, exS_iff, ifK_b, testM_eq, testK_b, exS_app, exS_par, exS_tset, tsetK_t, exS_loop, runK_next, runK_ret, evO, evF, freshX, esc, escs, frz, ev_var, ev_lit, ev_bin, ev_neg, negK_i, ev_not, notK_b, ev_and, andK_b, ev_or, orK_b, ev_ite, iteK_b, ev_chn, chnK_le, ev_list, ev_tup, ev_idx, ev_slc, ev_rev, revK_l, ev_blt, ev_isi, isiK_s, ev_call, ev_comp, ev_compC, evs_cons, evs_nil, getV, isiD, List.length_cons, List.length_nil, List.map_cons, List.map_nil, List.replicate, List.append_eq, List.nil_append, List.cons_append, List.append_nil, List.getElem?_cons_zero, List.getElem?_cons_succ, Rs.of_some, Rs.bind_ok, Rs.bind_stuck, if_true, Bool.false_eq_true, if_false, List.set_cons_zero, List.set_cons_succ, Nat.zero_add, Nat.reduceAdd, Nat.reduceSub, add_ii, sub_ii, mul_2i, lt_ii, le_ii, gt_ii, ge_ii, len_ix, sorted_ix, sum_ix, eq_ix, ne_ix, turnE_one, turnC_one, turnC_b, turnL_one, reduceIte, Bool.not_true, Bool.not_false, Bool.true_eq_false, is_tt, isnot_tt, loopK_s, len_lit0]
    · exact absurd rfl h
  · exact absurd rfl h
def code_check_radius : List Cm := [.iff (.not (.call 0 [.var 0, .lit (.int 1), .lit (.int 3)])) [.never] []]
theorem run_check_radius (ha : TB.ar 0 = 3) (h0 : TB.F 0 = isIntD) : ∀ (ds : List D) (s : T), ds.length = 1 → checkRadD ds s ≠ .stuck → runD TB 1 code_check_radius ds s = checkRadD ds s := by
  intro ds s hlen h
  unfold checkRadD at h
  split at h
  · rename_i k
    split at h
    · rename_i hc
      rw [runD_eq]
      simp only [code_check_radius, ha, h0, isIntD_i, checkRadD, hc.1, hc.2, and_self, decide_true, Bool.and_self, exSs_cons, exSs_nil, seqK_next, seqK_ret, exS_set, exS_ret, exS_exp, exS_skip, exS_never, exS_iff, ifK_b, testM_eq, testK_b, exS_app, exS_par, exS_tset, tsetK_t, exS_loop, runK_next, runK_ret, evO, evF, freshX, esc, escs, frz, ev_var, ev_lit, ev_bin, ev_neg, negK_i, ev_not, notK_b, ev_and, andK_b, ev_or, orK_b, ev_ite, iteK_b, ev_chn, chnK_le, ev_list, ev_tup, ev_idx, ev_slc, ev_rev, revK_l, ev_blt, ev_isi, isiK_s, ev_call, ev_comp, ev_compC, evs_cons, evs_nil, getV, isiD, List.length_cons, List.length_nil, List.map_cons, List.map_nil, List.replicate, List.append_eq, List.nil_append, List.cons_append, List.append_nil, List.getElem?_cons_zero, List.getElem?_cons_succ, Rs.of_some, Rs.bind_ok, Rs.bind_stuck, if_true, Bool.false_eq_true, if_false, List.set_cons_zero, List.set_cons_succ, Nat.zero_add, Nat.reduceAdd, Nat.reduceSub, add_ii, sub_ii, mul_2i, lt_ii, le_ii, gt_ii, ge_ii, len_ix, sorted_ix, sum_ix, eq_ix, ne_ix, turnE_one, turnC_one, turnC_b, turnL_one, reduceIte, Bool.not_true, Bool.not_false, Bool.true_eq_false, is_tt, isnot_tt, loopK_s, len_lit0]
    · exact absurd rfl h
  · exact absurd rfl h
def code_check_both : List Cm := [.exp (.call 2 [.var 0]), .exp (.call 3 [.var 1])]
theorem run_check_both (h2a : TB.ar 2 = 1) (h2 : TB.F 2 = checkRowD) (h3a : TB.ar 3 = 1) (h3 : TB.F 3 = checkRadD) : ∀ (ds : List D) (s : T), ds.length = 2 → checkBothD ds s ≠ .stuck → runD TB 2 code_check_both ds s = checkBothD ds s := by
  intro ds s hlen h
  obtain ⟨row, k, rfl, hp, k1, k3, e⟩ := onRK_inv h
  rw [show checkBothD [.list (ix row), .int (k : Int)] s = _ from e, runD_eq]
  simp only [code_check_both, h2a, h2, h3a, h3, checkRowD_ix hp, checkRadD_i k1 k3, exSs_cons, exSs_nil, seqK_next, seqK_ret, exS_set, exS_ret, exS_exp, exS_skip, exS_never, exS_iff, ifK_b, testM_eq, testK_b, exS_app, exS_par, exS_tset, tsetK_t, exS_loop, runK_next, runK_ret, evO, evF, freshX, esc, escs, frz, ev_var, ev_lit, ev_bin, ev_neg, negK_i, ev_not, notK_b, ev_and, andK_b, ev_or, orK_b, ev_ite, iteK_b, ev_chn, chnK_le, ev_list, ev_tup, ev_idx, ev_slc, ev_rev, revK_l, ev_blt, ev_isi, isiK_s, ev_call, ev_comp, ev_compC, evs_cons, evs_nil, getV, isiD, List.length_cons, List.length_nil, List.map_cons, List.map_nil, List.replicate, List.append_eq, List.nil_append, List.cons_append, List.append_nil, List.getElem?_cons_zero, List.getElem?_cons_succ, Rs.of_some, Rs.bind_ok, Rs.bind_stuck, if_true, Bool.false_eq_true, if_false, List.set_cons_zero, List.set_cons_succ, Nat.zero_add, Nat.reduceAdd, Nat.reduceSub, add_ii, sub_ii, mul_2i, lt_ii, le_ii, gt_ii, ge_ii, len_ix, sorted_ix, sum_ix, eq_ix, ne_ix, turnE_one, turnC_one, turnC_b, turnL_one, reduceIte, Bool.not_true, Bool.not_false, Bool.true_eq_false, is_tt, isnot_tt, loopK_s, len_lit0]
theorem checkBothD_eq {row : List Int} {k : Nat} (hp : isRow row) (k1 : 1 ≤ k) (k3 : k ≤ 3) : checkBothD [.list (ix row), .int (k : Int)] s = .ok .none s := onRK_eq hp k1 k3
/-! ### longer -/
theorem idx_first {row : List Int} (h : row ≠ []) : idxD (.list (ix row)) (.int 0) = some (.int (near row 0)) := by
  have hl : 0 < row.length := List.length_pos_iff.mpr h
  have e := idx_ix (xs := row) (j := 0) hl
  rw [show ((0 : Nat) : Int) = 0 from rfl] at e
  rw [e]
  unfold near
  have z : (min (max (0 : Int) 0) ((row.length : Int) - 1)).toNat = 0 := by omega
  rw [z]
theorem idx_last {row : List Int} (h : row ≠ []) : idxD (.list (ix row)) (.int (-1)) = some (.int (near row ((row.length : Int) - 1))) := by
  have hl : 0 < row.length := List.length_pos_iff.mpr h
  simp only [idxD]
  rw [atI_ix]
  have e : ixN row.length (-1) = some (row.length - 1) := by
    unfold ixN
    rw [if_neg (by decide), if_pos (by omega)]
    congr 1
    omega
  unfold atI
  rw [e]
  unfold near
  have z : (min (max ((row.length : Int) - 1) 0) ((row.length : Int) - 1)).toNat = row.length - 1 := by omega
  rw [z, List.getD_eq_getElem?_getD]
  simp only [Option.bind_some]
  rw [List.getElem?_eq_getElem (show row.length - 1 < row.length by omega)]
  rfl
theorem rep_one (x : Int) (k : Nat) (hk : k ≤ 1000) : opD .mul (.list [.int x]) (.int (k : Int)) = some (.list (ix (List.replicate k x))) := by
  simp only [opD]
  rw [if_pos ⟨by simp, by omega, by omega⟩, Int.toNat_natCast]
  have : ([PyData.int x] : List D) = ix [x] := rfl
  rw [this, flat_ix]
  congr 3
  induction k with
  | zero => rfl
  | succ n ih => rw [List.replicate_succ, List.replicate_succ, List.flatten_cons, ih (by omega)]; rfl
theorem cat_ix {xs ys : List Int} (h : xs.length + ys.length ≤ 1000) : opD .add (.list (ix xs)) (.list (ix ys)) = some (.list (ix (xs ++ ys))) := by
  simp only [opD]
  rw [if_pos (by rw [ix_length, ix_length]; exact lim_ok h), ix_append]
theorem one_lim : (1 : Nat) ≤ LIM := lim_ok (by omega)
theorem two_lim : (2 : Nat) ≤ LIM := lim_ok (by omega)
theorem three_lim : (3 : Nat) ≤ LIM := lim_ok (by omega)
theorem four_lim : (4 : Nat) ≤ LIM := lim_ok (by omega)
def code_longer : List Cm := [.ret (.bin .add (.bin .add (.bin .mul (.list [.idx (.var 0) (.lit (.int 0))]) (.var 1)) (.var 0)) (.bin .mul (.list [.idx (.var 0) (.neg (.lit (.int 1)))]) (.var 1)))]
theorem run_longer : ∀ (ds : List D) (s : T), ds.length = 2 → longerD ds s ≠ .stuck → runD TB 2 code_longer ds s = longerD ds s := by
  intro ds s hlen h
  obtain ⟨row, k, rfl, hp, k1, k3, e⟩ := onRK_inv h
  rw [show longerD [.list (ix row), .int (k : Int)] s = _ from e, runD_eq]
  have h0 := hp.1
  have h100 := hp.2
  simp only [code_longer, idx_first h0, idx_last h0, one_lim, rep_one _ k (by omega), exSs_cons, exSs_nil, seqK_next, seqK_ret, exS_set, exS_ret, exS_exp, exS_skip, exS_never, exS_iff, ifK_b, testM_eq, testK_b, exS_app, exS_par, exS_tset, tsetK_t, exS_loop, runK_next, runK_ret, evO, evF, freshX, esc, escs, frz, ev_var, ev_lit, ev_bin, ev_neg, negK_i, ev_not, notK_b, ev_and, andK_b, ev_or, orK_b, ev_ite, iteK_b, ev_chn, chnK_le, ev_list, ev_tup, ev_idx, ev_slc, ev_rev, revK_l, ev_blt, ev_isi, isiK_s, ev_call, ev_comp, ev_compC, evs_cons, evs_nil, getV, isiD, List.length_cons, List.length_nil, List.map_cons, List.map_nil, List.replicate, List.append_eq, List.nil_append, List.cons_append, List.append_nil, List.getElem?_cons_zero, List.getElem?_cons_succ, Rs.of_some, Rs.bind_ok, Rs.bind_stuck, if_true, Bool.false_eq_true, if_false, List.set_cons_zero, List.set_cons_succ, Nat.zero_add, Nat.reduceAdd, Nat.reduceSub, add_ii, sub_ii, mul_2i, lt_ii, le_ii, gt_ii, ge_ii, len_ix, sorted_ix, sum_ix, eq_ix, ne_ix, turnE_one, turnC_one, turnC_b, turnL_one, reduceIte, Bool.not_true, Bool.not_false, Bool.true_eq_false, is_tt, isnot_tt, loopK_s, len_lit0]
  rw [cat_ix (by rw [List.length_replicate]; omega)]
  simp only [exSs_cons, exSs_nil, seqK_next, seqK_ret, exS_set, exS_ret, exS_exp, exS_skip, exS_never, exS_iff, ifK_b, testM_eq, testK_b, exS_app, exS_par, exS_tset, tsetK_t, exS_loop, runK_next, runK_ret, evO, evF, freshX, esc, escs, frz, ev_var, ev_lit, ev_bin, ev_neg, negK_i, ev_not, notK_b, ev_and, andK_b, ev_or, orK_b, ev_ite, iteK_b, ev_chn, chnK_le, ev_list, ev_tup, ev_idx, ev_slc, ev_rev, revK_l, ev_blt, ev_isi, isiK_s, ev_call, ev_comp, ev_compC, evs_cons, evs_nil, getV, isiD, List.length_cons, List.length_nil, List.map_cons, List.map_nil, List.replicate, List.append_eq, List.nil_append, List.cons_append, List.append_nil, List.getElem?_cons_zero, List.getElem?_cons_succ, Rs.of_some, Rs.bind_ok, Rs.bind_stuck, if_true, Bool.false_eq_true, if_false, List.set_cons_zero, List.set_cons_succ, Nat.zero_add, Nat.reduceAdd, Nat.reduceSub, add_ii, sub_ii, mul_2i, lt_ii, le_ii, gt_ii, ge_ii, len_ix, sorted_ix, sum_ix, eq_ix, ne_ix, turnE_one, turnC_one, turnC_b, turnL_one, reduceIte, Bool.not_true, Bool.not_false, Bool.true_eq_false, is_tt, isnot_tt, loopK_s, len_lit0]
  rw [cat_ix (by rw [List.length_append, List.length_replicate, List.length_replicate]; omega)]
  rfl
def code_median_row : List Cm := [.exp (.call 4 [.var 0, .var 1]), .ret (.call 6 [.var 0, .var 1])]
def medianRowD {T : Type} : List D → T → Rs T D := onRK isRow fun row k => .list (ix (medianM row k))
theorem medianD_eq {row : List Int} {k : Nat} (hp : small row) (k1 : 1 ≤ k) (k3 : k ≤ 3) : medianD [.list (ix row), .int (k : Int)] s = .ok (.list (ix (medianM row k))) s := onRK_eq hp k1 k3
theorem run_median_row (h4a : TB.ar 4 = 2) (h4 : TB.F 4 = checkBothD) (h6a : TB.ar 6 = 2) (h6 : TB.F 6 = medianD) : ∀ (ds : List D) (s : T), ds.length = 2 → medianRowD ds s ≠ .stuck → runD TB 2 code_median_row ds s = medianRowD ds s := by
  intro ds s hlen h
  obtain ⟨row, k, rfl, hp, k1, k3, e⟩ := onRK_inv h
  rw [show medianRowD [.list (ix row), .int (k : Int)] s = _ from e, runD_eq]
  simp only [code_median_row, h4a, h4, h6a, h6, checkBothD_eq hp k1 k3, medianD_eq hp.small k1 k3, exSs_cons, exSs_nil, seqK_next, seqK_ret, exS_set, exS_ret, exS_exp, exS_skip, exS_never, exS_iff, ifK_b, testM_eq, testK_b, exS_app, exS_par, exS_tset, tsetK_t, exS_loop, runK_next, runK_ret, evO, evF, freshX, esc, escs, frz, ev_var, ev_lit, ev_bin, ev_neg, negK_i, ev_not, notK_b, ev_and, andK_b, ev_or, orK_b, ev_ite, iteK_b, ev_chn, chnK_le, ev_list, ev_tup, ev_idx, ev_slc, ev_rev, revK_l, ev_blt, ev_isi, isiK_s, ev_call, ev_comp, ev_compC, evs_cons, evs_nil, getV, isiD, List.length_cons, List.length_nil, List.map_cons, List.map_nil, List.replicate, List.append_eq, List.nil_append, List.cons_append, List.append_nil, List.getElem?_cons_zero, List.getElem?_cons_succ, Rs.of_some, Rs.bind_ok, Rs.bind_stuck, if_true, Bool.false_eq_true, if_false, List.set_cons_zero, List.set_cons_succ, Nat.zero_add, Nat.reduceAdd, Nat.reduceSub, add_ii, sub_ii, mul_2i, lt_ii, le_ii, gt_ii, ge_ii, len_ix, sorted_ix, sum_ix, eq_ix, ne_ix, turnE_one, turnC_one, turnC_b, turnL_one, reduceIte, Bool.not_true, Bool.not_false, Bool.true_eq_false, is_tt, isnot_tt, loopK_s, len_lit0]
def code_rank_row : List Cm := [.exp (.call 4 [.var 0, .var 1]), .iff (.not (.call 0 [.var 2, .lit (.int 0), .bin .mul (.lit (.int 2)) (.var 1)])) [.never] [], .set 3 (.call 5 [.var 0, .var 1]), .ret (.comp (.idx (.blt .sorted [.slc (.var 3) (.var 4) (.bin .add (.bin .add (.var 4) (.bin .mul (.lit (.int 2)) (.var 1))) (.lit (.int 1)))]) (.var 2)) (.one 4) .rng [.blt .len [.var 0]] none)]
def rankRowD {T : Type} : List D → T → Rs T D := onRKI isRow (fun k i => 0 ≤ i ∧ i ≤ 2 * (k : Int)) fun row k t => .list (ix (rankM row k t.toNat))
theorem run_rank_row (h0a : TB.ar 0 = 3) (h0 : TB.F 0 = isIntD) (h4a : TB.ar 4 = 2) (h4 : TB.F 4 = checkBothD) (h5a : TB.ar 5 = 2) (h5 : TB.F 5 = longerD) : ∀ (ds : List D) (s : T), ds.length = 3 → rankRowD ds s ≠ .stuck → runD TB 5 code_rank_row ds s = rankRowD ds s := by
  intro ds s hlen h
  obtain ⟨row, k, t, rfl, hp, k1, k3, ht, e⟩ := onRKI_inv h
  rw [show rankRowD [.list (ix row), .int (k : Int), .int t] s = _ from e, runD_eq]
  have h0' := hp.small.1
  have h100 := hp.small.2
  have hL : longerD [.list (ix row), .int (k : Int)] s = .ok (.list (ix (longerM row k))) s := onRK_eq hp.small k1 k3
  simp only [code_rank_row, h0a, h0, h4a, h4, h5a, h5, checkBothD_eq hp k1 k3, hL, isIntD_i, ht.1, ht.2, decide_true, Bool.and_self, exSs_cons, exSs_nil, seqK_next, seqK_ret, exS_set, exS_ret, exS_exp, exS_skip, exS_never, exS_iff, ifK_b, testM_eq, testK_b, exS_app, exS_par, exS_tset, tsetK_t, exS_loop, runK_next, runK_ret, evO, evF, freshX, esc, escs, frz, ev_var, ev_lit, ev_bin, ev_neg, negK_i, ev_not, notK_b, ev_and, andK_b, ev_or, orK_b, ev_ite, iteK_b, ev_chn, chnK_le, ev_list, ev_tup, ev_idx, ev_slc, ev_rev, revK_l, ev_blt, ev_isi, isiK_s, ev_call, ev_comp, ev_compC, evs_cons, evs_nil, getV, isiD, List.length_cons, List.length_nil, List.map_cons, List.map_nil, List.replicate, List.append_eq, List.nil_append, List.cons_append, List.append_nil, List.getElem?_cons_zero, List.getElem?_cons_succ, Rs.of_some, Rs.bind_ok, Rs.bind_stuck, if_true, Bool.false_eq_true, if_false, List.set_cons_zero, List.set_cons_succ, Nat.zero_add, Nat.reduceAdd, Nat.reduceSub, add_ii, sub_ii, mul_2i, lt_ii, le_ii, gt_ii, ge_ii, len_ix, sorted_ix, sum_ix, eq_ix, ne_ix, turnE_one, turnC_one, turnC_b, turnL_one, reduceIte, Bool.not_true, Bool.not_false, Bool.true_eq_false, is_tt, isnot_tt, loopK_s, len_lit0]
  rw [run_ranks (k := k) (t := t.toNat) h0' h100 (by simp only [exSs_cons, exSs_nil, seqK_next, seqK_ret, exS_set, exS_ret, exS_exp, exS_skip, exS_never, exS_iff, ifK_b, testM_eq, testK_b, exS_app, exS_par, exS_tset, tsetK_t, exS_loop, runK_next, runK_ret, evO, evF, freshX, esc, escs, frz, ev_var, ev_lit, ev_bin, ev_neg, negK_i, ev_not, notK_b, ev_and, andK_b, ev_or, orK_b, ev_ite, iteK_b, ev_chn, chnK_le, ev_list, ev_tup, ev_idx, ev_slc, ev_rev, revK_l, ev_blt, ev_isi, isiK_s, ev_call, ev_comp, ev_compC, evs_cons, evs_nil, getV, isiD, List.length_cons, List.length_nil, List.map_cons, List.map_nil, List.replicate, List.append_eq, List.nil_append, List.cons_append, List.append_nil, List.getElem?_cons_zero, List.getElem?_cons_succ, Rs.of_some, Rs.bind_ok, Rs.bind_stuck, if_true, Bool.false_eq_true, if_false, List.set_cons_zero, List.set_cons_succ, Nat.zero_add, Nat.reduceAdd, Nat.reduceSub, add_ii, sub_ii, mul_2i, lt_ii, le_ii, gt_ii, ge_ii, len_ix, sorted_ix, sum_ix, eq_ix, ne_ix, turnE_one, turnC_one, turnC_b, turnL_one, reduceIte, Bool.not_true, Bool.not_false, Bool.true_eq_false, is_tt, isnot_tt, loopK_s, len_lit0]) ?_]
  · simp only [exSs_cons, exSs_nil, seqK_next, seqK_ret, exS_set, exS_ret, exS_exp, exS_skip, exS_never, exS_iff, ifK_b, testM_eq, testK_b, exS_app, exS_par, exS_tset, tsetK_t, exS_loop, runK_next, runK_ret, evO, evF, freshX, esc, escs, frz, ev_var, ev_lit, ev_bin, ev_neg, negK_i, ev_not, notK_b, ev_and, andK_b, ev_or, orK_b, ev_ite, iteK_b, ev_chn, chnK_le, ev_list, ev_tup, ev_idx, ev_slc, ev_rev, revK_l, ev_blt, ev_isi, isiK_s, ev_call, ev_comp, ev_compC, evs_cons, evs_nil, getV, isiD, List.length_cons, List.length_nil, List.map_cons, List.map_nil, List.replicate, List.append_eq, List.nil_append, List.cons_append, List.append_nil, List.getElem?_cons_zero, List.getElem?_cons_succ, Rs.of_some, Rs.bind_ok, Rs.bind_stuck, if_true, Bool.false_eq_true, if_false, List.set_cons_zero, List.set_cons_succ, Nat.zero_add, Nat.reduceAdd, Nat.reduceSub, add_ii, sub_ii, mul_2i, lt_ii, le_ii, gt_ii, ge_ii, len_ix, sorted_ix, sum_ix, eq_ix, ne_ix, turnE_one, turnC_one, turnC_b, turnL_one, reduceIte, Bool.not_true, Bool.not_false, Bool.true_eq_false, is_tt, isnot_tt, loopK_s, len_lit0]
  · intro i hi
    simp only [exSs_cons, exSs_nil, seqK_next, seqK_ret, exS_set, exS_ret, exS_exp, exS_skip, exS_never, exS_iff, ifK_b, testM_eq, testK_b, exS_app, exS_par, exS_tset, tsetK_t, exS_loop, runK_next, runK_ret, evO, evF, freshX, esc, escs, frz, ev_var, ev_lit, ev_bin, ev_neg, negK_i, ev_not, notK_b, ev_and, andK_b, ev_or, orK_b, ev_ite, iteK_b, ev_chn, chnK_le, ev_list, ev_tup, ev_idx, ev_slc, ev_rev, revK_l, ev_blt, ev_isi, isiK_s, ev_call, ev_comp, ev_compC, evs_cons, evs_nil, getV, isiD, List.length_cons, List.length_nil, List.map_cons, List.map_nil, List.replicate, List.append_eq, List.nil_append, List.cons_append, List.append_nil, List.getElem?_cons_zero, List.getElem?_cons_succ, Rs.of_some, Rs.bind_ok, Rs.bind_stuck, if_true, Bool.false_eq_true, if_false, List.set_cons_zero, List.set_cons_succ, Nat.zero_add, Nat.reduceAdd, Nat.reduceSub, add_ii, sub_ii, mul_2i, lt_ii, le_ii, gt_ii, ge_ii, len_ix, sorted_ix, sum_ix, eq_ix, ne_ix, turnE_one, turnC_one, turnC_b, turnL_one, reduceIte, Bool.not_true, Bool.not_false, Bool.true_eq_false, is_tt, isnot_tt, loopK_s, len_lit0]
    rw [slc_ix (a := i) (b := i + (2 * k + 1)) (h := .int (0 + (i : Int) + 2 * (k : Int) + 1)) (by simp only [bndX]; congr 2; omega) (by simp only [exSs_cons, exSs_nil, seqK_next, seqK_ret, exS_set, exS_ret, exS_exp, exS_skip, exS_never, exS_iff, ifK_b, testM_eq, testK_b, exS_app, exS_par, exS_tset, tsetK_t, exS_loop, runK_next, runK_ret, evO, evF, freshX, esc, escs, frz, ev_var, ev_lit, ev_bin, ev_neg, negK_i, ev_not, notK_b, ev_and, andK_b, ev_or, orK_b, ev_ite, iteK_b, ev_chn, chnK_le, ev_list, ev_tup, ev_idx, ev_slc, ev_rev, revK_l, ev_blt, ev_isi, isiK_s, ev_call, ev_comp, ev_compC, evs_cons, evs_nil, getV, isiD, List.length_cons, List.length_nil, List.map_cons, List.map_nil, List.replicate, List.append_eq, List.nil_append, List.cons_append, List.append_nil, List.getElem?_cons_zero, List.getElem?_cons_succ, Rs.of_some, Rs.bind_ok, Rs.bind_stuck, if_true, Bool.false_eq_true, if_false, List.set_cons_zero, List.set_cons_succ, Nat.zero_add, Nat.reduceAdd, Nat.reduceSub, add_ii, sub_ii, mul_2i, lt_ii, le_ii, gt_ii, ge_ii, len_ix, sorted_ix, sum_ix, eq_ix, ne_ix, turnE_one, turnC_one, turnC_b, turnL_one, reduceIte, Bool.not_true, Bool.not_false, Bool.true_eq_false, is_tt, isnot_tt, loopK_s, len_lit0]) (by simp only [bndX]; congr 2; omega) (by omega) (by rw [longerM_length]; omega)]
    rw [Nat.add_sub_cancel_left, longerM_cut h0' (by omega)]
    simp only [exSs_cons, exSs_nil, seqK_next, seqK_ret, exS_set, exS_ret, exS_exp, exS_skip, exS_never, exS_iff, ifK_b, testM_eq, testK_b, exS_app, exS_par, exS_tset, tsetK_t, exS_loop, runK_next, runK_ret, evO, evF, freshX, esc, escs, frz, ev_var, ev_lit, ev_bin, ev_neg, negK_i, ev_not, notK_b, ev_and, andK_b, ev_or, orK_b, ev_ite, iteK_b, ev_chn, chnK_le, ev_list, ev_tup, ev_idx, ev_slc, ev_rev, revK_l, ev_blt, ev_isi, isiK_s, ev_call, ev_comp, ev_compC, evs_cons, evs_nil, getV, isiD, List.length_cons, List.length_nil, List.map_cons, List.map_nil, List.replicate, List.append_eq, List.nil_append, List.cons_append, List.append_nil, List.getElem?_cons_zero, List.getElem?_cons_succ, Rs.of_some, Rs.bind_ok, Rs.bind_stuck, if_true, Bool.false_eq_true, if_false, List.set_cons_zero, List.set_cons_succ, Nat.zero_add, Nat.reduceAdd, Nat.reduceSub, add_ii, sub_ii, mul_2i, lt_ii, le_ii, gt_ii, ge_ii, len_ix, sorted_ix, sum_ix, eq_ix, ne_ix, turnE_one, turnC_one, turnC_b, turnL_one, reduceIte, Bool.not_true, Bool.not_false, Bool.true_eq_false, is_tt, isnot_tt, loopK_s, len_lit0]
    rw [idx_ixI ht.1 (by rw [isort_length, win_length]; omega)]
    simp only [exSs_cons, exSs_nil, seqK_next, seqK_ret, exS_set, exS_ret, exS_exp, exS_skip, exS_never, exS_iff, ifK_b, testM_eq, testK_b, exS_app, exS_par, exS_tset, tsetK_t, exS_loop, runK_next, runK_ret, evO, evF, freshX, esc, escs, frz, ev_var, ev_lit, ev_bin, ev_neg, negK_i, ev_not, notK_b, ev_and, andK_b, ev_or, orK_b, ev_ite, iteK_b, ev_chn, chnK_le, ev_list, ev_tup, ev_idx, ev_slc, ev_rev, revK_l, ev_blt, ev_isi, isiK_s, ev_call, ev_comp, ev_compC, evs_cons, evs_nil, getV, isiD, List.length_cons, List.length_nil, List.map_cons, List.map_nil, List.replicate, List.append_eq, List.nil_append, List.cons_append, List.append_nil, List.getElem?_cons_zero, List.getElem?_cons_succ, Rs.of_some, Rs.bind_ok, Rs.bind_stuck, if_true, Bool.false_eq_true, if_false, List.set_cons_zero, List.set_cons_succ, Nat.zero_add, Nat.reduceAdd, Nat.reduceSub, add_ii, sub_ii, mul_2i, lt_ii, le_ii, gt_ii, ge_ii, len_ix, sorted_ix, sum_ix, eq_ix, ne_ix, turnE_one, turnC_one, turnC_b, turnL_one, reduceIte, Bool.not_true, Bool.not_false, Bool.true_eq_false, is_tt, isnot_tt, loopK_s, len_lit0]
    rfl
def code_is_root : List Cm := [.exp (.call 4 [.var 0, .var 1]), .ret (.bin .eq (.call 6 [.var 0, .var 1]) (.var 0))]
def isRootD {T : Type} : List D → T → Rs T D := onRK isRow fun row k => .bool (decide (medianM row k = row))
theorem run_is_root (h4a : TB.ar 4 = 2) (h4 : TB.F 4 = checkBothD) (h6a : TB.ar 6 = 2) (h6 : TB.F 6 = medianD) : ∀ (ds : List D) (s : T), ds.length = 2 → isRootD ds s ≠ .stuck → runD TB 2 code_is_root ds s = isRootD ds s := by
  intro ds s hlen h
  obtain ⟨row, k, rfl, hp, k1, k3, e⟩ := onRK_inv h
  rw [show isRootD [.list (ix row), .int (k : Int)] s = _ from e, runD_eq]
  simp only [code_is_root, h4a, h4, h6a, h6, checkBothD_eq hp k1 k3, medianD_eq hp.small k1 k3, exSs_cons, exSs_nil, seqK_next, seqK_ret, exS_set, exS_ret, exS_exp, exS_skip, exS_never, exS_iff, ifK_b, testM_eq, testK_b, exS_app, exS_par, exS_tset, tsetK_t, exS_loop, runK_next, runK_ret, evO, evF, freshX, esc, escs, frz, ev_var, ev_lit, ev_bin, ev_neg, negK_i, ev_not, notK_b, ev_and, andK_b, ev_or, orK_b, ev_ite, iteK_b, ev_chn, chnK_le, ev_list, ev_tup, ev_idx, ev_slc, ev_rev, revK_l, ev_blt, ev_isi, isiK_s, ev_call, ev_comp, ev_compC, evs_cons, evs_nil, getV, isiD, List.length_cons, List.length_nil, List.map_cons, List.map_nil, List.replicate, List.append_eq, List.nil_append, List.cons_append, List.append_nil, List.getElem?_cons_zero, List.getElem?_cons_succ, Rs.of_some, Rs.bind_ok, Rs.bind_stuck, if_true, Bool.false_eq_true, if_false, List.set_cons_zero, List.set_cons_succ, Nat.zero_add, Nat.reduceAdd, Nat.reduceSub, add_ii, sub_ii, mul_2i, lt_ii, le_ii, gt_ii, ge_ii, len_ix, sorted_ix, sum_ix, eq_ix, ne_ix, turnE_one, turnC_one, turnC_b, turnL_one, reduceIte, Bool.not_true, Bool.not_false, Bool.true_eq_false, is_tt, isnot_tt, loopK_s, len_lit0]
def code_unlike_places : List Cm := [.exp (.call 4 [.var 0, .var 1]), .set 2 (.call 6 [.var 0, .var 1]), .ret (.comp (.var 3) (.one 3) .rng [.blt .len [.var 0]] (some (.bin .ne (.idx (.var 2) (.var 3)) (.idx (.var 0) (.var 3)))))]
def unlikeM (row : List Int) (k : Nat) : List Int := ((List.range row.length).filter fun i => decide (¬ (medianM row k).getD i 0 = row.getD i 0)).map fun (i : Nat) => (i : Int)
def unlikeD {T : Type} : List D → T → Rs T D := onRK isRow fun row k => .list (ix (unlikeM row k))
theorem ne_ii (i j : Int) : opD .ne (.int i) (.int j) = some (.bool (!decide (i = j))) := by
  simp only [opD, okD, lvl, and_self, if_true, PyData.eqv]
  congr 3
theorem eq_ii (i j : Int) : opD .eq (.int i) (.int j) = some (.bool (decide (i = j))) := by
  simp only [opD, okD, lvl, and_self, if_true, PyData.eqv]
  congr 2
/-- a filter of places -/
theorem run_places {elt c : Xp} {n : Nat} {p : Nat → Bool} {src : List Xp} {tg : Tg} (hl : n ≤ 1000) (hs : evs TB true r src s = .ok [.int (n : Int)] s)
    (he : ∀ (i : Nat), i < n → turnC TB r tg elt c (.int (0 + (i : Int))) s = .ok (if p i = true then some (.int (i : Int)) else none) s) :
    compF TB .rng src r (turnC TB r tg elt c) s = .ok (ix (((List.range n).filter p).map fun (i : Nat) => (i : Int))) s := by
  refine compF_of hs (src_rng1' (lim_ok (by omega))) (by rw [upto_length]; exact lim_ok (by omega)) ?_
  rw [upto_map, compM_fmap (p := p) (g := fun (i : Nat) => PyData.int (i : Int)) fun i hi => he i (by simpa using hi)]
  rw [ix_map]
theorem run_unlike (h4a : TB.ar 4 = 2) (h4 : TB.F 4 = checkBothD) (h6a : TB.ar 6 = 2) (h6 : TB.F 6 = medianD) : ∀ (ds : List D) (s : T), ds.length = 2 → unlikeD ds s ≠ .stuck → runD TB 4 code_unlike_places ds s = unlikeD ds s := by
  intro ds s hlen h
  obtain ⟨row, k, rfl, hp, k1, k3, e⟩ := onRK_inv h
  rw [show unlikeD [.list (ix row), .int (k : Int)] s = _ from e, runD_eq]
  have h100 := hp.small.2
  simp only [code_unlike_places, h4a, h4, h6a, h6, checkBothD_eq hp k1 k3, medianD_eq hp.small k1 k3, exSs_cons, exSs_nil, seqK_next, seqK_ret, exS_set, exS_ret, exS_exp, exS_skip, exS_never, exS_iff, ifK_b, testM_eq, testK_b, exS_app, exS_par, exS_tset, tsetK_t, exS_loop, runK_next, runK_ret, evO, evF, freshX, esc, escs, frz, ev_var, ev_lit, ev_bin, ev_neg, negK_i, ev_not, notK_b, ev_and, andK_b, ev_or, orK_b, ev_ite, iteK_b, ev_chn, chnK_le, ev_list, ev_tup, ev_idx, ev_slc, ev_rev, revK_l, ev_blt, ev_isi, isiK_s, ev_call, ev_comp, ev_compC, evs_cons, evs_nil, getV, isiD, List.length_cons, List.length_nil, List.map_cons, List.map_nil, List.replicate, List.append_eq, List.nil_append, List.cons_append, List.append_nil, List.getElem?_cons_zero, List.getElem?_cons_succ, Rs.of_some, Rs.bind_ok, Rs.bind_stuck, if_true, Bool.false_eq_true, if_false, List.set_cons_zero, List.set_cons_succ, Nat.zero_add, Nat.reduceAdd, Nat.reduceSub, add_ii, sub_ii, mul_2i, lt_ii, le_ii, gt_ii, ge_ii, len_ix, sorted_ix, sum_ix, eq_ix, ne_ix, turnE_one, turnC_one, turnC_b, turnL_one, reduceIte, Bool.not_true, Bool.not_false, Bool.true_eq_false, is_tt, isnot_tt, loopK_s, len_lit0]
  rw [run_places (n := row.length) (p := fun i => decide (¬ (medianM row k).getD i 0 = row.getD i 0)) (by omega) (by simp only [exSs_cons, exSs_nil, seqK_next, seqK_ret, exS_set, exS_ret, exS_exp, exS_skip, exS_never, exS_iff, ifK_b, testM_eq, testK_b, exS_app, exS_par, exS_tset, tsetK_t, exS_loop, runK_next, runK_ret, evO, evF, freshX, esc, escs, frz, ev_var, ev_lit, ev_bin, ev_neg, negK_i, ev_not, notK_b, ev_and, andK_b, ev_or, orK_b, ev_ite, iteK_b, ev_chn, chnK_le, ev_list, ev_tup, ev_idx, ev_slc, ev_rev, revK_l, ev_blt, ev_isi, isiK_s, ev_call, ev_comp, ev_compC, evs_cons, evs_nil, getV, isiD, List.length_cons, List.length_nil, List.map_cons, List.map_nil, List.replicate, List.append_eq, List.nil_append, List.cons_append, List.append_nil, List.getElem?_cons_zero, List.getElem?_cons_succ, Rs.of_some, Rs.bind_ok, Rs.bind_stuck, if_true, Bool.false_eq_true, if_false, List.set_cons_zero, List.set_cons_succ, Nat.zero_add, Nat.reduceAdd, Nat.reduceSub, add_ii, sub_ii, mul_2i, lt_ii, le_ii, gt_ii, ge_ii, len_ix, sorted_ix, sum_ix, eq_ix, ne_ix, turnE_one, turnC_one, turnC_b, turnL_one, reduceIte, Bool.not_true, Bool.not_false, Bool.true_eq_false, is_tt, isnot_tt, loopK_s, len_lit0]) ?_]
  · simp only [exSs_cons, exSs_nil, seqK_next, seqK_ret, exS_set, exS_ret, exS_exp, exS_skip, exS_never, exS_iff, ifK_b, testM_eq, testK_b, exS_app, exS_par, exS_tset, tsetK_t, exS_loop, runK_next, runK_ret, evO, evF, freshX, esc, escs, frz, ev_var, ev_lit, ev_bin, ev_neg, negK_i, ev_not, notK_b, ev_and, andK_b, ev_or, orK_b, ev_ite, iteK_b, ev_chn, chnK_le, ev_list, ev_tup, ev_idx, ev_slc, ev_rev, revK_l, ev_blt, ev_isi, isiK_s, ev_call, ev_comp, ev_compC, evs_cons, evs_nil, getV, isiD, List.length_cons, List.length_nil, List.map_cons, List.map_nil, List.replicate, List.append_eq, List.nil_append, List.cons_append, List.append_nil, List.getElem?_cons_zero, List.getElem?_cons_succ, Rs.of_some, Rs.bind_ok, Rs.bind_stuck, if_true, Bool.false_eq_true, if_false, List.set_cons_zero, List.set_cons_succ, Nat.zero_add, Nat.reduceAdd, Nat.reduceSub, add_ii, sub_ii, mul_2i, lt_ii, le_ii, gt_ii, ge_ii, len_ix, sorted_ix, sum_ix, eq_ix, ne_ix, turnE_one, turnC_one, turnC_b, turnL_one, reduceIte, Bool.not_true, Bool.not_false, Bool.true_eq_false, is_tt, isnot_tt, loopK_s, len_lit0]
    rfl
  · intro i hi
    have e0 : (0 : Int) + (i : Int) = (i : Int) := by omega
    simp only [e0, exSs_cons, exSs_nil, seqK_next, seqK_ret, exS_set, exS_ret, exS_exp, exS_skip, exS_never, exS_iff, ifK_b, testM_eq, testK_b, exS_app, exS_par, exS_tset, tsetK_t, exS_loop, runK_next, runK_ret, evO, evF, freshX, esc, escs, frz, ev_var, ev_lit, ev_bin, ev_neg, negK_i, ev_not, notK_b, ev_and, andK_b, ev_or, orK_b, ev_ite, iteK_b, ev_chn, chnK_le, ev_list, ev_tup, ev_idx, ev_slc, ev_rev, revK_l, ev_blt, ev_isi, isiK_s, ev_call, ev_comp, ev_compC, evs_cons, evs_nil, getV, isiD, List.length_cons, List.length_nil, List.map_cons, List.map_nil, List.replicate, List.append_eq, List.nil_append, List.cons_append, List.append_nil, List.getElem?_cons_zero, List.getElem?_cons_succ, Rs.of_some, Rs.bind_ok, Rs.bind_stuck, if_true, Bool.false_eq_true, if_false, List.set_cons_zero, List.set_cons_succ, Nat.zero_add, Nat.reduceAdd, Nat.reduceSub, add_ii, sub_ii, mul_2i, lt_ii, le_ii, gt_ii, ge_ii, len_ix, sorted_ix, sum_ix, eq_ix, ne_ix, turnE_one, turnC_one, turnC_b, turnL_one, reduceIte, Bool.not_true, Bool.not_false, Bool.true_eq_false, is_tt, isnot_tt, loopK_s, len_lit0]
    rw [idx_ix (by rw [medianM_length]; exact hi), idx_ix hi]
    simp only [ne_ii, exSs_cons, exSs_nil, seqK_next, seqK_ret, exS_set, exS_ret, exS_exp, exS_skip, exS_never, exS_iff, ifK_b, testM_eq, testK_b, exS_app, exS_par, exS_tset, tsetK_t, exS_loop, runK_next, runK_ret, evO, evF, freshX, esc, escs, frz, ev_var, ev_lit, ev_bin, ev_neg, negK_i, ev_not, notK_b, ev_and, andK_b, ev_or, orK_b, ev_ite, iteK_b, ev_chn, chnK_le, ev_list, ev_tup, ev_idx, ev_slc, ev_rev, revK_l, ev_blt, ev_isi, isiK_s, ev_call, ev_comp, ev_compC, evs_cons, evs_nil, getV, isiD, List.length_cons, List.length_nil, List.map_cons, List.map_nil, List.replicate, List.append_eq, List.nil_append, List.cons_append, List.append_nil, List.getElem?_cons_zero, List.getElem?_cons_succ, Rs.of_some, Rs.bind_ok, Rs.bind_stuck, if_true, Bool.false_eq_true, if_false, List.set_cons_zero, List.set_cons_succ, Nat.zero_add, Nat.reduceAdd, Nat.reduceSub, add_ii, sub_ii, mul_2i, lt_ii, le_ii, gt_ii, ge_ii, len_ix, sorted_ix, sum_ix, eq_ix, ne_ix, turnE_one, turnC_one, turnC_b, turnL_one, reduceIte, Bool.not_true, Bool.not_false, Bool.true_eq_false, is_tt, isnot_tt, loopK_s, len_lit0]
    by_cases q : (medianM row k).getD i 0 = row.getD i 0 <;> simp only [q, eq_self, not_true, not_false_iff, decide_true, decide_false, Bool.not_true, Bool.not_false, Bool.false_eq_true, if_true, if_false]
def code_after_passes : List Cm := [.loop (.one 3) .rng [.var 2] [.set 0 (.call 6 [.var 0, .var 1])], .ret (.var 0)]
def passM (row : List Int) (k : Nat) : Nat → List Int
  | 0 => row
  | n + 1 => medianM (passM row k n) k
theorem passM_length (row : List Int) (k n : Nat) : (passM row k n).length = row.length := by
  induction n with
  | zero => rfl
  | succ n ih => rw [passM, medianM_length, ih]
theorem passM_small {row : List Int} (h : small row) (k n : Nat) : small (passM row k n) := by
  have hl := passM_length row k n
  refine ⟨fun z => ?_, by rw [hl]; exact h.2⟩
  rw [z] at hl
  exact h.1 (List.eq_nil_of_length_eq_zero hl.symm)
def afterD {T : Type} : List D → T → Rs T D := onRKI small (fun _ i => 0 ≤ i ∧ i ≤ 100) fun row k t => .list (ix (passM row k t.toNat))
theorem run_after (h6a : TB.ar 6 = 2) (h6 : TB.F 6 = medianD) : ∀ (ds : List D) (s : T), ds.length = 3 → afterD ds s ≠ .stuck → runD TB 4 code_after_passes ds s = afterD ds s := by
  intro ds s hlen h
  obtain ⟨row, k, t, rfl, hp, k1, k3, ht, e⟩ := onRKI_inv h
  rw [show afterD [.list (ix row), .int (k : Int), .int t] s = _ from e, runD_eq]
  obtain ⟨n, rfl⟩ : ∃ n : Nat, t = (n : Int) := ⟨t.toNat, by omega⟩
  simp only [code_after_passes, src_rng1' (n := n) (lim_ok (by omega)), exSs_cons, exSs_nil, seqK_next, seqK_ret, exS_set, exS_ret, exS_exp, exS_skip, exS_never, exS_iff, ifK_b, testM_eq, testK_b, exS_app, exS_par, exS_tset, tsetK_t, exS_loop, runK_next, runK_ret, evO, evF, freshX, esc, escs, frz, ev_var, ev_lit, ev_bin, ev_neg, negK_i, ev_not, notK_b, ev_and, andK_b, ev_or, orK_b, ev_ite, iteK_b, ev_chn, chnK_le, ev_list, ev_tup, ev_idx, ev_slc, ev_rev, revK_l, ev_blt, ev_isi, isiK_s, ev_call, ev_comp, ev_compC, evs_cons, evs_nil, getV, isiD, List.length_cons, List.length_nil, List.map_cons, List.map_nil, List.replicate, List.append_eq, List.nil_append, List.cons_append, List.append_nil, List.getElem?_cons_zero, List.getElem?_cons_succ, Rs.of_some, Rs.bind_ok, Rs.bind_stuck, if_true, Bool.false_eq_true, if_false, List.set_cons_zero, List.set_cons_succ, Nat.zero_add, Nat.reduceAdd, Nat.reduceSub, add_ii, sub_ii, mul_2i, lt_ii, le_ii, gt_ii, ge_ii, len_ix, sorted_ix, sum_ix, eq_ix, ne_ix, turnE_one, turnC_one, turnC_b, turnL_one, reduceIte, Bool.not_true, Bool.not_false, Bool.true_eq_false, is_tt, isnot_tt, loopK_s, len_lit0]
  have hb : ∀ (x : Slt), forM (turnL TB (.one 3) [.set 0 (.call 6 [.var 0, .var 1])]) (upto 0 n) [.val (.list (ix row)), .val (.int (k : Int)), .val (.int (n : Int)), x] s = .ok (.next [.val (.list (ix (passM row k n))), .val (.int (k : Int)), .val (.int (n : Int)), if n = 0 then x else .val (.int ((n : Int) - 1))]) s := by
    intro x
    refine forM_rng (fun j => [.val (.list (ix (passM row k j))), .val (.int (k : Int)), .val (.int (n : Int)), if j = 0 then x else .val (.int ((j : Int) - 1))]) (fun _ => s) fun j hj => ?_
    simp only [h6a, h6, medianD_eq (passM_small hp k j) k1 k3, exSs_cons, exSs_nil, seqK_next, seqK_ret, exS_set, exS_ret, exS_exp, exS_skip, exS_never, exS_iff, ifK_b, testM_eq, testK_b, exS_app, exS_par, exS_tset, tsetK_t, exS_loop, runK_next, runK_ret, evO, evF, freshX, esc, escs, frz, ev_var, ev_lit, ev_bin, ev_neg, negK_i, ev_not, notK_b, ev_and, andK_b, ev_or, orK_b, ev_ite, iteK_b, ev_chn, chnK_le, ev_list, ev_tup, ev_idx, ev_slc, ev_rev, revK_l, ev_blt, ev_isi, isiK_s, ev_call, ev_comp, ev_compC, evs_cons, evs_nil, getV, isiD, List.length_cons, List.length_nil, List.map_cons, List.map_nil, List.replicate, List.append_eq, List.nil_append, List.cons_append, List.append_nil, List.getElem?_cons_zero, List.getElem?_cons_succ, Rs.of_some, Rs.bind_ok, Rs.bind_stuck, if_true, Bool.false_eq_true, if_false, List.set_cons_zero, List.set_cons_succ, Nat.zero_add, Nat.reduceAdd, Nat.reduceSub, add_ii, sub_ii, mul_2i, lt_ii, le_ii, gt_ii, ge_ii, len_ix, sorted_ix, sum_ix, eq_ix, ne_ix, turnE_one, turnC_one, turnC_b, turnL_one, reduceIte, Bool.not_true, Bool.not_false, Bool.true_eq_false, is_tt, isnot_tt, loopK_s, len_lit0]
    rw [if_neg (by omega), show (0 : Int) + (j : Int) = ((j + 1 : Nat) : Int) - 1 by omega]
    rfl
  rw [hb]
  simp only [Int.toNat_natCast, exSs_cons, exSs_nil, seqK_next, seqK_ret, exS_set, exS_ret, exS_exp, exS_skip, exS_never, exS_iff, ifK_b, testM_eq, testK_b, exS_app, exS_par, exS_tset, tsetK_t, exS_loop, runK_next, runK_ret, evO, evF, freshX, esc, escs, frz, ev_var, ev_lit, ev_bin, ev_neg, negK_i, ev_not, notK_b, ev_and, andK_b, ev_or, orK_b, ev_ite, iteK_b, ev_chn, chnK_le, ev_list, ev_tup, ev_idx, ev_slc, ev_rev, revK_l, ev_blt, ev_isi, isiK_s, ev_call, ev_comp, ev_compC, evs_cons, evs_nil, getV, isiD, List.length_cons, List.length_nil, List.map_cons, List.map_nil, List.replicate, List.append_eq, List.nil_append, List.cons_append, List.append_nil, List.getElem?_cons_zero, List.getElem?_cons_succ, Rs.of_some, Rs.bind_ok, Rs.bind_stuck, if_true, Bool.false_eq_true, if_false, List.set_cons_zero, List.set_cons_succ, Nat.zero_add, Nat.reduceAdd, Nat.reduceSub, add_ii, sub_ii, mul_2i, lt_ii, le_ii, gt_ii, ge_ii, len_ix, sorted_ix, sum_ix, eq_ix, ne_ix, turnE_one, turnC_one, turnC_b, turnL_one, reduceIte, Bool.not_true, Bool.not_false, Bool.true_eq_false, is_tt, isnot_tt, loopK_s, len_lit0]
def code_passed : List Cm := [.exp (.call 4 [.var 0, .var 1]), .iff (.not (.call 0 [.var 2, .lit (.int 0), .lit (.int 100)])) [.never] [], .ret (.call 28 [.blt .list [.var 0], .var 1, .var 2])]
def passedD {T : Type} : List D → T → Rs T D := onRKI isRow (fun _ i => 0 ≤ i ∧ i ≤ 100) fun row k t => .list (ix (passM row k t.toNat))
theorem list_list (xs : List D) : bltD .list [.list xs] = some (.list xs) := by simp only [bltD]
theorem run_passed (h0a : TB.ar 0 = 3) (h0 : TB.F 0 = isIntD) (h4a : TB.ar 4 = 2) (h4 : TB.F 4 = checkBothD) (ha : TB.ar 28 = 3) (hf : TB.F 28 = afterD) : ∀ (ds : List D) (s : T), ds.length = 3 → passedD ds s ≠ .stuck → runD TB 3 code_passed ds s = passedD ds s := by
  intro ds s hlen h
  obtain ⟨row, k, t, rfl, hp, k1, k3, ht, e⟩ := onRKI_inv h
  rw [show passedD [.list (ix row), .int (k : Int), .int t] s = _ from e, runD_eq]
  have hA : afterD [.list (ix row), .int (k : Int), .int t] s = .ok (.list (ix (passM row k t.toNat))) s := onRKI_eq hp.small k1 k3 ht
  simp only [code_passed, h0a, h0, h4a, h4, ha, hf, checkBothD_eq hp k1 k3, hA, isIntD_i, ht.1, ht.2, list_list, decide_true, Bool.and_self, exSs_cons, exSs_nil, seqK_next, seqK_ret, exS_set, exS_ret, exS_exp, exS_skip, exS_never, exS_iff, ifK_b, testM_eq, testK_b, exS_app, exS_par, exS_tset, tsetK_t, exS_loop, runK_next, runK_ret, evO, evF, freshX, esc, escs, frz, ev_var, ev_lit, ev_bin, ev_neg, negK_i, ev_not, notK_b, ev_and, andK_b, ev_or, orK_b, ev_ite, iteK_b, ev_chn, chnK_le, ev_list, ev_tup, ev_idx, ev_slc, ev_rev, revK_l, ev_blt, ev_isi, isiK_s, ev_call, ev_comp, ev_compC, evs_cons, evs_nil, getV, isiD, List.length_cons, List.length_nil, List.map_cons, List.map_nil, List.replicate, List.append_eq, List.nil_append, List.cons_append, List.append_nil, List.getElem?_cons_zero, List.getElem?_cons_succ, Rs.of_some, Rs.bind_ok, Rs.bind_stuck, if_true, Bool.false_eq_true, if_false, List.set_cons_zero, List.set_cons_succ, Nat.zero_add, Nat.reduceAdd, Nat.reduceSub, add_ii, sub_ii, mul_2i, lt_ii, le_ii, gt_ii, ge_ii, len_ix, sorted_ix, sum_ix, eq_ix, ne_ix, turnE_one, turnC_one, turnC_b, turnL_one, reduceIte, Bool.not_true, Bool.not_false, Bool.true_eq_false, is_tt, isnot_tt, loopK_s, len_lit0]
end
end MR

namespace MR
open PySem L2
/-! ### the laws' own helpers -/
section
variable {TB : Tab DrT} {da : Addr} {s : DrT}
theorem drawD_eq {limit : Int} (h1 : 0 < limit) (h2 : limit < 1073741824) : drawD da [tokD da, .int limit] s = .ok (.int (drawM s limit).1) (drawM s limit).2 := by
  simp only [drawD, tokD]
  rw [if_pos ⟨trivial, h1, h2⟩]
def code_law_pick : List Cm := [.ret (.idx (.var 1) (.call 101 [.var 0, .blt .len [.var 1]]))]
def pickD (da : Addr) : List D → DrT → Rs DrT D
  | [.dict [(.int a, .none)], .list ds], s => if a = (da : Int) ∧ 1 ≤ ds.length ∧ ds.length ≤ 1000 then .ok (ds.getD (drawM s (ds.length : Int)).1.toNat .none) (drawM s (ds.length : Int)).2 else .stuck
  | _, _ => .stuck
theorem pickD_eq {ds : List D} (h1 : 1 ≤ ds.length) (h2 : ds.length ≤ 1000) : pickD da [tokD da, .list ds] s = .ok (ds.getD (drawM s (ds.length : Int)).1.toNat .none) (drawM s (ds.length : Int)).2 := by
  simp only [pickD, tokD]
  rw [if_pos ⟨trivial, h1, h2⟩]
theorem draw_nat (s : DrT) {n : Nat} (h : 0 < n) : ∃ j : Nat, j < n ∧ (drawM s (n : Int)).1 = (j : Int) := by
  have h1 := drawM_nonneg s (limit := (n : Int)) (by omega)
  have h2 := drawM_lt s (limit := (n : Int)) (by omega)
  exact ⟨(drawM s (n : Int)).1.toNat, by omega, by omega⟩
theorem idx_list {ds : List D} {j : Nat} (h : j < ds.length) : idxD (.list ds) (.int (j : Int)) = some (ds.getD j .none) := by
  simp only [idxD]
  refine atI_nat ?_
  rw [List.getD_eq_getElem?_getD, List.getElem?_eq_getElem h]
  rfl
theorem run_pick (ha : TB.ar 101 = 2) (h1 : TB.F 101 = drawD da) : ∀ (ds : List D) (s : DrT), ds.length = 2 → pickD da ds s ≠ .stuck → runD TB 2 code_law_pick ds s = pickD da ds s := by
  intro ds s hlen h
  unfold pickD at h
  split at h
  · rename_i a xs
    split at h
    · rename_i hc
      obtain ⟨e, h3, h4⟩ := hc
      subst e
      rw [runD_eq, show pickD da [.dict [(.int (da : Int), .none)], .list xs] s = _ from pickD_eq h3 h4]
      have hd := drawD_eq (da := da) (s := s) (limit := (xs.length : Int)) (by omega) (by omega)
      obtain ⟨j, hj, ej⟩ := draw_nat s (n := xs.length) (by omega)
      unfold tokD at hd
      simp only [code_law_pick, ha, h1, len_list, hd, exSs_cons, exSs_nil, seqK_next, seqK_ret, exS_set, exS_ret, exS_exp, exS_skip, exS_never, exS_iff, ifK_b, testM_eq, testK_b, exS_app, exS_par, exS_tset, tsetK_t, exS_loop, runK_next, runK_ret, evO, evF, freshX, esc, escs, frz, ev_var, ev_lit, ev_bin, ev_neg, negK_i, ev_not, notK_b, ev_and, andK_b, ev_or, orK_b, ev_ite, iteK_b, ev_chn, chnK_le, ev_list, ev_tup, ev_idx, ev_slc, ev_rev, revK_l, ev_blt, ev_isi, isiK_s, ev_call, ev_comp, ev_compC, evs_cons, evs_nil, getV, isiD, List.length_cons, List.length_nil, List.map_cons, List.map_nil, List.replicate, List.append_eq, List.nil_append, List.cons_append, List.append_nil, List.getElem?_cons_zero, List.getElem?_cons_succ, Rs.of_some, Rs.bind_ok, Rs.bind_stuck, if_true, Bool.false_eq_true, if_false, List.set_cons_zero, List.set_cons_succ, Nat.zero_add, Nat.reduceAdd, Nat.reduceSub, add_ii, sub_ii, mul_2i, lt_ii, le_ii, gt_ii, ge_ii, len_ix, sorted_ix, sum_ix, eq_ix, ne_ix, turnE_one, turnC_one, turnC_b, turnL_one, reduceIte, Bool.not_true, Bool.not_false, Bool.true_eq_false, is_tt, isnot_tt, loopK_s, len_lit0]
      rw [ej, idx_list hj, Int.toNat_natCast]
      simp only [exSs_cons, exSs_nil, seqK_next, seqK_ret, exS_set, exS_ret, exS_exp, exS_skip, exS_never, exS_iff, ifK_b, testM_eq, testK_b, exS_app, exS_par, exS_tset, tsetK_t, exS_loop, runK_next, runK_ret, evO, evF, freshX, esc, escs, frz, ev_var, ev_lit, ev_bin, ev_neg, negK_i, ev_not, notK_b, ev_and, andK_b, ev_or, orK_b, ev_ite, iteK_b, ev_chn, chnK_le, ev_list, ev_tup, ev_idx, ev_slc, ev_rev, revK_l, ev_blt, ev_isi, isiK_s, ev_call, ev_comp, ev_compC, evs_cons, evs_nil, getV, isiD, List.length_cons, List.length_nil, List.map_cons, List.map_nil, List.replicate, List.append_eq, List.nil_append, List.cons_append, List.append_nil, List.getElem?_cons_zero, List.getElem?_cons_succ, Rs.of_some, Rs.bind_ok, Rs.bind_stuck, if_true, Bool.false_eq_true, if_false, List.set_cons_zero, List.set_cons_succ, Nat.zero_add, Nat.reduceAdd, Nat.reduceSub, add_ii, sub_ii, mul_2i, lt_ii, le_ii, gt_ii, ge_ii, len_ix, sorted_ix, sum_ix, eq_ix, ne_ix, turnE_one, turnC_one, turnC_b, turnL_one, reduceIte, Bool.not_true, Bool.not_false, Bool.true_eq_false, is_tt, isnot_tt, loopK_s, len_lit0]
    · exact absurd rfl h
  · exact absurd rfl h
/-! ### rows drawn -/
def wideM (s : DrT) : Int := ([2, 2, 3, 10] : List Int).getD (drawM s 4).1.toNat 0
def rowStep (wide stay : Int) (p : List Int × DrT) : List Int × DrT :=
  if (drawM p.2 3).1 < stay then (p.1 ++ [near p.1 ((p.1.length : Int) - 1)], (drawM p.2 3).2)
  else (p.1 ++ [(drawM (drawM p.2 3).2 wide).1], (drawM (drawM p.2 3).2 wide).2)
def rowLoop (wide stay : Int) (p : List Int × DrT) : Nat → List Int × DrT
  | 0 => p
  | n + 1 => rowStep wide stay (rowLoop wide stay p n)
def rowS1 (s : DrT) : DrT := (drawM s 4).2
def rowS2 (s : DrT) : DrT := (drawM (rowS1 s) 3).2
def rowS3 (s : DrT) : DrT := (drawM (rowS2 s) (wideM s)).2
def rowN (s : DrT) (most : Nat) : Nat := (drawM (rowS3 s) (most : Int)).1.toNat
def rowS4 (s : DrT) (most : Nat) : DrT := (drawM (rowS3 s) (most : Int)).2
def lawRow (s : DrT) (most : Nat) : List Int × DrT := rowLoop (wideM s) (drawM (rowS1 s) 3).1 ([(drawM (rowS2 s) (wideM s)).1], rowS4 s most) (rowN s most)
theorem wideM_ok (s : DrT) : 2 ≤ wideM s ∧ wideM s ≤ 10 := by
  obtain ⟨j, hj, ej⟩ := draw_nat s (n := 4) (by omega)
  have ej' : (drawM s 4).1 = (j : Int) := ej
  unfold wideM
  rw [ej', Int.toNat_natCast]
  match j, hj with
  | 0, _ => decide
  | 1, _ => decide
  | 2, _ => decide
  | 3, _ => decide
def valsOk (l : List Int) : Prop := l ≠ [] ∧ ∀ x ∈ l, 0 ≤ x ∧ x ≤ 9
theorem near_mem {l : List Int} (h : l ≠ []) (i : Int) : near l i ∈ l := by
  have hl : 0 < l.length := List.length_pos_iff.mpr h
  unfold near
  rw [List.getD_eq_getElem?_getD, List.getElem?_eq_getElem (show (min (max i 0) ((l.length : Int) - 1)).toNat < l.length by omega)]
  exact List.getElem_mem _
theorem rowLoop_ok {wide stay : Int} {p : List Int × DrT} (hw : 1 ≤ wide ∧ wide ≤ 10) (hp : valsOk p.1) : ∀ n, valsOk (rowLoop wide stay p n).1 ∧ (rowLoop wide stay p n).1.length = p.1.length + n
  | 0 => ⟨hp, rfl⟩
  | n + 1 => by
    obtain ⟨h1, h2⟩ := rowLoop_ok (stay := stay) hw hp n
    simp only [rowLoop]
    unfold rowStep
    have d0 := drawM_nonneg (drawM (rowLoop wide stay p n).2 3).2 (limit := wide) (by omega)
    have d1 := drawM_lt (drawM (rowLoop wide stay p n).2 3).2 (limit := wide) (by omega)
    split
    · refine ⟨⟨by simp, fun x hx => ?_⟩, by simp only [List.length_append, List.length_singleton]; omega⟩
      rcases List.mem_append.mp hx with hx | hx
      · exact h1.2 x hx
      · rw [List.mem_singleton.mp hx]
        exact h1.2 _ (near_mem h1.1 _)
    · refine ⟨⟨by simp, fun x hx => ?_⟩, by simp only [List.length_append, List.length_singleton]; omega⟩
      rcases List.mem_append.mp hx with hx | hx
      · exact h1.2 x hx
      · rw [List.mem_singleton.mp hx]
        omega
theorem rowN_lt (s : DrT) {most : Nat} (h : 0 < most) : rowN s most < most := by
  obtain ⟨j, hj, ej⟩ := draw_nat (rowS3 s) h
  unfold rowN
  rw [ej, Int.toNat_natCast]
  exact hj
theorem lawRow_row (s : DrT) {most : Nat} (h1 : 1 ≤ most) (h2 : most ≤ 12) : isRow (lawRow s most).1 ∧ (lawRow s most).1.length ≤ most := by
  have hw := wideM_ok s
  have d0 := drawM_nonneg (rowS2 s) (limit := wideM s) (by omega)
  have d1 := drawM_lt (rowS2 s) (limit := wideM s) (by omega)
  obtain ⟨a, b⟩ := rowLoop_ok (wide := wideM s) (stay := (drawM (rowS1 s) 3).1) (p := ([(drawM (rowS2 s) (wideM s)).1], rowS4 s most)) (by omega) ⟨by simp, fun x hx => by rw [List.mem_singleton.mp hx]; omega⟩ (rowN s most)
  have hn := rowN_lt s (show 0 < most by omega)
  have hl : (lawRow s most).1.length = 1 + rowN s most := b
  exact ⟨⟨by omega, by omega, a.2⟩, by omega⟩
def code_law_row : List Cm := [.set 2 (.call 102 [.var 0, .list [.lit (.int 2), .lit (.int 2), .lit (.int 3), .lit (.int 10)]]), .set 3 (.call 101 [.var 0, .lit (.int 3)]), .set 4 (.list [.call 101 [.var 0, .var 2]]), .loop (.one 5) .rng [.call 101 [.var 0, .var 1]] [.app 4 (.ite (.bin .lt (.call 101 [.var 0, .lit (.int 3)]) (.var 3)) (.idx (.var 4) (.neg (.lit (.int 1)))) (.call 101 [.var 0, .var 2]))], .ret (.var 4)]
def lawRowD (da : Addr) : List D → DrT → Rs DrT D
  | [.dict [(.int a, .none)], .int most], s => if a = (da : Int) ∧ 1 ≤ most ∧ most ≤ 12 then .ok (.list (ix (lawRow s most.toNat).1)) (lawRow s most.toNat).2 else .stuck
  | _, _ => .stuck
theorem lawRowD_eq {most : Nat} (h1 : 1 ≤ most) (h2 : most ≤ 12) : lawRowD da [tokD da, .int (most : Int)] s = .ok (.list (ix (lawRow s most).1)) (lawRow s most).2 := by
  simp only [lawRowD, tokD]
  rw [if_pos ⟨trivial, by omega, by omega⟩, Int.toNat_natCast]
theorem pick4 : pickD da [tokD da, .list [.int 2, .int 2, .int 3, .int 10]] s = .ok (.int (wideM s)) (rowS1 s) := by
  rw [pickD_eq (by decide) (by decide)]
  obtain ⟨j, hj, ej⟩ := draw_nat s (n := 4) (by omega)
  have ej' : (drawM s 4).1 = (j : Int) := ej
  unfold wideM rowS1
  simp only [List.length_cons, List.length_nil, Nat.zero_add, Nat.reduceAdd]
  rw [show ((4 : Nat) : Int) = 4 from rfl, ej', Int.toNat_natCast]
  match j, hj with
  | 0, _ => rfl
  | 1, _ => rfl
  | 2, _ => rfl
  | 3, _ => rfl
theorem run_row (h1a : TB.ar 101 = 2) (h1 : TB.F 101 = drawD da) (h2a : TB.ar 102 = 2) (h2 : TB.F 102 = pickD da) : ∀ (ds : List D) (s : DrT), ds.length = 2 → lawRowD da ds s ≠ .stuck → runD TB 6 code_law_row ds s = lawRowD da ds s := by
  intro ds s hlen h
  unfold lawRowD at h
  split at h
  · rename_i a most
    split at h
    · rename_i hc
      obtain ⟨e, h3, h4⟩ := hc
      subst e
      obtain ⟨m, rfl⟩ : ∃ m : Nat, most = (m : Int) := ⟨most.toNat, by omega⟩
      rw [runD_eq, show lawRowD da [.dict [(.int (da : Int), .none)], .int (m : Int)] s = _ from lawRowD_eq (by omega) (by omega)]
      have hw := wideM_ok s
      have hp := pick4 (da := da) (s := s)
      have d3 : ∀ s, drawD da [tokD da, .int 3] s = .ok (.int (drawM s 3).1) (drawM s 3).2 := fun s => drawD_eq (by decide) (by decide)
      have dw : ∀ s', drawD da [tokD da, .int (wideM s)] s' = .ok (.int (drawM s' (wideM s)).1) (drawM s' (wideM s)).2 := fun s' => drawD_eq (by omega) (by omega)
      have dm : ∀ s', drawD da [tokD da, .int (m : Int)] s' = .ok (.int (drawM s' (m : Int)).1) (drawM s' (m : Int)).2 := fun s' => drawD_eq (by omega) (by omega)
      unfold tokD at hp d3 dw dm
      simp only [code_law_row, h1a, h1, h2a, h2, hp, d3, dw, dm, one_lim, four_lim, exSs_cons, exSs_nil, seqK_next, seqK_ret, exS_set, exS_ret, exS_exp, exS_skip, exS_never, exS_iff, ifK_b, testM_eq, testK_b, exS_app, exS_par, exS_tset, tsetK_t, exS_loop, runK_next, runK_ret, evO, evF, freshX, esc, escs, frz, ev_var, ev_lit, ev_bin, ev_neg, negK_i, ev_not, notK_b, ev_and, andK_b, ev_or, orK_b, ev_ite, iteK_b, ev_chn, chnK_le, ev_list, ev_tup, ev_idx, ev_slc, ev_rev, revK_l, ev_blt, ev_isi, isiK_s, ev_call, ev_comp, ev_compC, evs_cons, evs_nil, getV, isiD, List.length_cons, List.length_nil, List.map_cons, List.map_nil, List.replicate, List.append_eq, List.nil_append, List.cons_append, List.append_nil, List.getElem?_cons_zero, List.getElem?_cons_succ, Rs.of_some, Rs.bind_ok, Rs.bind_stuck, if_true, Bool.false_eq_true, if_false, List.set_cons_zero, List.set_cons_succ, Nat.zero_add, Nat.reduceAdd, Nat.reduceSub, add_ii, sub_ii, mul_2i, lt_ii, le_ii, gt_ii, ge_ii, len_ix, sorted_ix, sum_ix, eq_ix, ne_ix, turnE_one, turnC_one, turnC_b, turnL_one, reduceIte, Bool.not_true, Bool.not_false, Bool.true_eq_false, is_tt, isnot_tt, loopK_s, len_lit0]
      obtain ⟨n, hn, en⟩ := draw_nat (rowS3 s) (n := m) (by omega)
      have en2 : rowN s m = n := by unfold rowN; rw [en]; rfl
      rw [show (drawM (drawM (drawM (rowS1 s) 3).2 (wideM s)).2 (m : Int)).1 = (n : Int) from en, src_rng1' (lim_ok (by omega))]
      simp only [exSs_cons, exSs_nil, seqK_next, seqK_ret, exS_set, exS_ret, exS_exp, exS_skip, exS_never, exS_iff, ifK_b, testM_eq, testK_b, exS_app, exS_par, exS_tset, tsetK_t, exS_loop, runK_next, runK_ret, evO, evF, freshX, esc, escs, frz, ev_var, ev_lit, ev_bin, ev_neg, negK_i, ev_not, notK_b, ev_and, andK_b, ev_or, orK_b, ev_ite, iteK_b, ev_chn, chnK_le, ev_list, ev_tup, ev_idx, ev_slc, ev_rev, revK_l, ev_blt, ev_isi, isiK_s, ev_call, ev_comp, ev_compC, evs_cons, evs_nil, getV, isiD, List.length_cons, List.length_nil, List.map_cons, List.map_nil, List.replicate, List.append_eq, List.nil_append, List.cons_append, List.append_nil, List.getElem?_cons_zero, List.getElem?_cons_succ, Rs.of_some, Rs.bind_ok, Rs.bind_stuck, if_true, Bool.false_eq_true, if_false, List.set_cons_zero, List.set_cons_succ, Nat.zero_add, Nat.reduceAdd, Nat.reduceSub, add_ii, sub_ii, mul_2i, lt_ii, le_ii, gt_ii, ge_ii, len_ix, sorted_ix, sum_ix, eq_ix, ne_ix, turnE_one, turnC_one, turnC_b, turnL_one, reduceIte, Bool.not_true, Bool.not_false, Bool.true_eq_false, is_tt, isnot_tt, loopK_s, len_lit0]
      have hb := forM_rng (f := turnL TB (.one 5) [.app 4 (.ite (.bin .lt (.call 101 [.var 0, .lit (.int 3)]) (.var 3)) (.idx (.var 4) (.neg (.lit (.int 1)))) (.call 101 [.var 0, .var 2]))]) (lo := 0) (n := n)
        (fun j => [.val (.dict [(.int (da : Int), .none)]), .val (.int (m : Int)), .val (.int (wideM s)), .val (.int (drawM (rowS1 s) 3).1), .own (ix (rowLoop (wideM s) (drawM (rowS1 s) 3).1 ([(drawM (rowS2 s) (wideM s)).1], rowS4 s m) j).1), if j = 0 then .un else .val (.int ((j : Int) - 1))])
        (fun j => (rowLoop (wideM s) (drawM (rowS1 s) 3).1 ([(drawM (rowS2 s) (wideM s)).1], rowS4 s m) j).2) (fun j hj => ?_)
      · rw [if_pos rfl] at hb
        have hb' : forM (turnL TB (.one 5) [.app 4 (.ite (.bin .lt (.call 101 [.var 0, .lit (.int 3)]) (.var 3)) (.idx (.var 4) (.neg (.lit (.int 1)))) (.call 101 [.var 0, .var 2]))]) (upto 0 n) [.val (.dict [(.int (da : Int), .none)]), .val (.int (m : Int)), .val (.int (wideM s)), .val (.int (drawM (rowS1 s) 3).1), .own [.int (drawM (drawM (rowS1 s) 3).2 (wideM s)).1], .un] (drawM (drawM (drawM (rowS1 s) 3).2 (wideM s)).2 (m : Int)).2 = _ := hb
        rw [hb']
        simp only [exSs_cons, exSs_nil, seqK_next, seqK_ret, exS_set, exS_ret, exS_exp, exS_skip, exS_never, exS_iff, ifK_b, testM_eq, testK_b, exS_app, exS_par, exS_tset, tsetK_t, exS_loop, runK_next, runK_ret, evO, evF, freshX, esc, escs, frz, ev_var, ev_lit, ev_bin, ev_neg, negK_i, ev_not, notK_b, ev_and, andK_b, ev_or, orK_b, ev_ite, iteK_b, ev_chn, chnK_le, ev_list, ev_tup, ev_idx, ev_slc, ev_rev, revK_l, ev_blt, ev_isi, isiK_s, ev_call, ev_comp, ev_compC, evs_cons, evs_nil, getV, isiD, List.length_cons, List.length_nil, List.map_cons, List.map_nil, List.replicate, List.append_eq, List.nil_append, List.cons_append, List.append_nil, List.getElem?_cons_zero, List.getElem?_cons_succ, Rs.of_some, Rs.bind_ok, Rs.bind_stuck, if_true, Bool.false_eq_true, if_false, List.set_cons_zero, List.set_cons_succ, Nat.zero_add, Nat.reduceAdd, Nat.reduceSub, add_ii, sub_ii, mul_2i, lt_ii, le_ii, gt_ii, ge_ii, len_ix, sorted_ix, sum_ix, eq_ix, ne_ix, turnE_one, turnC_one, turnC_b, turnL_one, reduceIte, Bool.not_true, Bool.not_false, Bool.true_eq_false, is_tt, isnot_tt, loopK_s, len_lit0]
        unfold lawRow
        rw [en2]
      · obtain ⟨hv, hlj⟩ := rowLoop_ok (wide := wideM s) (stay := (drawM (rowS1 s) 3).1) (p := ([(drawM (rowS2 s) (wideM s)).1], rowS4 s m)) (by omega) ⟨by simp, fun x hx => by
          rw [List.mem_singleton.mp hx]
          have d0 := drawM_nonneg (rowS2 s) (limit := wideM s) (by omega)
          have d1 := drawM_lt (rowS2 s) (limit := wideM s) (by omega)
          omega⟩ j
        have hlj' : (rowLoop (wideM s) (drawM (rowS1 s) 3).1 ([(drawM (rowS2 s) (wideM s)).1], rowS4 s m) j).1.length = 1 + j := hlj
        generalize hq : rowLoop (wideM s) (drawM (rowS1 s) 3).1 ([(drawM (rowS2 s) (wideM s)).1], rowS4 s m) j = q at hv hlj'
        simp only [rowLoop, hq]
        simp only [h1a, h1, d3, dw, exSs_cons, exSs_nil, seqK_next, seqK_ret, exS_set, exS_ret, exS_exp, exS_skip, exS_never, exS_iff, ifK_b, testM_eq, testK_b, exS_app, exS_par, exS_tset, tsetK_t, exS_loop, runK_next, runK_ret, evO, evF, freshX, esc, escs, frz, ev_var, ev_lit, ev_bin, ev_neg, negK_i, ev_not, notK_b, ev_and, andK_b, ev_or, orK_b, ev_ite, iteK_b, ev_chn, chnK_le, ev_list, ev_tup, ev_idx, ev_slc, ev_rev, revK_l, ev_blt, ev_isi, isiK_s, ev_call, ev_comp, ev_compC, evs_cons, evs_nil, getV, isiD, List.length_cons, List.length_nil, List.map_cons, List.map_nil, List.replicate, List.append_eq, List.nil_append, List.cons_append, List.append_nil, List.getElem?_cons_zero, List.getElem?_cons_succ, Rs.of_some, Rs.bind_ok, Rs.bind_stuck, if_true, Bool.false_eq_true, if_false, List.set_cons_zero, List.set_cons_succ, Nat.zero_add, Nat.reduceAdd, Nat.reduceSub, add_ii, sub_ii, mul_2i, lt_ii, le_ii, gt_ii, ge_ii, len_ix, sorted_ix, sum_ix, eq_ix, ne_ix, turnE_one, turnC_one, turnC_b, turnL_one, reduceIte, Bool.not_true, Bool.not_false, Bool.true_eq_false, is_tt, isnot_tt, loopK_s, len_lit0]
        rw [appK_own rfl]
        simp only [h1a, h1, d3, dw, idx_last hv.1, exSs_cons, exSs_nil, seqK_next, seqK_ret, exS_set, exS_ret, exS_exp, exS_skip, exS_never, exS_iff, ifK_b, testM_eq, testK_b, exS_app, exS_par, exS_tset, tsetK_t, exS_loop, runK_next, runK_ret, evO, evF, freshX, esc, escs, frz, ev_var, ev_lit, ev_bin, ev_neg, negK_i, ev_not, notK_b, ev_and, andK_b, ev_or, orK_b, ev_ite, iteK_b, ev_chn, chnK_le, ev_list, ev_tup, ev_idx, ev_slc, ev_rev, revK_l, ev_blt, ev_isi, isiK_s, ev_call, ev_comp, ev_compC, evs_cons, evs_nil, getV, isiD, List.length_cons, List.length_nil, List.map_cons, List.map_nil, List.replicate, List.append_eq, List.nil_append, List.cons_append, List.append_nil, List.getElem?_cons_zero, List.getElem?_cons_succ, Rs.of_some, Rs.bind_ok, Rs.bind_stuck, if_true, Bool.false_eq_true, if_false, List.set_cons_zero, List.set_cons_succ, Nat.zero_add, Nat.reduceAdd, Nat.reduceSub, add_ii, sub_ii, mul_2i, lt_ii, le_ii, gt_ii, ge_ii, len_ix, sorted_ix, sum_ix, eq_ix, ne_ix, turnE_one, turnC_one, turnC_b, turnL_one, reduceIte, Bool.not_true, Bool.not_false, Bool.true_eq_false, is_tt, isnot_tt, loopK_s, len_lit0]
        unfold rowStep
        by_cases hst : (drawM q.2 3).1 < (drawM (rowS1 s) 3).1
        · simp only [hst, decide_true, ix_length, exSs_cons, exSs_nil, seqK_next, seqK_ret, exS_set, exS_ret, exS_exp, exS_skip, exS_never, exS_iff, ifK_b, testM_eq, testK_b, exS_app, exS_par, exS_tset, tsetK_t, exS_loop, runK_next, runK_ret, evO, evF, freshX, esc, escs, frz, ev_var, ev_lit, ev_bin, ev_neg, negK_i, ev_not, notK_b, ev_and, andK_b, ev_or, orK_b, ev_ite, iteK_b, ev_chn, chnK_le, ev_list, ev_tup, ev_idx, ev_slc, ev_rev, revK_l, ev_blt, ev_isi, isiK_s, ev_call, ev_comp, ev_compC, evs_cons, evs_nil, getV, isiD, List.length_cons, List.length_nil, List.map_cons, List.map_nil, List.replicate, List.append_eq, List.nil_append, List.cons_append, List.append_nil, List.getElem?_cons_zero, List.getElem?_cons_succ, Rs.of_some, Rs.bind_ok, Rs.bind_stuck, if_true, Bool.false_eq_true, if_false, List.set_cons_zero, List.set_cons_succ, Nat.zero_add, Nat.reduceAdd, Nat.reduceSub, add_ii, sub_ii, mul_2i, lt_ii, le_ii, gt_ii, ge_ii, len_ix, sorted_ix, sum_ix, eq_ix, ne_ix, turnE_one, turnC_one, turnC_b, turnL_one, reduceIte, Bool.not_true, Bool.not_false, Bool.true_eq_false, is_tt, isnot_tt, loopK_s, len_lit0]
          rw [if_pos (by rw [hlj']; exact lim_lt (by omega)), if_neg (show ¬ (j + 1 = 0) by omega)]
          simp only [exSs_cons, exSs_nil, seqK_next, seqK_ret, exS_set, exS_ret, exS_exp, exS_skip, exS_never, exS_iff, ifK_b, testM_eq, testK_b, exS_app, exS_par, exS_tset, tsetK_t, exS_loop, runK_next, runK_ret, evO, evF, freshX, esc, escs, frz, ev_var, ev_lit, ev_bin, ev_neg, negK_i, ev_not, notK_b, ev_and, andK_b, ev_or, orK_b, ev_ite, iteK_b, ev_chn, chnK_le, ev_list, ev_tup, ev_idx, ev_slc, ev_rev, revK_l, ev_blt, ev_isi, isiK_s, ev_call, ev_comp, ev_compC, evs_cons, evs_nil, getV, isiD, List.length_cons, List.length_nil, List.map_cons, List.map_nil, List.replicate, List.append_eq, List.nil_append, List.cons_append, List.append_nil, List.getElem?_cons_zero, List.getElem?_cons_succ, Rs.of_some, Rs.bind_ok, Rs.bind_stuck, if_true, Bool.false_eq_true, if_false, List.set_cons_zero, List.set_cons_succ, Nat.zero_add, Nat.reduceAdd, Nat.reduceSub, add_ii, sub_ii, mul_2i, lt_ii, le_ii, gt_ii, ge_ii, len_ix, sorted_ix, sum_ix, eq_ix, ne_ix, turnE_one, turnC_one, turnC_b, turnL_one, reduceIte, Bool.not_true, Bool.not_false, Bool.true_eq_false, is_tt, isnot_tt, loopK_s, len_lit0]
          rw [show ([PyData.int (near q.1 ((q.1.length : Int) - 1))] : List D) = ix [near q.1 ((q.1.length : Int) - 1)] from rfl, ix_append, show (0 : Int) + (j : Int) = ((j + 1 : Nat) : Int) - 1 by omega]
        · simp only [hst, decide_false, ix_length, exSs_cons, exSs_nil, seqK_next, seqK_ret, exS_set, exS_ret, exS_exp, exS_skip, exS_never, exS_iff, ifK_b, testM_eq, testK_b, exS_app, exS_par, exS_tset, tsetK_t, exS_loop, runK_next, runK_ret, evO, evF, freshX, esc, escs, frz, ev_var, ev_lit, ev_bin, ev_neg, negK_i, ev_not, notK_b, ev_and, andK_b, ev_or, orK_b, ev_ite, iteK_b, ev_chn, chnK_le, ev_list, ev_tup, ev_idx, ev_slc, ev_rev, revK_l, ev_blt, ev_isi, isiK_s, ev_call, ev_comp, ev_compC, evs_cons, evs_nil, getV, isiD, List.length_cons, List.length_nil, List.map_cons, List.map_nil, List.replicate, List.append_eq, List.nil_append, List.cons_append, List.append_nil, List.getElem?_cons_zero, List.getElem?_cons_succ, Rs.of_some, Rs.bind_ok, Rs.bind_stuck, if_true, Bool.false_eq_true, if_false, List.set_cons_zero, List.set_cons_succ, Nat.zero_add, Nat.reduceAdd, Nat.reduceSub, add_ii, sub_ii, mul_2i, lt_ii, le_ii, gt_ii, ge_ii, len_ix, sorted_ix, sum_ix, eq_ix, ne_ix, turnE_one, turnC_one, turnC_b, turnL_one, reduceIte, Bool.not_true, Bool.not_false, Bool.true_eq_false, is_tt, isnot_tt, loopK_s, len_lit0]
          rw [if_pos (by rw [hlj']; exact lim_lt (by omega)), if_neg (show ¬ (j + 1 = 0) by omega)]
          simp only [exSs_cons, exSs_nil, seqK_next, seqK_ret, exS_set, exS_ret, exS_exp, exS_skip, exS_never, exS_iff, ifK_b, testM_eq, testK_b, exS_app, exS_par, exS_tset, tsetK_t, exS_loop, runK_next, runK_ret, evO, evF, freshX, esc, escs, frz, ev_var, ev_lit, ev_bin, ev_neg, negK_i, ev_not, notK_b, ev_and, andK_b, ev_or, orK_b, ev_ite, iteK_b, ev_chn, chnK_le, ev_list, ev_tup, ev_idx, ev_slc, ev_rev, revK_l, ev_blt, ev_isi, isiK_s, ev_call, ev_comp, ev_compC, evs_cons, evs_nil, getV, isiD, List.length_cons, List.length_nil, List.map_cons, List.map_nil, List.replicate, List.append_eq, List.nil_append, List.cons_append, List.append_nil, List.getElem?_cons_zero, List.getElem?_cons_succ, Rs.of_some, Rs.bind_ok, Rs.bind_stuck, if_true, Bool.false_eq_true, if_false, List.set_cons_zero, List.set_cons_succ, Nat.zero_add, Nat.reduceAdd, Nat.reduceSub, add_ii, sub_ii, mul_2i, lt_ii, le_ii, gt_ii, ge_ii, len_ix, sorted_ix, sum_ix, eq_ix, ne_ix, turnE_one, turnC_one, turnC_b, turnL_one, reduceIte, Bool.not_true, Bool.not_false, Bool.true_eq_false, is_tt, isnot_tt, loopK_s, len_lit0]
          rw [show ([PyData.int (drawM (drawM q.2 3).2 (wideM s)).1] : List D) = ix [(drawM (drawM q.2 3).2 (wideM s)).1] from rfl, ix_append, show (0 : Int) + (j : Int) = ((j + 1 : Nat) : Int) - 1 by omega]
    · exact absurd rfl h
  · exact absurd rfl h
end
end MR

namespace MR
open PySem L2
section
variable {T : Type} {TB : Tab T} {r : MRho} {s : T}
def code_law_near : List Cm := [.ret (.idx (.var 0) (.blt .min [.blt .max [.var 1, .lit (.int 0)], .bin .sub (.blt .len [.var 0]) (.lit (.int 1))]))]
def nearD {T : Type} : List D → T → Rs T D
  | [.list ds, .int i], s => match intsOf ds with
    | some row => if small row then .ok (.int (near row i)) s else .stuck
    | none => .stuck
  | _, _ => .stuck
theorem nearD_eq {row : List Int} (h : small row) (i : Int) : nearD [.list (ix row), .int i] s = .ok (.int (near row i)) s := by
  simp only [nearD, intsOf_ix]
  rw [if_pos h]
theorem max_ii (i j : Int) : bltD .max [.int i, .int j] = some (.int (if j > i then j else i)) := by simp only [bltD]
theorem min_ii (i j : Int) : bltD .min [.int i, .int j] = some (.int (if j < i then j else i)) := by simp only [bltD]
theorem run_near : ∀ (ds : List D) (s : T), ds.length = 2 → nearD ds s ≠ .stuck → runD TB 2 code_law_near ds s = nearD ds s := by
  intro ds s hlen h
  unfold nearD at h
  split at h
  · rename_i ds i
    split at h
    · rename_i row hr
      split at h
      · rename_i hc
        have e := of_intsOf hr
        subst e
        rw [runD_eq, show nearD [.list (row.map PyData.int), .int i] s = _ from nearD_eq hc i]
        have hl : 0 < row.length := List.length_pos_iff.mpr hc.1
        have lx : bltD .len [.list (row.map PyData.int)] = some (.int (row.length : Int)) := len_ix row
        simp only [code_law_near, max_ii, min_ii, lx, exSs_cons, exSs_nil, seqK_next, seqK_ret, exS_set, exS_ret, exS_exp, exS_skip, exS_never, exS_iff, ifK_b, testM_eq, testK_b, exS_app, exS_par, exS_tset, tsetK_t, exS_loop, runK_next, runK_ret, evO, evF, freshX, esc, escs, frz, ev_var, ev_lit, ev_bin, ev_neg, negK_i, ev_not, notK_b, ev_and, andK_b, ev_or, orK_b, ev_ite, iteK_b, ev_chn, chnK_le, ev_list, ev_tup, ev_idx, ev_slc, ev_rev, revK_l, ev_blt, ev_isi, isiK_s, ev_call, ev_comp, ev_compC, evs_cons, evs_nil, getV, isiD, List.length_cons, List.length_nil, List.map_cons, List.map_nil, List.replicate, List.append_eq, List.nil_append, List.cons_append, List.append_nil, List.getElem?_cons_zero, List.getElem?_cons_succ, Rs.of_some, Rs.bind_ok, Rs.bind_stuck, if_true, Bool.false_eq_true, if_false, List.set_cons_zero, List.set_cons_succ, Nat.zero_add, Nat.reduceAdd, Nat.reduceSub, add_ii, sub_ii, mul_2i, lt_ii, le_ii, gt_ii, ge_ii, len_ix, sorted_ix, sum_ix, eq_ix, ne_ix, turnE_one, turnC_one, turnC_b, turnL_one, reduceIte, Bool.not_true, Bool.not_false, Bool.true_eq_false, is_tt, isnot_tt, loopK_s, len_lit0]
        have e2 : (if (row.length : Int) - 1 < (if (0 : Int) > i then 0 else i) then (row.length : Int) - 1 else (if (0 : Int) > i then 0 else i)) = min (max i 0) ((row.length : Int) - 1) := by
          split <;> split <;> omega
        rw [e2, show idxD (.list (row.map PyData.int)) (.int (min (max i 0) ((row.length : Int) - 1))) = _ from idx_ixI (xs := row) (by omega) (by omega)]
        simp only [exSs_cons, exSs_nil, seqK_next, seqK_ret, exS_set, exS_ret, exS_exp, exS_skip, exS_never, exS_iff, ifK_b, testM_eq, testK_b, exS_app, exS_par, exS_tset, tsetK_t, exS_loop, runK_next, runK_ret, evO, evF, freshX, esc, escs, frz, ev_var, ev_lit, ev_bin, ev_neg, negK_i, ev_not, notK_b, ev_and, andK_b, ev_or, orK_b, ev_ite, iteK_b, ev_chn, chnK_le, ev_list, ev_tup, ev_idx, ev_slc, ev_rev, revK_l, ev_blt, ev_isi, isiK_s, ev_call, ev_comp, ev_compC, evs_cons, evs_nil, getV, isiD, List.length_cons, List.length_nil, List.map_cons, List.map_nil, List.replicate, List.append_eq, List.nil_append, List.cons_append, List.append_nil, List.getElem?_cons_zero, List.getElem?_cons_succ, Rs.of_some, Rs.bind_ok, Rs.bind_stuck, if_true, Bool.false_eq_true, if_false, List.set_cons_zero, List.set_cons_succ, Nat.zero_add, Nat.reduceAdd, Nat.reduceSub, add_ii, sub_ii, mul_2i, lt_ii, le_ii, gt_ii, ge_ii, len_ix, sorted_ix, sum_ix, eq_ix, ne_ix, turnE_one, turnC_one, turnC_b, turnL_one, reduceIte, Bool.not_true, Bool.not_false, Bool.true_eq_false, is_tt, isnot_tt, loopK_s, len_lit0]
        rfl
      · exact absurd rfl h
    · exact absurd rfl h
  · exact absurd rfl h
/-- a window by near -/
theorem run_win {row : List Int} {src : List Xp} {tg : Tg} {elt : Xp} {i : Int} {w : Nat} (hw : w ≤ 1000) (hi1 : -100000 ≤ i) (hi2 : i ≤ 100000) (hs : evs TB true r src s = .ok [.int i, .int (i + (w : Int))] s)
    (he : ∀ (j : Nat), j < w → turnE TB r tg elt (.int (i + (j : Int))) s = .ok (some (.int (near row (i + (j : Int))))) s) : compF TB .rng src r (turnE TB r tg elt) s = .ok (ix (win row i w)) s := by
  have e : (i + (w : Int) - i).toNat = w := by omega
  refine compF_of hs (src_rng2' (by omega) (by omega) (by omega) (by omega)) (by rw [upto_length, e]; exact lim_ok (by omega)) ?_
  rw [e, upto_map, compM_map (g := fun (j : Nat) => PyData.int (near row (i + (j : Int)))) fun j hj => he j (by simpa using hj)]
  rw [ix_map]
  rfl
/-- a filter of ints -/
theorem run_filter {xs : List Int} {src : List Xp} {tg : Tg} {elt c : Xp} {p : Int → Bool} (hl : xs.length ≤ 1000) (hs : evs TB true r src s = .ok [.list (ix xs)] s)
    (he : ∀ x ∈ xs, turnC TB r tg elt c (.int x) s = .ok (if p x = true then some (.int x) else none) s) : compF TB .seq src r (turnC TB r tg elt c) s = .ok (ix (xs.filter p)) s := by
  refine compF_of hs rfl (by rw [ix_length]; exact lim_ok hl) ?_
  unfold ix
  rw [compM_fmap (p := p) (g := PyData.int) he]
end
/-! ### the middle one by counting -/
theorem sorted_split {l : List Int} (hs : l.Pairwise (· ≤ ·)) {k : Nat} (hk : k < l.length) : (∀ x ∈ l.take k, x ≤ l[k]) ∧ (∀ x ∈ l.drop (k + 1), l[k] ≤ x) := by
  have e : l = l.take k ++ l[k] :: l.drop (k + 1) := by
    rw [← List.drop_eq_getElem_cons hk, List.take_append_drop]
  have hs' := hs
  rw [e] at hs'
  have h1 := List.pairwise_append.mp hs'
  refine ⟨fun x hx => h1.2.2 x hx _ List.mem_cons_self, fun x hx => (List.pairwise_cons.mp h1.2.1).1 x hx⟩
theorem count_split (l : List Int) (p : Int → Bool) {k : Nat} (hk : k < l.length) : l.countP p = (l.take k).countP p + ((if p l[k] = true then 1 else 0) + (l.drop (k + 1)).countP p) := by
  have e : l = l.take k ++ l[k] :: l.drop (k + 1) := by
    rw [← List.drop_eq_getElem_cons hk, List.take_append_drop]
  have q : l.countP p = (l.take k ++ l[k] :: l.drop (k + 1)).countP p := by rw [← e]
  rw [q, List.countP_append, List.countP_cons]
  omega
theorem lt_mid {l : List Int} (hs : l.Pairwise (· ≤ ·)) {k : Nat} (hk : k < l.length) : l.countP (fun o => decide (o < l[k])) ≤ k := by
  obtain ⟨h1, h2⟩ := sorted_split hs hk
  rw [count_split l _ hk]
  have a : (l.drop (k + 1)).countP (fun o => decide (o < l[k])) = 0 := by
    rw [List.countP_eq_zero]
    intro x hx
    have := h2 x hx
    simp
    omega
  have b := List.countP_le_length (p := fun o => decide (o < l[k])) (l := l.take k)
  rw [List.length_take] at b
  rw [a]
  simp
  omega
theorem gt_mid {l : List Int} (hs : l.Pairwise (· ≤ ·)) {k : Nat} (hk : k < l.length) : l.countP (fun o => decide (l[k] < o)) ≤ l.length - 1 - k := by
  obtain ⟨h1, h2⟩ := sorted_split hs hk
  rw [count_split l _ hk]
  have a : (l.take k).countP (fun o => decide (l[k] < o)) = 0 := by
    rw [List.countP_eq_zero]
    intro x hx
    have := h1 x hx
    simp
    omega
  have b := List.countP_le_length (p := fun o => decide (l[k] < o)) (l := l.drop (k + 1))
  rw [List.length_drop] at b
  rw [a]
  simp
  omega
theorem lt_many {l : List Int} (hs : l.Pairwise (· ≤ ·)) {k : Nat} (hk : k < l.length) {v : Int} (hv : l[k] < v) : k + 1 ≤ l.countP (fun o => decide (o < v)) := by
  obtain ⟨h1, h2⟩ := sorted_split hs hk
  rw [count_split l _ hk]
  have a : (l.take k).countP (fun o => decide (o < v)) = (l.take k).length := by
    rw [List.countP_eq_length]
    intro x hx
    have := h1 x hx
    simp
    omega
  rw [a, List.length_take]
  simp [hv]
  omega
theorem gt_many {l : List Int} (hs : l.Pairwise (· ≤ ·)) {k : Nat} (hk : k < l.length) {v : Int} (hv : v < l[k]) : l.length - k ≤ l.countP (fun o => decide (v < o)) := by
  obtain ⟨h1, h2⟩ := sorted_split hs hk
  rw [count_split l _ hk]
  have a : (l.drop (k + 1)).countP (fun o => decide (v < o)) = (l.drop (k + 1)).length := by
    rw [List.countP_eq_length]
    intro x hx
    have := h2 x hx
    simp
    omega
  rw [a, List.length_drop]
  simp [hv]
  omega
def good1 (k : Nat) (w : List Int) : List Int := w.filter fun v => decide (((w.filter fun o => decide (o < v)).length : Int) ≤ (k : Int))
def good2 (k : Nat) (w : List Int) : List Int := (good1 k w).filter fun v => decide (((w.filter fun o => decide (v < o)).length : Int) ≤ (k : Int))
theorem medAt_getElem {k : Nat} {w : List Int} (h : k < w.length) : medAt k w = (isort w)[k]'(by rw [isort_length]; exact h) := by
  unfold medAt
  rw [List.getD_eq_getElem?_getD, List.getElem?_eq_getElem (by rw [isort_length]; exact h)]
  rfl
theorem good2_mem {k : Nat} {w : List Int} (hw : w.length = 2 * k + 1) {v : Int} : v ∈ good2 k w ↔ v = medAt k w := by
  have hk : k < (isort w).length := by rw [isort_length]; omega
  have hs := isort_sorted w
  have pl := isort_perm w
  have hlen : (isort w).length = 2 * k + 1 := by rw [isort_length, hw]
  have c1 : ∀ v, (w.filter fun o => decide (o < v)).length = (isort w).countP fun o => decide (o < v) := fun v => by rw [← List.countP_eq_length_filter]; exact (pl.countP_eq _).symm
  have c2 : ∀ v, (w.filter fun o => decide (v < o)).length = (isort w).countP fun o => decide (v < o) := fun v => by rw [← List.countP_eq_length_filter]; exact (pl.countP_eq _).symm
  rw [medAt_getElem (by omega)]
  unfold good2 good1
  simp only [List.mem_filter, decide_eq_true_eq, c1, c2]
  constructor
  · rintro ⟨⟨hm, h1⟩, h2⟩
    rcases Int.lt_trichotomy v (isort w)[k] with h | h | h
    · have := gt_many hs hk h
      omega
    · exact h
    · have := lt_many hs hk h
      omega
  · rintro rfl
    refine ⟨⟨pl.mem_iff.mp (List.getElem_mem _), ?_⟩, ?_⟩
    · have := lt_mid hs hk
      omega
    · have := gt_mid hs hk
      omega
theorem good2_first {k : Nat} {w : List Int} (hw : w.length = 2 * k + 1) : ∃ t, good2 k w = medAt k w :: t := by
  cases q : good2 k w with
  | nil =>
    have := (good2_mem (v := medAt k w) hw).mpr rfl
    rw [q] at this
    cases this
  | cons x t =>
    have : x ∈ good2 k w := by rw [q]; exact List.mem_cons_self
    rw [(good2_mem hw).mp this]
    exact ⟨t, rfl⟩
section
variable {T : Type} {TB : Tab T} {r : MRho} {s : T}
def code_law_median : List Cm := [.set 2 (.list []), .loop (.one 3) .rng [.blt .len [.var 0]] [.set 4 (.comp (.call 105 [.var 0, .var 5]) (.one 5) .rng [.bin .sub (.var 3) (.var 1), .bin .add (.bin .add (.var 3) (.var 1)) (.lit (.int 1))] none), .set 6 (.comp (.var 7) (.one 7) .seq [.var 4] (some (.bin .le (.blt .len [.comp (.var 8) (.one 8) .seq [.var 4] (some (.bin .lt (.var 8) (.var 7)))]) (.var 1)))), .set 6 (.comp (.var 7) (.one 7) .seq [.var 6] (some (.bin .le (.blt .len [.comp (.var 8) (.one 8) .seq [.var 4] (some (.bin .gt (.var 8) (.var 7)))]) (.var 1)))), .app 2 (.idx (.var 6) (.lit (.int 0)))], .ret (.var 2)]
theorem run_law_median (ha : TB.ar 105 = 2) (hf : TB.F 105 = nearD) : ∀ (ds : List D) (s : T), ds.length = 2 → medianD ds s ≠ .stuck → runD TB 9 code_law_median ds s = medianD ds s := by
  intro ds s hlen h
  obtain ⟨row, k, rfl, hp, k1, k3, e⟩ := onRK_inv h
  rw [show medianD [.list (ix row), .int (k : Int)] s = _ from e, runD_eq]
  have h100 := hp.2
  have hn : ∀ i, nearD [.list (ix row), .int i] s = .ok (.int (near row i)) s := fun i => nearD_eq hp i
  simp only [code_law_median, len_lit0, src_rng1' (n := row.length) (lim_ok (by omega)), exSs_cons, exSs_nil, seqK_next, seqK_ret, exS_set, exS_ret, exS_exp, exS_skip, exS_never, exS_iff, ifK_b, testM_eq, testK_b, exS_app, exS_par, exS_tset, tsetK_t, exS_loop, runK_next, runK_ret, evO, evF, freshX, esc, escs, frz, ev_var, ev_lit, ev_bin, ev_neg, negK_i, ev_not, notK_b, ev_and, andK_b, ev_or, orK_b, ev_ite, iteK_b, ev_chn, chnK_le, ev_list, ev_tup, ev_idx, ev_slc, ev_rev, revK_l, ev_blt, ev_isi, isiK_s, ev_call, ev_comp, ev_compC, evs_cons, evs_nil, getV, isiD, List.length_cons, List.length_nil, List.map_cons, List.map_nil, List.replicate, List.append_eq, List.nil_append, List.cons_append, List.append_nil, List.getElem?_cons_zero, List.getElem?_cons_succ, Rs.of_some, Rs.bind_ok, Rs.bind_stuck, if_true, Bool.false_eq_true, if_false, List.set_cons_zero, List.set_cons_succ, Nat.zero_add, Nat.reduceAdd, Nat.reduceSub, add_ii, sub_ii, mul_2i, lt_ii, le_ii, gt_ii, ge_ii, len_ix, sorted_ix, sum_ix, eq_ix, ne_ix, turnE_one, turnC_one, turnC_b, turnL_one, reduceIte, Bool.not_true, Bool.not_false, Bool.true_eq_false, is_tt, isnot_tt, loopK_s, len_lit0]
  have hb := forM_rng (f := turnL TB (.one 3) [.set 4 (.comp (.call 105 [.var 0, .var 5]) (.one 5) .rng [.bin .sub (.var 3) (.var 1), .bin .add (.bin .add (.var 3) (.var 1)) (.lit (.int 1))] none), .set 6 (.comp (.var 7) (.one 7) .seq [.var 4] (some (.bin .le (.blt .len [.comp (.var 8) (.one 8) .seq [.var 4] (some (.bin .lt (.var 8) (.var 7)))]) (.var 1)))), .set 6 (.comp (.var 7) (.one 7) .seq [.var 6] (some (.bin .le (.blt .len [.comp (.var 8) (.one 8) .seq [.var 4] (some (.bin .gt (.var 8) (.var 7)))]) (.var 1)))), .app 2 (.idx (.var 6) (.lit (.int 0)))]) (lo := 0) (n := row.length)
    (fun j => if j = 0 then [.val (.list (ix row)), .val (.int (k : Int)), .own [], .un, .un, .un, .un, .un, .un]
      else [.val (.list (ix row)), .val (.int (k : Int)), .own (ix ((medianM row k).take j)), .val (.int ((j : Int) - 1)), .own (ix (win row ((j : Int) - 1 - (k : Int)) (2 * k + 1))), .un, .own (ix (good2 k (win row ((j : Int) - 1 - (k : Int)) (2 * k + 1)))), .un, .un])
    (fun _ => s) (fun j hj => ?_)
  · rw [if_pos rfl] at hb
    rw [hb, if_neg (by have := List.length_pos_iff.mpr hp.1; omega)]
    rw [show (medianM row k).take row.length = medianM row k from List.take_of_length_le (by rw [medianM_length]; exact Nat.le_refl _)]
    simp only [exSs_cons, exSs_nil, seqK_next, seqK_ret, exS_set, exS_ret, exS_exp, exS_skip, exS_never, exS_iff, ifK_b, testM_eq, testK_b, exS_app, exS_par, exS_tset, tsetK_t, exS_loop, runK_next, runK_ret, evO, evF, freshX, esc, escs, frz, ev_var, ev_lit, ev_bin, ev_neg, negK_i, ev_not, notK_b, ev_and, andK_b, ev_or, orK_b, ev_ite, iteK_b, ev_chn, chnK_le, ev_list, ev_tup, ev_idx, ev_slc, ev_rev, revK_l, ev_blt, ev_isi, isiK_s, ev_call, ev_comp, ev_compC, evs_cons, evs_nil, getV, isiD, List.length_cons, List.length_nil, List.map_cons, List.map_nil, List.replicate, List.append_eq, List.nil_append, List.cons_append, List.append_nil, List.getElem?_cons_zero, List.getElem?_cons_succ, Rs.of_some, Rs.bind_ok, Rs.bind_stuck, if_true, Bool.false_eq_true, if_false, List.set_cons_zero, List.set_cons_succ, Nat.zero_add, Nat.reduceAdd, Nat.reduceSub, add_ii, sub_ii, mul_2i, lt_ii, le_ii, gt_ii, ge_ii, len_ix, sorted_ix, sum_ix, eq_ix, ne_ix, turnE_one, turnC_one, turnC_b, turnL_one, reduceIte, Bool.not_true, Bool.not_false, Bool.true_eq_false, is_tt, isnot_tt, loopK_s, len_lit0]
  · have key : ∀ (a b c : Slt), exSs TB [.set 4 (.comp (.call 105 [.var 0, .var 5]) (.one 5) .rng [.bin .sub (.var 3) (.var 1), .bin .add (.bin .add (.var 3) (.var 1)) (.lit (.int 1))] none), .set 6 (.comp (.var 7) (.one 7) .seq [.var 4] (some (.bin .le (.blt .len [.comp (.var 8) (.one 8) .seq [.var 4] (some (.bin .lt (.var 8) (.var 7)))]) (.var 1)))), .set 6 (.comp (.var 7) (.one 7) .seq [.var 6] (some (.bin .le (.blt .len [.comp (.var 8) (.one 8) .seq [.var 4] (some (.bin .gt (.var 8) (.var 7)))]) (.var 1)))), .app 2 (.idx (.var 6) (.lit (.int 0)))]
        [.val (.list (ix row)), .val (.int (k : Int)), .own (ix ((medianM row k).take j)), .val (.int (j : Int)), a, .un, b, .un, .un] s = .ok (.next [.val (.list (ix row)), .val (.int (k : Int)), .own (ix ((medianM row k).take (j + 1))), .val (.int (j : Int)), .own (ix (win row ((j : Int) - (k : Int)) (2 * k + 1))), .un, .own (ix (good2 k (win row ((j : Int) - (k : Int)) (2 * k + 1)))), .un, .un]) s := by
      intro a b _
      have hwl : (win row ((j : Int) - (k : Int)) (2 * k + 1)).length = 2 * k + 1 := win_length _ _ _
      generalize hwq : win row ((j : Int) - (k : Int)) (2 * k + 1) = w at hwl
      have ew : ∀ (r' : MRho), True := fun _ => trivial
      simp only [exSs_cons, exSs_nil, seqK_next, seqK_ret, exS_set, exS_ret, exS_exp, exS_skip, exS_never, exS_iff, ifK_b, testM_eq, testK_b, exS_app, exS_par, exS_tset, tsetK_t, exS_loop, runK_next, runK_ret, evO, evF, freshX, esc, escs, frz, ev_var, ev_lit, ev_bin, ev_neg, negK_i, ev_not, notK_b, ev_and, andK_b, ev_or, orK_b, ev_ite, iteK_b, ev_chn, chnK_le, ev_list, ev_tup, ev_idx, ev_slc, ev_rev, revK_l, ev_blt, ev_isi, isiK_s, ev_call, ev_comp, ev_compC, evs_cons, evs_nil, getV, isiD, List.length_cons, List.length_nil, List.map_cons, List.map_nil, List.replicate, List.append_eq, List.nil_append, List.cons_append, List.append_nil, List.getElem?_cons_zero, List.getElem?_cons_succ, Rs.of_some, Rs.bind_ok, Rs.bind_stuck, if_true, Bool.false_eq_true, if_false, List.set_cons_zero, List.set_cons_succ, Nat.zero_add, Nat.reduceAdd, Nat.reduceSub, add_ii, sub_ii, mul_2i, lt_ii, le_ii, gt_ii, ge_ii, len_ix, sorted_ix, sum_ix, eq_ix, ne_ix, turnE_one, turnC_one, turnC_b, turnL_one, reduceIte, Bool.not_true, Bool.not_false, Bool.true_eq_false, is_tt, isnot_tt, loopK_s, len_lit0]
      rw [run_win (row := row) (i := (j : Int) - (k : Int)) (w := 2 * k + 1) (by omega) (by omega) (by omega) (by simp only [show (j : Int) + (k : Int) + 1 = (j : Int) - (k : Int) + ((2 * k + 1 : Nat) : Int) by omega, exSs_cons, exSs_nil, seqK_next, seqK_ret, exS_set, exS_ret, exS_exp, exS_skip, exS_never, exS_iff, ifK_b, testM_eq, testK_b, exS_app, exS_par, exS_tset, tsetK_t, exS_loop, runK_next, runK_ret, evO, evF, freshX, esc, escs, frz, ev_var, ev_lit, ev_bin, ev_neg, negK_i, ev_not, notK_b, ev_and, andK_b, ev_or, orK_b, ev_ite, iteK_b, ev_chn, chnK_le, ev_list, ev_tup, ev_idx, ev_slc, ev_rev, revK_l, ev_blt, ev_isi, isiK_s, ev_call, ev_comp, ev_compC, evs_cons, evs_nil, getV, isiD, List.length_cons, List.length_nil, List.map_cons, List.map_nil, List.replicate, List.append_eq, List.nil_append, List.cons_append, List.append_nil, List.getElem?_cons_zero, List.getElem?_cons_succ, Rs.of_some, Rs.bind_ok, Rs.bind_stuck, if_true, Bool.false_eq_true, if_false, List.set_cons_zero, List.set_cons_succ, Nat.zero_add, Nat.reduceAdd, Nat.reduceSub, add_ii, sub_ii, mul_2i, lt_ii, le_ii, gt_ii, ge_ii, len_ix, sorted_ix, sum_ix, eq_ix, ne_ix, turnE_one, turnC_one, turnC_b, turnL_one, reduceIte, Bool.not_true, Bool.not_false, Bool.true_eq_false, is_tt, isnot_tt, loopK_s, len_lit0]) (fun m hm => by simp only [ha, hf, hn, exSs_cons, exSs_nil, seqK_next, seqK_ret, exS_set, exS_ret, exS_exp, exS_skip, exS_never, exS_iff, ifK_b, testM_eq, testK_b, exS_app, exS_par, exS_tset, tsetK_t, exS_loop, runK_next, runK_ret, evO, evF, freshX, esc, escs, frz, ev_var, ev_lit, ev_bin, ev_neg, negK_i, ev_not, notK_b, ev_and, andK_b, ev_or, orK_b, ev_ite, iteK_b, ev_chn, chnK_le, ev_list, ev_tup, ev_idx, ev_slc, ev_rev, revK_l, ev_blt, ev_isi, isiK_s, ev_call, ev_comp, ev_compC, evs_cons, evs_nil, getV, isiD, List.length_cons, List.length_nil, List.map_cons, List.map_nil, List.replicate, List.append_eq, List.nil_append, List.cons_append, List.append_nil, List.getElem?_cons_zero, List.getElem?_cons_succ, Rs.of_some, Rs.bind_ok, Rs.bind_stuck, if_true, Bool.false_eq_true, if_false, List.set_cons_zero, List.set_cons_succ, Nat.zero_add, Nat.reduceAdd, Nat.reduceSub, add_ii, sub_ii, mul_2i, lt_ii, le_ii, gt_ii, ge_ii, len_ix, sorted_ix, sum_ix, eq_ix, ne_ix, turnE_one, turnC_one, turnC_b, turnL_one, reduceIte, Bool.not_true, Bool.not_false, Bool.true_eq_false, is_tt, isnot_tt, loopK_s, len_lit0])]
      rw [hwq]
      simp only [exSs_cons, exSs_nil, seqK_next, seqK_ret, exS_set, exS_ret, exS_exp, exS_skip, exS_never, exS_iff, ifK_b, testM_eq, testK_b, exS_app, exS_par, exS_tset, tsetK_t, exS_loop, runK_next, runK_ret, evO, evF, freshX, esc, escs, frz, ev_var, ev_lit, ev_bin, ev_neg, negK_i, ev_not, notK_b, ev_and, andK_b, ev_or, orK_b, ev_ite, iteK_b, ev_chn, chnK_le, ev_list, ev_tup, ev_idx, ev_slc, ev_rev, revK_l, ev_blt, ev_isi, isiK_s, ev_call, ev_comp, ev_compC, evs_cons, evs_nil, getV, isiD, List.length_cons, List.length_nil, List.map_cons, List.map_nil, List.replicate, List.append_eq, List.nil_append, List.cons_append, List.append_nil, List.getElem?_cons_zero, List.getElem?_cons_succ, Rs.of_some, Rs.bind_ok, Rs.bind_stuck, if_true, Bool.false_eq_true, if_false, List.set_cons_zero, List.set_cons_succ, Nat.zero_add, Nat.reduceAdd, Nat.reduceSub, add_ii, sub_ii, mul_2i, lt_ii, le_ii, gt_ii, ge_ii, len_ix, sorted_ix, sum_ix, eq_ix, ne_ix, turnE_one, turnC_one, turnC_b, turnL_one, reduceIte, Bool.not_true, Bool.not_false, Bool.true_eq_false, is_tt, isnot_tt, loopK_s, len_lit0]
      rw [run_filter (xs := w) (p := fun v => decide (((w.filter fun o => decide (o < v)).length : Int) ≤ (k : Int))) (by omega) (by simp only [exSs_cons, exSs_nil, seqK_next, seqK_ret, exS_set, exS_ret, exS_exp, exS_skip, exS_never, exS_iff, ifK_b, testM_eq, testK_b, exS_app, exS_par, exS_tset, tsetK_t, exS_loop, runK_next, runK_ret, evO, evF, freshX, esc, escs, frz, ev_var, ev_lit, ev_bin, ev_neg, negK_i, ev_not, notK_b, ev_and, andK_b, ev_or, orK_b, ev_ite, iteK_b, ev_chn, chnK_le, ev_list, ev_tup, ev_idx, ev_slc, ev_rev, revK_l, ev_blt, ev_isi, isiK_s, ev_call, ev_comp, ev_compC, evs_cons, evs_nil, getV, isiD, List.length_cons, List.length_nil, List.map_cons, List.map_nil, List.replicate, List.append_eq, List.nil_append, List.cons_append, List.append_nil, List.getElem?_cons_zero, List.getElem?_cons_succ, Rs.of_some, Rs.bind_ok, Rs.bind_stuck, if_true, Bool.false_eq_true, if_false, List.set_cons_zero, List.set_cons_succ, Nat.zero_add, Nat.reduceAdd, Nat.reduceSub, add_ii, sub_ii, mul_2i, lt_ii, le_ii, gt_ii, ge_ii, len_ix, sorted_ix, sum_ix, eq_ix, ne_ix, turnE_one, turnC_one, turnC_b, turnL_one, reduceIte, Bool.not_true, Bool.not_false, Bool.true_eq_false, is_tt, isnot_tt, loopK_s, len_lit0]) (fun x hx => by
        simp only [exSs_cons, exSs_nil, seqK_next, seqK_ret, exS_set, exS_ret, exS_exp, exS_skip, exS_never, exS_iff, ifK_b, testM_eq, testK_b, exS_app, exS_par, exS_tset, tsetK_t, exS_loop, runK_next, runK_ret, evO, evF, freshX, esc, escs, frz, ev_var, ev_lit, ev_bin, ev_neg, negK_i, ev_not, notK_b, ev_and, andK_b, ev_or, orK_b, ev_ite, iteK_b, ev_chn, chnK_le, ev_list, ev_tup, ev_idx, ev_slc, ev_rev, revK_l, ev_blt, ev_isi, isiK_s, ev_call, ev_comp, ev_compC, evs_cons, evs_nil, getV, isiD, List.length_cons, List.length_nil, List.map_cons, List.map_nil, List.replicate, List.append_eq, List.nil_append, List.cons_append, List.append_nil, List.getElem?_cons_zero, List.getElem?_cons_succ, Rs.of_some, Rs.bind_ok, Rs.bind_stuck, if_true, Bool.false_eq_true, if_false, List.set_cons_zero, List.set_cons_succ, Nat.zero_add, Nat.reduceAdd, Nat.reduceSub, add_ii, sub_ii, mul_2i, lt_ii, le_ii, gt_ii, ge_ii, len_ix, sorted_ix, sum_ix, eq_ix, ne_ix, turnE_one, turnC_one, turnC_b, turnL_one, reduceIte, Bool.not_true, Bool.not_false, Bool.true_eq_false, is_tt, isnot_tt, loopK_s, len_lit0]
        rw [run_filter (xs := w) (p := fun o => decide (o < x)) (by omega) (by simp only [exSs_cons, exSs_nil, seqK_next, seqK_ret, exS_set, exS_ret, exS_exp, exS_skip, exS_never, exS_iff, ifK_b, testM_eq, testK_b, exS_app, exS_par, exS_tset, tsetK_t, exS_loop, runK_next, runK_ret, evO, evF, freshX, esc, escs, frz, ev_var, ev_lit, ev_bin, ev_neg, negK_i, ev_not, notK_b, ev_and, andK_b, ev_or, orK_b, ev_ite, iteK_b, ev_chn, chnK_le, ev_list, ev_tup, ev_idx, ev_slc, ev_rev, revK_l, ev_blt, ev_isi, isiK_s, ev_call, ev_comp, ev_compC, evs_cons, evs_nil, getV, isiD, List.length_cons, List.length_nil, List.map_cons, List.map_nil, List.replicate, List.append_eq, List.nil_append, List.cons_append, List.append_nil, List.getElem?_cons_zero, List.getElem?_cons_succ, Rs.of_some, Rs.bind_ok, Rs.bind_stuck, if_true, Bool.false_eq_true, if_false, List.set_cons_zero, List.set_cons_succ, Nat.zero_add, Nat.reduceAdd, Nat.reduceSub, add_ii, sub_ii, mul_2i, lt_ii, le_ii, gt_ii, ge_ii, len_ix, sorted_ix, sum_ix, eq_ix, ne_ix, turnE_one, turnC_one, turnC_b, turnL_one, reduceIte, Bool.not_true, Bool.not_false, Bool.true_eq_false, is_tt, isnot_tt, loopK_s, len_lit0]) (fun y hy => by
          simp only [exSs_cons, exSs_nil, seqK_next, seqK_ret, exS_set, exS_ret, exS_exp, exS_skip, exS_never, exS_iff, ifK_b, testM_eq, testK_b, exS_app, exS_par, exS_tset, tsetK_t, exS_loop, runK_next, runK_ret, evO, evF, freshX, esc, escs, frz, ev_var, ev_lit, ev_bin, ev_neg, negK_i, ev_not, notK_b, ev_and, andK_b, ev_or, orK_b, ev_ite, iteK_b, ev_chn, chnK_le, ev_list, ev_tup, ev_idx, ev_slc, ev_rev, revK_l, ev_blt, ev_isi, isiK_s, ev_call, ev_comp, ev_compC, evs_cons, evs_nil, getV, isiD, List.length_cons, List.length_nil, List.map_cons, List.map_nil, List.replicate, List.append_eq, List.nil_append, List.cons_append, List.append_nil, List.getElem?_cons_zero, List.getElem?_cons_succ, Rs.of_some, Rs.bind_ok, Rs.bind_stuck, if_true, Bool.false_eq_true, if_false, List.set_cons_zero, List.set_cons_succ, Nat.zero_add, Nat.reduceAdd, Nat.reduceSub, add_ii, sub_ii, mul_2i, lt_ii, le_ii, gt_ii, ge_ii, len_ix, sorted_ix, sum_ix, eq_ix, ne_ix, turnE_one, turnC_one, turnC_b, turnL_one, reduceIte, Bool.not_true, Bool.not_false, Bool.true_eq_false, is_tt, isnot_tt, loopK_s, len_lit0]
          by_cases q : y < x <;> simp only [q, decide_true, decide_false, exSs_cons, exSs_nil, seqK_next, seqK_ret, exS_set, exS_ret, exS_exp, exS_skip, exS_never, exS_iff, ifK_b, testM_eq, testK_b, exS_app, exS_par, exS_tset, tsetK_t, exS_loop, runK_next, runK_ret, evO, evF, freshX, esc, escs, frz, ev_var, ev_lit, ev_bin, ev_neg, negK_i, ev_not, notK_b, ev_and, andK_b, ev_or, orK_b, ev_ite, iteK_b, ev_chn, chnK_le, ev_list, ev_tup, ev_idx, ev_slc, ev_rev, revK_l, ev_blt, ev_isi, isiK_s, ev_call, ev_comp, ev_compC, evs_cons, evs_nil, getV, isiD, List.length_cons, List.length_nil, List.map_cons, List.map_nil, List.replicate, List.append_eq, List.nil_append, List.cons_append, List.append_nil, List.getElem?_cons_zero, List.getElem?_cons_succ, Rs.of_some, Rs.bind_ok, Rs.bind_stuck, if_true, Bool.false_eq_true, if_false, List.set_cons_zero, List.set_cons_succ, Nat.zero_add, Nat.reduceAdd, Nat.reduceSub, add_ii, sub_ii, mul_2i, lt_ii, le_ii, gt_ii, ge_ii, len_ix, sorted_ix, sum_ix, eq_ix, ne_ix, turnE_one, turnC_one, turnC_b, turnL_one, reduceIte, Bool.not_true, Bool.not_false, Bool.true_eq_false, is_tt, isnot_tt, loopK_s, len_lit0])]
        simp only [exSs_cons, exSs_nil, seqK_next, seqK_ret, exS_set, exS_ret, exS_exp, exS_skip, exS_never, exS_iff, ifK_b, testM_eq, testK_b, exS_app, exS_par, exS_tset, tsetK_t, exS_loop, runK_next, runK_ret, evO, evF, freshX, esc, escs, frz, ev_var, ev_lit, ev_bin, ev_neg, negK_i, ev_not, notK_b, ev_and, andK_b, ev_or, orK_b, ev_ite, iteK_b, ev_chn, chnK_le, ev_list, ev_tup, ev_idx, ev_slc, ev_rev, revK_l, ev_blt, ev_isi, isiK_s, ev_call, ev_comp, ev_compC, evs_cons, evs_nil, getV, isiD, List.length_cons, List.length_nil, List.map_cons, List.map_nil, List.replicate, List.append_eq, List.nil_append, List.cons_append, List.append_nil, List.getElem?_cons_zero, List.getElem?_cons_succ, Rs.of_some, Rs.bind_ok, Rs.bind_stuck, if_true, Bool.false_eq_true, if_false, List.set_cons_zero, List.set_cons_succ, Nat.zero_add, Nat.reduceAdd, Nat.reduceSub, add_ii, sub_ii, mul_2i, lt_ii, le_ii, gt_ii, ge_ii, len_ix, sorted_ix, sum_ix, eq_ix, ne_ix, turnE_one, turnC_one, turnC_b, turnL_one, reduceIte, Bool.not_true, Bool.not_false, Bool.true_eq_false, is_tt, isnot_tt, loopK_s, len_lit0]
        by_cases q : ((w.filter fun o => decide (o < x)).length : Int) ≤ (k : Int) <;> simp only [q, decide_true, decide_false, exSs_cons, exSs_nil, seqK_next, seqK_ret, exS_set, exS_ret, exS_exp, exS_skip, exS_never, exS_iff, ifK_b, testM_eq, testK_b, exS_app, exS_par, exS_tset, tsetK_t, exS_loop, runK_next, runK_ret, evO, evF, freshX, esc, escs, frz, ev_var, ev_lit, ev_bin, ev_neg, negK_i, ev_not, notK_b, ev_and, andK_b, ev_or, orK_b, ev_ite, iteK_b, ev_chn, chnK_le, ev_list, ev_tup, ev_idx, ev_slc, ev_rev, revK_l, ev_blt, ev_isi, isiK_s, ev_call, ev_comp, ev_compC, evs_cons, evs_nil, getV, isiD, List.length_cons, List.length_nil, List.map_cons, List.map_nil, List.replicate, List.append_eq, List.nil_append, List.cons_append, List.append_nil, List.getElem?_cons_zero, List.getElem?_cons_succ, Rs.of_some, Rs.bind_ok, Rs.bind_stuck, if_true, Bool.false_eq_true, if_false, List.set_cons_zero, List.set_cons_succ, Nat.zero_add, Nat.reduceAdd, Nat.reduceSub, add_ii, sub_ii, mul_2i, lt_ii, le_ii, gt_ii, ge_ii, len_ix, sorted_ix, sum_ix, eq_ix, ne_ix, turnE_one, turnC_one, turnC_b, turnL_one, reduceIte, Bool.not_true, Bool.not_false, Bool.true_eq_false, is_tt, isnot_tt, loopK_s, len_lit0])]
      rw [show w.filter (fun v => decide (((w.filter fun o => decide (o < v)).length : Int) ≤ (k : Int))) = good1 k w from rfl]
      have hg1 : (good1 k w).length ≤ w.length := List.length_filter_le _ _
      simp only [exSs_cons, exSs_nil, seqK_next, seqK_ret, exS_set, exS_ret, exS_exp, exS_skip, exS_never, exS_iff, ifK_b, testM_eq, testK_b, exS_app, exS_par, exS_tset, tsetK_t, exS_loop, runK_next, runK_ret, evO, evF, freshX, esc, escs, frz, ev_var, ev_lit, ev_bin, ev_neg, negK_i, ev_not, notK_b, ev_and, andK_b, ev_or, orK_b, ev_ite, iteK_b, ev_chn, chnK_le, ev_list, ev_tup, ev_idx, ev_slc, ev_rev, revK_l, ev_blt, ev_isi, isiK_s, ev_call, ev_comp, ev_compC, evs_cons, evs_nil, getV, isiD, List.length_cons, List.length_nil, List.map_cons, List.map_nil, List.replicate, List.append_eq, List.nil_append, List.cons_append, List.append_nil, List.getElem?_cons_zero, List.getElem?_cons_succ, Rs.of_some, Rs.bind_ok, Rs.bind_stuck, if_true, Bool.false_eq_true, if_false, List.set_cons_zero, List.set_cons_succ, Nat.zero_add, Nat.reduceAdd, Nat.reduceSub, add_ii, sub_ii, mul_2i, lt_ii, le_ii, gt_ii, ge_ii, len_ix, sorted_ix, sum_ix, eq_ix, ne_ix, turnE_one, turnC_one, turnC_b, turnL_one, reduceIte, Bool.not_true, Bool.not_false, Bool.true_eq_false, is_tt, isnot_tt, loopK_s, len_lit0]
      rw [run_filter (xs := good1 k w) (p := fun v => decide (((w.filter fun o => decide (v < o)).length : Int) ≤ (k : Int))) (by omega) (by simp only [exSs_cons, exSs_nil, seqK_next, seqK_ret, exS_set, exS_ret, exS_exp, exS_skip, exS_never, exS_iff, ifK_b, testM_eq, testK_b, exS_app, exS_par, exS_tset, tsetK_t, exS_loop, runK_next, runK_ret, evO, evF, freshX, esc, escs, frz, ev_var, ev_lit, ev_bin, ev_neg, negK_i, ev_not, notK_b, ev_and, andK_b, ev_or, orK_b, ev_ite, iteK_b, ev_chn, chnK_le, ev_list, ev_tup, ev_idx, ev_slc, ev_rev, revK_l, ev_blt, ev_isi, isiK_s, ev_call, ev_comp, ev_compC, evs_cons, evs_nil, getV, isiD, List.length_cons, List.length_nil, List.map_cons, List.map_nil, List.replicate, List.append_eq, List.nil_append, List.cons_append, List.append_nil, List.getElem?_cons_zero, List.getElem?_cons_succ, Rs.of_some, Rs.bind_ok, Rs.bind_stuck, if_true, Bool.false_eq_true, if_false, List.set_cons_zero, List.set_cons_succ, Nat.zero_add, Nat.reduceAdd, Nat.reduceSub, add_ii, sub_ii, mul_2i, lt_ii, le_ii, gt_ii, ge_ii, len_ix, sorted_ix, sum_ix, eq_ix, ne_ix, turnE_one, turnC_one, turnC_b, turnL_one, reduceIte, Bool.not_true, Bool.not_false, Bool.true_eq_false, is_tt, isnot_tt, loopK_s, len_lit0]) (fun x hx => by
        simp only [exSs_cons, exSs_nil, seqK_next, seqK_ret, exS_set, exS_ret, exS_exp, exS_skip, exS_never, exS_iff, ifK_b, testM_eq, testK_b, exS_app, exS_par, exS_tset, tsetK_t, exS_loop, runK_next, runK_ret, evO, evF, freshX, esc, escs, frz, ev_var, ev_lit, ev_bin, ev_neg, negK_i, ev_not, notK_b, ev_and, andK_b, ev_or, orK_b, ev_ite, iteK_b, ev_chn, chnK_le, ev_list, ev_tup, ev_idx, ev_slc, ev_rev, revK_l, ev_blt, ev_isi, isiK_s, ev_call, ev_comp, ev_compC, evs_cons, evs_nil, getV, isiD, List.length_cons, List.length_nil, List.map_cons, List.map_nil, List.replicate, List.append_eq, List.nil_append, List.cons_append, List.append_nil, List.getElem?_cons_zero, List.getElem?_cons_succ, Rs.of_some, Rs.bind_ok, Rs.bind_stuck, if_true, Bool.false_eq_true, if_false, List.set_cons_zero, List.set_cons_succ, Nat.zero_add, Nat.reduceAdd, Nat.reduceSub, add_ii, sub_ii, mul_2i, lt_ii, le_ii, gt_ii, ge_ii, len_ix, sorted_ix, sum_ix, eq_ix, ne_ix, turnE_one, turnC_one, turnC_b, turnL_one, reduceIte, Bool.not_true, Bool.not_false, Bool.true_eq_false, is_tt, isnot_tt, loopK_s, len_lit0]
        rw [run_filter (xs := w) (p := fun o => decide (x < o)) (by omega) (by simp only [exSs_cons, exSs_nil, seqK_next, seqK_ret, exS_set, exS_ret, exS_exp, exS_skip, exS_never, exS_iff, ifK_b, testM_eq, testK_b, exS_app, exS_par, exS_tset, tsetK_t, exS_loop, runK_next, runK_ret, evO, evF, freshX, esc, escs, frz, ev_var, ev_lit, ev_bin, ev_neg, negK_i, ev_not, notK_b, ev_and, andK_b, ev_or, orK_b, ev_ite, iteK_b, ev_chn, chnK_le, ev_list, ev_tup, ev_idx, ev_slc, ev_rev, revK_l, ev_blt, ev_isi, isiK_s, ev_call, ev_comp, ev_compC, evs_cons, evs_nil, getV, isiD, List.length_cons, List.length_nil, List.map_cons, List.map_nil, List.replicate, List.append_eq, List.nil_append, List.cons_append, List.append_nil, List.getElem?_cons_zero, List.getElem?_cons_succ, Rs.of_some, Rs.bind_ok, Rs.bind_stuck, if_true, Bool.false_eq_true, if_false, List.set_cons_zero, List.set_cons_succ, Nat.zero_add, Nat.reduceAdd, Nat.reduceSub, add_ii, sub_ii, mul_2i, lt_ii, le_ii, gt_ii, ge_ii, len_ix, sorted_ix, sum_ix, eq_ix, ne_ix, turnE_one, turnC_one, turnC_b, turnL_one, reduceIte, Bool.not_true, Bool.not_false, Bool.true_eq_false, is_tt, isnot_tt, loopK_s, len_lit0]) (fun y hy => by
          simp only [exSs_cons, exSs_nil, seqK_next, seqK_ret, exS_set, exS_ret, exS_exp, exS_skip, exS_never, exS_iff, ifK_b, testM_eq, testK_b, exS_app, exS_par, exS_tset, tsetK_t, exS_loop, runK_next, runK_ret, evO, evF, freshX, esc, escs, frz, ev_var, ev_lit, ev_bin, ev_neg, negK_i, ev_not, notK_b, ev_and, andK_b, ev_or, orK_b, ev_ite, iteK_b, ev_chn, chnK_le, ev_list, ev_tup, ev_idx, ev_slc, ev_rev, revK_l, ev_blt, ev_isi, isiK_s, ev_call, ev_comp, ev_compC, evs_cons, evs_nil, getV, isiD, List.length_cons, List.length_nil, List.map_cons, List.map_nil, List.replicate, List.append_eq, List.nil_append, List.cons_append, List.append_nil, List.getElem?_cons_zero, List.getElem?_cons_succ, Rs.of_some, Rs.bind_ok, Rs.bind_stuck, if_true, Bool.false_eq_true, if_false, List.set_cons_zero, List.set_cons_succ, Nat.zero_add, Nat.reduceAdd, Nat.reduceSub, add_ii, sub_ii, mul_2i, lt_ii, le_ii, gt_ii, ge_ii, len_ix, sorted_ix, sum_ix, eq_ix, ne_ix, turnE_one, turnC_one, turnC_b, turnL_one, reduceIte, Bool.not_true, Bool.not_false, Bool.true_eq_false, is_tt, isnot_tt, loopK_s, len_lit0]
          by_cases q : x < y <;> simp only [q, decide_true, decide_false, exSs_cons, exSs_nil, seqK_next, seqK_ret, exS_set, exS_ret, exS_exp, exS_skip, exS_never, exS_iff, ifK_b, testM_eq, testK_b, exS_app, exS_par, exS_tset, tsetK_t, exS_loop, runK_next, runK_ret, evO, evF, freshX, esc, escs, frz, ev_var, ev_lit, ev_bin, ev_neg, negK_i, ev_not, notK_b, ev_and, andK_b, ev_or, orK_b, ev_ite, iteK_b, ev_chn, chnK_le, ev_list, ev_tup, ev_idx, ev_slc, ev_rev, revK_l, ev_blt, ev_isi, isiK_s, ev_call, ev_comp, ev_compC, evs_cons, evs_nil, getV, isiD, List.length_cons, List.length_nil, List.map_cons, List.map_nil, List.replicate, List.append_eq, List.nil_append, List.cons_append, List.append_nil, List.getElem?_cons_zero, List.getElem?_cons_succ, Rs.of_some, Rs.bind_ok, Rs.bind_stuck, if_true, Bool.false_eq_true, if_false, List.set_cons_zero, List.set_cons_succ, Nat.zero_add, Nat.reduceAdd, Nat.reduceSub, add_ii, sub_ii, mul_2i, lt_ii, le_ii, gt_ii, ge_ii, len_ix, sorted_ix, sum_ix, eq_ix, ne_ix, turnE_one, turnC_one, turnC_b, turnL_one, reduceIte, Bool.not_true, Bool.not_false, Bool.true_eq_false, is_tt, isnot_tt, loopK_s, len_lit0])]
        simp only [exSs_cons, exSs_nil, seqK_next, seqK_ret, exS_set, exS_ret, exS_exp, exS_skip, exS_never, exS_iff, ifK_b, testM_eq, testK_b, exS_app, exS_par, exS_tset, tsetK_t, exS_loop, runK_next, runK_ret, evO, evF, freshX, esc, escs, frz, ev_var, ev_lit, ev_bin, ev_neg, negK_i, ev_not, notK_b, ev_and, andK_b, ev_or, orK_b, ev_ite, iteK_b, ev_chn, chnK_le, ev_list, ev_tup, ev_idx, ev_slc, ev_rev, revK_l, ev_blt, ev_isi, isiK_s, ev_call, ev_comp, ev_compC, evs_cons, evs_nil, getV, isiD, List.length_cons, List.length_nil, List.map_cons, List.map_nil, List.replicate, List.append_eq, List.nil_append, List.cons_append, List.append_nil, List.getElem?_cons_zero, List.getElem?_cons_succ, Rs.of_some, Rs.bind_ok, Rs.bind_stuck, if_true, Bool.false_eq_true, if_false, List.set_cons_zero, List.set_cons_succ, Nat.zero_add, Nat.reduceAdd, Nat.reduceSub, add_ii, sub_ii, mul_2i, lt_ii, le_ii, gt_ii, ge_ii, len_ix, sorted_ix, sum_ix, eq_ix, ne_ix, turnE_one, turnC_one, turnC_b, turnL_one, reduceIte, Bool.not_true, Bool.not_false, Bool.true_eq_false, is_tt, isnot_tt, loopK_s, len_lit0]
        by_cases q : ((w.filter fun o => decide (x < o)).length : Int) ≤ (k : Int) <;> simp only [q, decide_true, decide_false, exSs_cons, exSs_nil, seqK_next, seqK_ret, exS_set, exS_ret, exS_exp, exS_skip, exS_never, exS_iff, ifK_b, testM_eq, testK_b, exS_app, exS_par, exS_tset, tsetK_t, exS_loop, runK_next, runK_ret, evO, evF, freshX, esc, escs, frz, ev_var, ev_lit, ev_bin, ev_neg, negK_i, ev_not, notK_b, ev_and, andK_b, ev_or, orK_b, ev_ite, iteK_b, ev_chn, chnK_le, ev_list, ev_tup, ev_idx, ev_slc, ev_rev, revK_l, ev_blt, ev_isi, isiK_s, ev_call, ev_comp, ev_compC, evs_cons, evs_nil, getV, isiD, List.length_cons, List.length_nil, List.map_cons, List.map_nil, List.replicate, List.append_eq, List.nil_append, List.cons_append, List.append_nil, List.getElem?_cons_zero, List.getElem?_cons_succ, Rs.of_some, Rs.bind_ok, Rs.bind_stuck, if_true, Bool.false_eq_true, if_false, List.set_cons_zero, List.set_cons_succ, Nat.zero_add, Nat.reduceAdd, Nat.reduceSub, add_ii, sub_ii, mul_2i, lt_ii, le_ii, gt_ii, ge_ii, len_ix, sorted_ix, sum_ix, eq_ix, ne_ix, turnE_one, turnC_one, turnC_b, turnL_one, reduceIte, Bool.not_true, Bool.not_false, Bool.true_eq_false, is_tt, isnot_tt, loopK_s, len_lit0])]
      rw [show (good1 k w).filter (fun v => decide (((w.filter fun o => decide (v < o)).length : Int) ≤ (k : Int))) = good2 k w from rfl]
      simp only [exSs_cons, exSs_nil, seqK_next, seqK_ret, exS_set, exS_ret, exS_exp, exS_skip, exS_never, exS_iff, ifK_b, testM_eq, testK_b, exS_app, exS_par, exS_tset, tsetK_t, exS_loop, runK_next, runK_ret, evO, evF, freshX, esc, escs, frz, ev_var, ev_lit, ev_bin, ev_neg, negK_i, ev_not, notK_b, ev_and, andK_b, ev_or, orK_b, ev_ite, iteK_b, ev_chn, chnK_le, ev_list, ev_tup, ev_idx, ev_slc, ev_rev, revK_l, ev_blt, ev_isi, isiK_s, ev_call, ev_comp, ev_compC, evs_cons, evs_nil, getV, isiD, List.length_cons, List.length_nil, List.map_cons, List.map_nil, List.replicate, List.append_eq, List.nil_append, List.cons_append, List.append_nil, List.getElem?_cons_zero, List.getElem?_cons_succ, Rs.of_some, Rs.bind_ok, Rs.bind_stuck, if_true, Bool.false_eq_true, if_false, List.set_cons_zero, List.set_cons_succ, Nat.zero_add, Nat.reduceAdd, Nat.reduceSub, add_ii, sub_ii, mul_2i, lt_ii, le_ii, gt_ii, ge_ii, len_ix, sorted_ix, sum_ix, eq_ix, ne_ix, turnE_one, turnC_one, turnC_b, turnL_one, reduceIte, Bool.not_true, Bool.not_false, Bool.true_eq_false, is_tt, isnot_tt, loopK_s, len_lit0]
      obtain ⟨t, ht⟩ := good2_first (k := k) (w := w) hwl
      rw [appK_own rfl]
      have hi0 : idxD (.list (ix (good2 k w))) (.int 0) = some (.int (medAt k w)) := by
        have q := idx_ix (xs := good2 k w) (j := 0) (by rw [ht]; exact Nat.zero_lt_succ _)
        rw [show ((0 : Nat) : Int) = 0 from rfl] at q
        rw [q, ht]
        rfl
      simp only [hi0, exSs_cons, exSs_nil, seqK_next, seqK_ret, exS_set, exS_ret, exS_exp, exS_skip, exS_never, exS_iff, ifK_b, testM_eq, testK_b, exS_app, exS_par, exS_tset, tsetK_t, exS_loop, runK_next, runK_ret, evO, evF, freshX, esc, escs, frz, ev_var, ev_lit, ev_bin, ev_neg, negK_i, ev_not, notK_b, ev_and, andK_b, ev_or, orK_b, ev_ite, iteK_b, ev_chn, chnK_le, ev_list, ev_tup, ev_idx, ev_slc, ev_rev, revK_l, ev_blt, ev_isi, isiK_s, ev_call, ev_comp, ev_compC, evs_cons, evs_nil, getV, isiD, List.length_cons, List.length_nil, List.map_cons, List.map_nil, List.replicate, List.append_eq, List.nil_append, List.cons_append, List.append_nil, List.getElem?_cons_zero, List.getElem?_cons_succ, Rs.of_some, Rs.bind_ok, Rs.bind_stuck, if_true, Bool.false_eq_true, if_false, List.set_cons_zero, List.set_cons_succ, Nat.zero_add, Nat.reduceAdd, Nat.reduceSub, add_ii, sub_ii, mul_2i, lt_ii, le_ii, gt_ii, ge_ii, len_ix, sorted_ix, sum_ix, eq_ix, ne_ix, turnE_one, turnC_one, turnC_b, turnL_one, reduceIte, Bool.not_true, Bool.not_false, Bool.true_eq_false, is_tt, isnot_tt, loopK_s, len_lit0]
      rw [if_pos (by rw [ix_length, List.length_take, medianM_length]; exact lim_lt (by omega))]
      simp only [exSs_cons, exSs_nil, seqK_next, seqK_ret, exS_set, exS_ret, exS_exp, exS_skip, exS_never, exS_iff, ifK_b, testM_eq, testK_b, exS_app, exS_par, exS_tset, tsetK_t, exS_loop, runK_next, runK_ret, evO, evF, freshX, esc, escs, frz, ev_var, ev_lit, ev_bin, ev_neg, negK_i, ev_not, notK_b, ev_and, andK_b, ev_or, orK_b, ev_ite, iteK_b, ev_chn, chnK_le, ev_list, ev_tup, ev_idx, ev_slc, ev_rev, revK_l, ev_blt, ev_isi, isiK_s, ev_call, ev_comp, ev_compC, evs_cons, evs_nil, getV, isiD, List.length_cons, List.length_nil, List.map_cons, List.map_nil, List.replicate, List.append_eq, List.nil_append, List.cons_append, List.append_nil, List.getElem?_cons_zero, List.getElem?_cons_succ, Rs.of_some, Rs.bind_ok, Rs.bind_stuck, if_true, Bool.false_eq_true, if_false, List.set_cons_zero, List.set_cons_succ, Nat.zero_add, Nat.reduceAdd, Nat.reduceSub, add_ii, sub_ii, mul_2i, lt_ii, le_ii, gt_ii, ge_ii, len_ix, sorted_ix, sum_ix, eq_ix, ne_ix, turnE_one, turnC_one, turnC_b, turnL_one, reduceIte, Bool.not_true, Bool.not_false, Bool.true_eq_false, is_tt, isnot_tt, loopK_s, len_lit0]
      rw [show ([PyData.int (medAt k w)] : List D) = ix [medAt k w] from rfl, ix_append]
      have et : (medianM row k).take (j + 1) = (medianM row k).take j ++ [medAt k w] := by
        rw [List.take_add_one]
        congr 1
        unfold medianM rankM
        rw [List.getElem?_map, List.getElem?_range hj]
        simp only [Option.map_some, Option.toList]
        rw [hwq]
      rw [et]
    simp only [exSs_cons, exSs_nil, seqK_next, seqK_ret, exS_set, exS_ret, exS_exp, exS_skip, exS_never, exS_iff, ifK_b, testM_eq, testK_b, exS_app, exS_par, exS_tset, tsetK_t, exS_loop, runK_next, runK_ret, evO, evF, freshX, esc, escs, frz, ev_var, ev_lit, ev_bin, ev_neg, negK_i, ev_not, notK_b, ev_and, andK_b, ev_or, orK_b, ev_ite, iteK_b, ev_chn, chnK_le, ev_list, ev_tup, ev_idx, ev_slc, ev_rev, revK_l, ev_blt, ev_isi, isiK_s, ev_call, ev_comp, ev_compC, evs_cons, evs_nil, getV, isiD, List.length_cons, List.length_nil, List.map_cons, List.map_nil, List.replicate, List.append_eq, List.nil_append, List.cons_append, List.append_nil, List.getElem?_cons_zero, List.getElem?_cons_succ, Rs.of_some, Rs.bind_ok, Rs.bind_stuck, if_true, Bool.false_eq_true, if_false, List.set_cons_zero, List.set_cons_succ, Nat.zero_add, Nat.reduceAdd, Nat.reduceSub, add_ii, sub_ii, mul_2i, lt_ii, le_ii, gt_ii, ge_ii, len_ix, sorted_ix, sum_ix, eq_ix, ne_ix, turnE_one, turnC_one, turnC_b, turnL_one, reduceIte, Bool.not_true, Bool.not_false, Bool.true_eq_false, is_tt, isnot_tt, loopK_s, len_lit0]
    have e0 : (0 : Int) + (j : Int) = (j : Int) := by omega
    rw [e0, if_neg (show ¬ (j + 1 = 0) by omega)]
    have ej : ((j + 1 : Nat) : Int) - 1 = (j : Int) := by omega
    rw [ej]
    by_cases hj0 : j = 0
    · subst hj0
      rw [if_pos rfl]
      simp only [List.set_cons_zero, List.set_cons_succ]
      exact key _ _ .un
    · rw [if_neg hj0]
      simp only [List.set_cons_zero, List.set_cons_succ]
      exact key _ _ .un
def code_law_true : List Cm := [.ret (.and (.isi .bool (.var 0)) (.bin .eq (.var 0) (.var 1)))]
def lawTrueD {T : Type} : List D → T → Rs T D
  | [.bool a, .bool b], s => .ok (.bool (decide (a = b))) s
  | _, _ => .stuck
theorem eq_bb (a b : Bool) : opD .eq (.bool a) (.bool b) = some (.bool (decide (a = b))) := by cases a <;> cases b <;> rfl
theorem ne_bb (a b : Bool) : opD .ne (.bool a) (.bool b) = some (.bool (!decide (a = b))) := by cases a <;> cases b <;> rfl
theorem run_law_true : ∀ (ds : List D) (s : T), ds.length = 2 → lawTrueD ds s ≠ .stuck → runD TB 2 code_law_true ds s = lawTrueD ds s := by
  intro ds s hlen h
  unfold lawTrueD at h
  split at h
  · rename_i a b
    rw [runD_eq]
    simp only [code_law_true, eq_bb, lawTrueD, exSs_cons, exSs_nil, seqK_next, seqK_ret, exS_set, exS_ret, exS_exp, exS_skip, exS_never, exS_iff, ifK_b, testM_eq, testK_b, exS_app, exS_par, exS_tset, tsetK_t, exS_loop, runK_next, runK_ret, evO, evF, freshX, esc, escs, frz, ev_var, ev_lit, ev_bin, ev_neg, negK_i, ev_not, notK_b, ev_and, andK_b, ev_or, orK_b, ev_ite, iteK_b, ev_chn, chnK_le, ev_list, ev_tup, ev_idx, ev_slc, ev_rev, revK_l, ev_blt, ev_isi, isiK_s, ev_call, ev_comp, ev_compC, evs_cons, evs_nil, getV, isiD, List.length_cons, List.length_nil, List.map_cons, List.map_nil, List.replicate, List.append_eq, List.nil_append, List.cons_append, List.append_nil, List.getElem?_cons_zero, List.getElem?_cons_succ, Rs.of_some, Rs.bind_ok, Rs.bind_stuck, if_true, Bool.false_eq_true, if_false, List.set_cons_zero, List.set_cons_succ, Nat.zero_add, Nat.reduceAdd, Nat.reduceSub, add_ii, sub_ii, mul_2i, lt_ii, le_ii, gt_ii, ge_ii, len_ix, sorted_ix, sum_ix, eq_ix, ne_ix, turnE_one, turnC_one, turnC_b, turnL_one, reduceIte, Bool.not_true, Bool.not_false, Bool.true_eq_false, is_tt, isnot_tt, loopK_s, len_lit0]
  · exact absurd rfl h
end
end MR

namespace MR
/-! ### rows as functions of every place; counts; thresholds -/
theorem eq_of_le {x y : Int} (h : ∀ v, v ≤ x ↔ v ≤ y) : x = y := by
  have h1 := (h x).mp (Int.le_refl x)
  have h2 := (h y).mpr (Int.le_refl y)
  omega
/-- how often p holds at i, .., i + n - 1 -/
def cnt (p : Int → Bool) (i : Int) : Nat → Nat
  | 0 => 0
  | n + 1 => cnt p i n + (if p (i + (n : Int)) = true then 1 else 0)
theorem cnt_add (p : Int → Bool) (i : Int) (m : Nat) : ∀ n : Nat, cnt p i (m + n) = cnt p i m + cnt p (i + (m : Int)) n
  | 0 => by simp [cnt]
  | n + 1 => by
    rw [← Nat.add_assoc, cnt, cnt_add p i m n, cnt, Nat.add_assoc, show i + ((m + n : Nat) : Int) = i + (m : Int) + (n : Int) by omega]
theorem cnt_one (p : Int → Bool) (i : Int) : cnt p i 1 = if p i = true then 1 else 0 := by
  simp [cnt]
theorem cnt_succ' (p : Int → Bool) (i : Int) (n : Nat) : cnt p i (n + 1) = (if p i = true then 1 else 0) + cnt p (i + 1) n := by
  rw [Nat.add_comm n 1, cnt_add, cnt_one]
  rfl
theorem cnt_le (p : Int → Bool) (i : Int) : ∀ n : Nat, cnt p i n ≤ n
  | 0 => Nat.le_refl _
  | n + 1 => by
    have := cnt_le p i n
    rw [cnt]
    split <;> omega
theorem cnt_mono {p q : Int → Bool} {i : Int} : ∀ {n : Nat}, (∀ j, i ≤ j → j < i + (n : Int) → p j = true → q j = true) → cnt p i n ≤ cnt q i n
  | 0, _ => Nat.le_refl _
  | n + 1, h => by
    have h1 := cnt_mono (p := p) (q := q) (i := i) (n := n) fun j a b => h j a (by omega)
    have h2 := h (i + (n : Int)) (by omega) (by omega)
    rw [cnt, cnt]
    by_cases e : p (i + (n : Int)) = true
    · rw [if_pos e, if_pos (h2 e)]
      omega
    · rw [if_neg e]
      split <;> omega
theorem cnt_congr {p q : Int → Bool} {i : Int} {n : Nat} (h : ∀ j, i ≤ j → j < i + (n : Int) → p j = q j) : cnt p i n = cnt q i n :=
  Nat.le_antisymm (cnt_mono fun j a b e => by rw [← h j a b]; exact e) (cnt_mono fun j a b e => by rw [h j a b]; exact e)
theorem cnt_full {p : Int → Bool} {i : Int} : ∀ {n : Nat}, (∀ j, i ≤ j → j < i + (n : Int) → p j = true) → cnt p i n = n
  | 0, _ => rfl
  | n + 1, h => by
    rw [cnt, cnt_full (n := n) fun j a b => h j a (by omega), if_pos (h _ (by omega) (by omega))]
theorem cnt_none {p : Int → Bool} {i : Int} : ∀ {n : Nat}, (∀ j, i ≤ j → j < i + (n : Int) → p j = false) → cnt p i n = 0
  | 0, _ => rfl
  | n + 1, h => by
    rw [cnt, cnt_none (n := n) fun j a b => h j a (by omega), if_neg (by rw [h _ (by omega) (by omega)]; exact Bool.false_ne_true)]
theorem cnt_pos {p : Int → Bool} {i : Int} : ∀ {n : Nat}, 0 < cnt p i n → ∃ j, i ≤ j ∧ j < i + (n : Int) ∧ p j = true
  | 0, h => absurd h (Nat.lt_irrefl 0)
  | n + 1, h => by
    rw [cnt] at h
    by_cases e : p (i + (n : Int)) = true
    · exact ⟨_, by omega, by omega, e⟩
    · rw [if_neg e] at h
      obtain ⟨j, a, b, c⟩ := cnt_pos (n := n) (by omega)
      exact ⟨j, a, by omega, c⟩
theorem cnt_lt {p : Int → Bool} {i : Int} : ∀ {n : Nat}, cnt p i n < n → ∃ j, i ≤ j ∧ j < i + (n : Int) ∧ p j = false
  | 0, h => absurd h (Nat.lt_irrefl 0)
  | n + 1, h => by
    rw [cnt] at h
    by_cases e : p (i + (n : Int)) = true
    · rw [if_pos e] at h
      obtain ⟨j, a, b, c⟩ := cnt_lt (p := p) (i := i) (n := n) (by omega)
      exact ⟨j, a, by omega, c⟩
    · exact ⟨i + (n : Int), by omega, by omega, by simpa using e⟩
theorem cnt_not (p : Int → Bool) (i : Int) : ∀ n : Nat, cnt (fun j => !p j) i n + cnt p i n = n
  | 0 => rfl
  | n + 1 => by
    have := cnt_not p i n
    rw [cnt, cnt]
    cases p (i + (n : Int)) <;> simp <;> omega
theorem cnt_shift (p : Int → Bool) (c i : Int) : ∀ n : Nat, cnt (fun j => p (j + c)) i n = cnt p (i + c) n
  | 0 => rfl
  | n + 1 => by rw [cnt, cnt, cnt_shift p c i n, show i + (n : Int) + c = i + c + (n : Int) by omega]
theorem cnt_flip (p : Int → Bool) (c i : Int) : ∀ n : Nat, cnt (fun j => p (c - j)) i n = cnt p (c - i - (n : Int) + 1) n
  | 0 => rfl
  | n + 1 => by
    rw [cnt, cnt_succ', cnt_flip p c i n, Nat.add_comm]
    rw [show c - i - ((n + 1 : Nat) : Int) + 1 = c - (i + (n : Int)) by omega, show c - (i + (n : Int)) + 1 = c - i - (n : Int) + 1 by omega]
theorem countP_range (p : Int → Bool) (i : Int) (f : Int → Int) (q : Int → Bool) : ∀ n : Nat, ((List.range n).map fun (j : Nat) => f (i + (j : Int))).countP q = cnt (fun j => q (f j)) i n
  | 0 => rfl
  | n + 1 => by
    rw [List.range_succ, List.map_append, List.countP_append, countP_range p i f q n, cnt]
    simp [List.countP_cons]
/-- the value of rank t, by its thresholds -/
theorem le_medAt {w : List Int} {t : Nat} (ht : t < w.length) (v : Int) : v ≤ medAt t w ↔ w.length - t ≤ w.countP fun o => decide (v ≤ o) := by
  have hk : t < (isort w).length := by rw [isort_length]; exact ht
  have hs := isort_sorted w
  have pl := isort_perm w
  rw [medAt_getElem ht]
  have e : (w.countP fun o => decide (v ≤ o)) = (isort w).countP fun o => decide (v ≤ o) := (pl.countP_eq _).symm
  rw [e]
  constructor
  · intro h
    have := gt_many hs hk (v := v - 1) (by omega)
    rw [isort_length] at this
    refine Nat.le_trans this (List.countP_mono_left fun x _ hx => ?_)
    simp only [decide_eq_true_eq] at hx ⊢
    omega
  · intro h
    by_cases q : v ≤ (isort w)[t]
    · exact q
    · have h1 := lt_many hs hk (v := v) (by omega)
      have h2 := List.length_eq_countP_add_countP (fun o => decide (o < v)) (l := isort w)
      have h3 : (isort w).countP (fun a => decide ¬(decide (a < v) = true)) = (isort w).countP fun o => decide (v ≤ o) := by
        refine List.countP_congr fun x _ => ?_
        simp only [decide_eq_true_eq]
        omega
      rw [h3, isort_length] at h2
      omega
/-! ### the filters of a function -/
def rkF (f : Int → Int) (k t : Nat) (i : Int) : Int := medAt t ((List.range (2 * k + 1)).map fun (j : Nat) => f (i - (k : Int) + (j : Int)))
def loF (f : Int → Int) (k : Nat) (i : Int) : Int := maxL ((List.range (k + 1)).map fun (q : Nat) => minL ((List.range (k + 1)).map fun (j : Nat) => f (i - (k : Int) + (q : Int) + (j : Int))))
def upF (f : Int → Int) (k : Nat) (i : Int) : Int := minL ((List.range (k + 1)).map fun (q : Nat) => maxL ((List.range (k + 1)).map fun (j : Nat) => f (i - (k : Int) + (q : Int) + (j : Int))))
abbrev thr (f : Int → Int) (v : Int) : Int → Bool := fun j => decide (v ≤ f j)
theorem le_rkF {f : Int → Int} {k t : Nat} (ht : t ≤ 2 * k) (i v : Int) : v ≤ rkF f k t i ↔ 2 * k + 1 - t ≤ cnt (thr f v) (i - (k : Int)) (2 * k + 1) := by
  unfold rkF
  rw [le_medAt (by simp; omega), countP_range (fun _ => true)]
  simp
theorem range_ne {n : Nat} (f : Nat → Int) : (List.range (n + 1)).map f ≠ [] := by simp
theorem le_minR {f : Nat → Int} {n : Nat} {v : Int} : v ≤ minL ((List.range (n + 1)).map f) ↔ ∀ j, j ≤ n → v ≤ f j := by
  constructor
  · intro h j hj
    exact Int.le_trans h (minL_le (List.mem_map.mpr ⟨j, by simp; omega, rfl⟩))
  · intro h
    obtain ⟨j, hj, e⟩ := List.mem_map.mp (minL_mem (range_ne (n := n) f))
    rw [← e]
    exact h j (by simp at hj; omega)
theorem le_maxR {f : Nat → Int} {n : Nat} {v : Int} : v ≤ maxL ((List.range (n + 1)).map f) ↔ ∃ j, j ≤ n ∧ v ≤ f j := by
  constructor
  · intro h
    obtain ⟨j, hj, e⟩ := List.mem_map.mp (maxL_mem (range_ne (n := n) f))
    exact ⟨j, by simp at hj; omega, by rw [e]; exact h⟩
  · rintro ⟨j, hj, h⟩
    exact Int.le_trans h (le_maxL (List.mem_map.mpr ⟨j, by simp; omega, rfl⟩))
theorem le_loF {f : Int → Int} {k : Nat} (i v : Int) : v ≤ loF f k i ↔ ∃ b, i - (k : Int) ≤ b ∧ b ≤ i ∧ ∀ j, b ≤ j → j ≤ b + (k : Int) → v ≤ f j := by
  unfold loF
  rw [le_maxR]
  constructor
  · rintro ⟨q, hq, h⟩
    rw [le_minR] at h
    refine ⟨i - (k : Int) + (q : Int), by omega, by omega, fun j h1 h2 => ?_⟩
    have := h (j - (i - (k : Int) + (q : Int))).toNat (by omega)
    rw [show i - (k : Int) + (q : Int) + ((j - (i - (k : Int) + (q : Int))).toNat : Int) = j by omega] at this
    exact this
  · rintro ⟨b, h1, h2, h⟩
    refine ⟨(b - (i - (k : Int))).toNat, by omega, ?_⟩
    rw [le_minR]
    intro j hj
    exact h _ (by omega) (by omega)
theorem le_upF {f : Int → Int} {k : Nat} (i v : Int) : v ≤ upF f k i ↔ ∀ b, i - (k : Int) ≤ b → b ≤ i → ∃ j, b ≤ j ∧ j ≤ b + (k : Int) ∧ v ≤ f j := by
  unfold upF
  rw [le_minR]
  constructor
  · intro h b h1 h2
    obtain ⟨j, hj, e⟩ := le_maxR.mp (h (b - (i - (k : Int))).toNat (by omega))
    exact ⟨_, by omega, by omega, e⟩
  · intro h q hq
    obtain ⟨j, h1, h2, e⟩ := h (i - (k : Int) + (q : Int)) (by omega) (by omega)
    refine le_maxR.mpr ⟨(j - (i - (k : Int) + (q : Int))).toNat, by omega, ?_⟩
    rw [show i - (k : Int) + (q : Int) + ((j - (i - (k : Int) + (q : Int))).toNat : Int) = j by omega]
    exact e
/-! ### rows and functions -/
def rowOf (n : Nat) (F : Int → Int) : List Int := (List.range n).map fun (i : Nat) => F (i : Int)
def Flat (n : Nat) (F : Int → Int) : Prop := (∀ i, i ≤ 0 → F i = F 0) ∧ ∀ i, (n : Int) - 1 ≤ i → F i = F ((n : Int) - 1)
theorem rowOf_length (n : Nat) (F : Int → Int) : (rowOf n F).length = n := by simp [rowOf]
theorem rowOf_get {n : Nat} {F : Int → Int} {i : Nat} (h : i < n) : (rowOf n F)[i]? = some (F (i : Int)) := by
  unfold rowOf
  rw [List.getElem?_map, List.getElem?_range h]
  rfl
theorem rowOf_getD {n : Nat} {F : Int → Int} {i : Nat} (h : i < n) : (rowOf n F).getD i 0 = F (i : Int) := by
  rw [List.getD_eq_getElem?_getD, rowOf_get h]
  rfl
theorem rowOf_congr {n : Nat} {F G : Int → Int} (h : ∀ i, 0 ≤ i → i < (n : Int) → F i = G i) : rowOf n F = rowOf n G := by
  unfold rowOf
  refine List.map_congr_left fun i hi => h _ (by omega) ?_
  simp at hi
  omega
theorem near_rowOf {n : Nat} {F : Int → Int} (h0 : 0 < n) (hF : Flat n F) (i : Int) : near (rowOf n F) i = F i := by
  unfold near
  rw [rowOf_length, rowOf_getD (by omega)]
  by_cases h1 : i ≤ 0
  · rw [hF.1 i h1, show (((min (max i 0) ((n : Int) - 1)).toNat : Nat) : Int) = 0 by omega]
  · by_cases h2 : (n : Int) - 1 ≤ i
    · rw [hF.2 i h2, show (((min (max i 0) ((n : Int) - 1)).toNat : Nat) : Int) = (n : Int) - 1 by omega]
    · rw [show (((min (max i 0) ((n : Int) - 1)).toNat : Nat) : Int) = i by omega]
theorem flat_near (row : List Int) : Flat row.length (near row) := ⟨fun _ h => near_low h, fun _ h => near_high h⟩
theorem near_nat {row : List Int} {i : Nat} (h : i < row.length) : near row (i : Int) = row.getD i 0 := by
  rw [near_mid h, List.getD_eq_getElem?_getD, List.getElem?_eq_getElem h]
  rfl
theorem rowOf_near (row : List Int) : rowOf row.length (near row) = row := by
  refine List.ext_getElem? fun i => ?_
  by_cases h : i < row.length
  · rw [rowOf_get h, near_mid h, List.getElem?_eq_getElem h]
  · rw [List.getElem?_eq_none (by rw [rowOf_length]; omega), List.getElem?_eq_none (by omega)]
theorem rankM_eq (row : List Int) (k t : Nat) : rankM row k t = rowOf row.length (rkF (near row) k t) := rfl
theorem medianM_eq (row : List Int) (k : Nat) : medianM row k = rowOf row.length (rkF (near row) k k) := rfl
def lowerM (row : List Int) (k : Nat) : List Int := rowOf row.length (loF (near row) k)
def upperM (row : List Int) (k : Nat) : List Int := rowOf row.length (upF (near row) k)
theorem lowerM_length (row : List Int) (k : Nat) : (lowerM row k).length = row.length := rowOf_length _ _
theorem upperM_length (row : List Int) (k : Nat) : (upperM row k).length = row.length := rowOf_length _ _
/-! ### flat ends stay -/
theorem med_low {f : Int → Int} {k : Nat} {a i : Int} (h : ∀ j, j ≤ a → f j = f a) (hi : i ≤ a) : rkF f k k i = f a := by
  refine eq_of_le fun v => ?_
  rw [le_rkF (by omega)]
  have e : cnt (thr f v) (i - (k : Int)) (2 * k + 1) = cnt (thr f v) (i - (k : Int)) (k + 1) + cnt (thr f v) (i - (k : Int) + ((k + 1 : Nat) : Int)) k := by
    rw [← cnt_add]
    congr 1
    omega
  have b := cnt_le (thr f v) (i - (k : Int) + ((k + 1 : Nat) : Int)) k
  constructor
  · intro q
    rw [e] at q
    obtain ⟨j, h1, h2, h3⟩ := cnt_pos (show 0 < cnt (thr f v) (i - (k : Int)) (k + 1) by omega)
    rw [← h j (by omega)]
    exact of_decide_eq_true h3
  · intro q
    rw [e, cnt_full (n := k + 1) fun j h1 h2 => decide_eq_true (by rw [h j (by omega)]; exact q)]
    omega
theorem med_high {f : Int → Int} {k : Nat} {a i : Int} (h : ∀ j, a ≤ j → f j = f a) (hi : a ≤ i) : rkF f k k i = f a := by
  refine eq_of_le fun v => ?_
  rw [le_rkF (by omega)]
  have e : cnt (thr f v) (i - (k : Int)) (2 * k + 1) = cnt (thr f v) (i - (k : Int)) k + cnt (thr f v) (i - (k : Int) + (k : Int)) (k + 1) := by
    rw [← cnt_add]
    congr 1
    omega
  have b := cnt_le (thr f v) (i - (k : Int)) k
  constructor
  · intro q
    rw [e] at q
    obtain ⟨j, h1, h2, h3⟩ := cnt_pos (show 0 < cnt (thr f v) (i - (k : Int) + (k : Int)) (k + 1) by omega)
    rw [← h j (by omega)]
    exact of_decide_eq_true h3
  · intro q
    rw [e, cnt_full (n := k + 1) fun j h1 h2 => decide_eq_true (by rw [h j (by omega)]; exact q)]
    omega
theorem lo_low {f : Int → Int} {k : Nat} {a i : Int} (h : ∀ j, j ≤ a → f j = f a) (hi : i ≤ a) : loF f k i = f a := by
  refine eq_of_le fun v => ?_
  rw [le_loF]
  constructor
  · rintro ⟨b, h1, h2, q⟩
    rw [← h i hi]
    exact q i h2 (by omega)
  · intro q
    exact ⟨i - (k : Int), by omega, by omega, fun j h1 h2 => by rw [h j (by omega)]; exact q⟩
theorem lo_high {f : Int → Int} {k : Nat} {a i : Int} (h : ∀ j, a ≤ j → f j = f a) (hi : a ≤ i) : loF f k i = f a := by
  refine eq_of_le fun v => ?_
  rw [le_loF]
  constructor
  · rintro ⟨b, h1, h2, q⟩
    rw [← h i hi]
    exact q i h2 (by omega)
  · intro q
    exact ⟨i, by omega, by omega, fun j h1 h2 => by rw [h j (by omega)]; exact q⟩
theorem up_low {f : Int → Int} {k : Nat} {a i : Int} (h : ∀ j, j ≤ a → f j = f a) (hi : i ≤ a) : upF f k i = f a := by
  refine eq_of_le fun v => ?_
  rw [le_upF]
  constructor
  · intro q
    obtain ⟨j, h1, h2, h3⟩ := q (i - (k : Int)) (by omega) (by omega)
    rw [← h j (by omega)]
    exact h3
  · intro q b h1 h2
    exact ⟨i, h2, by omega, by rw [h i hi]; exact q⟩
theorem up_high {f : Int → Int} {k : Nat} {a i : Int} (h : ∀ j, a ≤ j → f j = f a) (hi : a ≤ i) : upF f k i = f a := by
  refine eq_of_le fun v => ?_
  rw [le_upF]
  constructor
  · intro q
    obtain ⟨j, h1, h2, h3⟩ := q i (by omega) (by omega)
    rw [← h j (by omega)]
    exact h3
  · intro q b h1 h2
    exact ⟨i, h2, by omega, by rw [h i hi]; exact q⟩
theorem flat_med {n : Nat} {f : Int → Int} (h : Flat n f) (k : Nat) : Flat n (rkF f k k) := ⟨fun i hi => by rw [med_low h.1 hi, med_low h.1 (Int.le_refl 0)], fun i hi => by rw [med_high h.2 hi, med_high h.2 (Int.le_refl _)]⟩
theorem flat_lo {n : Nat} {f : Int → Int} (h : Flat n f) (k : Nat) : Flat n (loF f k) := ⟨fun i hi => by rw [lo_low h.1 hi, lo_low h.1 (Int.le_refl 0)], fun i hi => by rw [lo_high h.2 hi, lo_high h.2 (Int.le_refl _)]⟩
theorem flat_up {n : Nat} {f : Int → Int} (h : Flat n f) (k : Nat) : Flat n (upF f k) := ⟨fun i hi => by rw [up_low h.1 hi, up_low h.1 (Int.le_refl 0)], fun i hi => by rw [up_high h.2 hi, up_high h.2 (Int.le_refl _)]⟩
theorem near_median {row : List Int} (h0 : row ≠ []) (k : Nat) : near (medianM row k) = rkF (near row) k k := funext fun i => near_rowOf (List.length_pos_iff.mpr h0) (flat_med (flat_near row) k) i
theorem near_lower {row : List Int} (h0 : row ≠ []) (k : Nat) : near (lowerM row k) = loF (near row) k := funext fun i => near_rowOf (List.length_pos_iff.mpr h0) (flat_lo (flat_near row) k) i
theorem near_upper {row : List Int} (h0 : row ≠ []) (k : Nat) : near (upperM row k) = upF (near row) k := funext fun i => near_rowOf (List.length_pos_iff.mpr h0) (flat_up (flat_near row) k) i
/-! ### order -/
theorem rk_mono {f g : Int → Int} (h : ∀ j, f j ≤ g j) {k t : Nat} (ht : t ≤ 2 * k) (i : Int) : rkF f k t i ≤ rkF g k t i := by
  have := (le_rkF (f := f) ht i _).mp (Int.le_refl _)
  rw [le_rkF ht]
  refine Nat.le_trans this (cnt_mono fun j _ _ e => decide_eq_true (Int.le_trans (of_decide_eq_true e) (h j)))
theorem lo_mono {f g : Int → Int} (h : ∀ j, f j ≤ g j) {k : Nat} (i : Int) : loF f k i ≤ loF g k i := by
  obtain ⟨b, h1, h2, q⟩ := (le_loF (f := f) (k := k) i _).mp (Int.le_refl _)
  exact (le_loF i _).mpr ⟨b, h1, h2, fun j a c => Int.le_trans (q j a c) (h j)⟩
theorem up_mono {f g : Int → Int} (h : ∀ j, f j ≤ g j) {k : Nat} (i : Int) : upF f k i ≤ upF g k i := by
  have := (le_upF (f := f) (k := k) i _).mp (Int.le_refl _)
  refine (le_upF i _).mpr fun b h1 h2 => ?_
  obtain ⟨j, a, c, q⟩ := this b h1 h2
  exact ⟨j, a, c, Int.le_trans q (h j)⟩
theorem lo_le (f : Int → Int) (k : Nat) (i : Int) : loF f k i ≤ f i := by
  obtain ⟨b, h1, h2, q⟩ := (le_loF (f := f) (k := k) i _).mp (Int.le_refl _)
  exact q i h2 (by omega)
theorem le_up (f : Int → Int) (k : Nat) (i : Int) : f i ≤ upF f k i := (le_upF i _).mpr fun b h1 h2 => ⟨i, h2, by omega, Int.le_refl _⟩
theorem lo_lo (f : Int → Int) (k : Nat) (i : Int) : loF (loF f k) k i = loF f k i := by
  refine eq_of_le fun v => ?_
  constructor
  · intro h
    exact Int.le_trans h (lo_le _ _ _)
  · intro h
    obtain ⟨b, h1, h2, q⟩ := (le_loF i v).mp h
    exact (le_loF i v).mpr ⟨b, h1, h2, fun j a c => (le_loF j v).mpr ⟨b, by omega, a, q⟩⟩
theorem up_up (f : Int → Int) (k : Nat) (i : Int) : upF (upF f k) k i = upF f k i := by
  refine eq_of_le fun v => ?_
  constructor
  · intro h
    refine (le_upF i v).mpr fun b h1 h2 => ?_
    obtain ⟨j, a, c, q⟩ := (le_upF i v).mp h b h1 h2
    exact (le_upF j v).mp q b (by omega) a
  · intro h
    exact Int.le_trans h (le_up _ _ _)
theorem rk_step {f : Int → Int} {k t u : Nat} (h : t ≤ u) (hu : u ≤ 2 * k) (i : Int) : rkF f k t i ≤ rkF f k u i := by
  have := (le_rkF (f := f) (k := k) (t := t) (by omega) i _).mp (Int.le_refl _)
  rw [le_rkF hu]
  omega
theorem rk0_le_lo (f : Int → Int) (k : Nat) (i : Int) : rkF f k 0 i ≤ loF f k i := by
  have h := (le_rkF (f := f) (t := 0) (by omega) i _).mp (Int.le_refl (rkF f k 0 i))
  refine (le_loF i _).mpr ⟨i, by omega, by omega, fun j h1 h2 => ?_⟩
  by_cases q : rkF f k 0 i ≤ f j
  · exact q
  · exfalso
    have e : cnt (thr f (rkF f k 0 i)) (i - (k : Int)) (2 * k + 1) < 2 * k + 1 := by
      have hj : (j - (i - (k : Int))).toNat + (1 + (2 * k - (j - (i - (k : Int))).toNat)) = 2 * k + 1 := by omega
      rw [← hj, cnt_add, cnt_add, cnt_one, if_neg (by rw [show i - (k : Int) + ((j - (i - (k : Int))).toNat : Int) = j by omega]; simp; omega)]
      have a := cnt_le (thr f (rkF f k 0 i)) (i - (k : Int)) (j - (i - (k : Int))).toNat
      have b := cnt_le (thr f (rkF f k 0 i)) (i - (k : Int) + ((j - (i - (k : Int))).toNat : Int) + ((1 : Nat) : Int)) (2 * k - (j - (i - (k : Int))).toNat)
      omega
    omega
theorem up_le_rk (f : Int → Int) (k : Nat) (i : Int) : upF f k i ≤ rkF f k (2 * k) i := by
  rw [le_rkF (by omega)]
  obtain ⟨j, h1, h2, q⟩ := (le_upF (f := f) (k := k) i _).mp (Int.le_refl _) i (by omega) (by omega)
  have hj : (j - (i - (k : Int))).toNat + (1 + (2 * k - (j - (i - (k : Int))).toNat)) = 2 * k + 1 := by omega
  rw [← hj, cnt_add, cnt_add, cnt_one, if_pos (by rw [show i - (k : Int) + ((j - (i - (k : Int))).toNat : Int) = j by omega]; exact decide_eq_true q)]
  omega
theorem lo_le_med (f : Int → Int) (k : Nat) (i : Int) : loF f k i ≤ rkF f k k i := by
  rw [le_rkF (by omega)]
  obtain ⟨b, h1, h2, q⟩ := (le_loF (f := f) (k := k) i _).mp (Int.le_refl _)
  have hj : (b - (i - (k : Int))).toNat + (k + 1 + (k - (b - (i - (k : Int))).toNat)) = 2 * k + 1 := by omega
  rw [← hj, cnt_add, cnt_add, cnt_full (n := k + 1) fun j a c => decide_eq_true (q j (by omega) (by omega))]
  omega
theorem med_le_up (f : Int → Int) (k : Nat) (i : Int) : rkF f k k i ≤ upF f k i := by
  have h := (le_rkF (f := f) (t := k) (by omega) i _).mp (Int.le_refl (rkF f k k i))
  refine (le_upF i _).mpr fun b h1 h2 => ?_
  have hj : (b - (i - (k : Int))).toNat + (k + 1 + (k - (b - (i - (k : Int))).toNat)) = 2 * k + 1 := by omega
  rw [← hj, cnt_add, cnt_add] at h
  have a := cnt_le (thr f (rkF f k k i)) (i - (k : Int)) (b - (i - (k : Int))).toNat
  have c := cnt_le (thr f (rkF f k k i)) (i - (k : Int) + ((b - (i - (k : Int))).toNat : Int) + ((k + 1 : Nat) : Int)) (k - (b - (i - (k : Int))).toNat)
  obtain ⟨j, x1, x2, x3⟩ := cnt_pos (show 0 < cnt (thr f (rkF f k k i)) (i - (k : Int) + ((b - (i - (k : Int))).toNat : Int)) (k + 1) by omega)
  exact ⟨j, by omega, by omega, of_decide_eq_true x3⟩
end MR

namespace MR
open PySem L2
section
variable {T : Type} {TB : Tab T} {r : MRho} {s : T}
/-! ### loops and comprehensions, by what holds -/
theorem forM_I {f : D → MRho → T → Rs T Fl} {lo : Int} {n : Nat} (I : Nat → MRho → T → Prop) (h : ∀ j, j < n → ∀ r s, I j r s → ∃ r' s', f (.int (lo + (j : Int))) r s = .ok (.next r') s' ∧ I (j + 1) r' s') {r : MRho} {s : T} (h0 : I 0 r s) : ∃ r' s', forM f (upto lo n) r s = .ok (.next r') s' ∧ I n r' s' := by
  have key : ∀ (m a : Nat) (r : MRho) (s : T), a + m = n → I a r s → ∃ r' s', forM f ((List.range' a m).map fun (i : Nat) => PyData.int (lo + (i : Int))) r s = .ok (.next r') s' ∧ I n r' s' := by
    intro m
    induction m with
    | zero =>
      intro a r s e hi
      rw [show a = n by omega] at hi
      exact ⟨r, s, rfl, hi⟩
    | succ m ih =>
      intro a r s e hi
      obtain ⟨r1, s1, e1, i1⟩ := h a (by omega) r s hi
      obtain ⟨r2, s2, e2, i2⟩ := ih (a + 1) r1 s1 (by omega) i1
      refine ⟨r2, s2, ?_, i2⟩
      rw [List.range'_succ, List.map_cons]
      simp only [forM]
      rw [e1]
      simp only [Rs.bind_ok]
      exact e2
  have := key n 0 r s (by omega) h0
  rw [upto_map, List.range_eq_range']
  exact this
theorem forM_L {A : Type} {f : D → MRho → T → Rs T Fl} {i : A → D} {xs : List A} (I : List A → MRho → T → Prop) (h : ∀ x rest, ∀ r s, I (x :: rest) r s → ∃ r' s', f (i x) r s = .ok (.next r') s' ∧ I rest r' s') {r : MRho} {s : T} (h0 : I xs r s) : ∃ r' s', forM f (xs.map i) r s = .ok (.next r') s' ∧ I [] r' s' := by
  induction xs generalizing r s with
  | nil => exact ⟨r, s, rfl, h0⟩
  | cons x rest ih =>
    obtain ⟨r1, s1, e1, i1⟩ := h x rest r s h0
    obtain ⟨r2, s2, e2, i2⟩ := ih i1
    refine ⟨r2, s2, ?_, i2⟩
    rw [List.map_cons]
    simp only [forM]
    rw [e1]
    simp only [Rs.bind_ok]
    exact e2
/-- [.. for i in range(n)] of ints -/
theorem run_rng {elt : Xp} {tg : Tg} {src : List Xp} {n : Nat} {m : Int} (F : Nat → Int) (hl : n ≤ 1000) (hs : evs TB true r src s = .ok [.int m] s) (hm : m = (n : Int)) (he : ∀ i, i < n → turnE TB r tg elt (.int (0 + (i : Int))) s = .ok (some (.int (F i))) s) : compF TB .rng src r (turnE TB r tg elt) s = .ok (ix ((List.range n).map F)) s := by
  subst hm
  refine compF_of hs (src_rng1' (lim_ok hl)) (by rw [upto_length]; exact lim_ok hl) ?_
  rw [upto_map, compM_map (g := fun (i : Nat) => PyData.int (F i)) fun i hi => he i (by simpa using hi)]
  rw [ix_range]
/-- [.. for i in range(n)] of any values -/
theorem run_rngD {elt : Xp} {tg : Tg} {src : List Xp} {n : Nat} {m : Int} (F : Nat → D) (hl : n ≤ 1000) (hs : evs TB true r src s = .ok [.int m] s) (hm : m = (n : Int)) (he : ∀ i, i < n → turnE TB r tg elt (.int (0 + (i : Int))) s = .ok (some (F i)) s) : compF TB .rng src r (turnE TB r tg elt) s = .ok ((List.range n).map F) s := by
  subst hm
  refine compF_of hs (src_rng1' (lim_ok hl)) (by rw [upto_length]; exact lim_ok hl) ?_
  rw [upto_map, compM_map (g := F) fun i hi => he i (by simpa using hi)]
/-- [.. for x in xs] of ints -/
theorem run_seq {elt : Xp} {tg : Tg} {src : List Xp} {xs : List Int} (F : Int → Int) (hl : xs.length ≤ 1000) (hs : evs TB true r src s = .ok [.list (ix xs)] s) (he : ∀ x, x ∈ xs → turnE TB r tg elt (.int x) s = .ok (some (.int (F x))) s) : compF TB .seq src r (turnE TB r tg elt) s = .ok (ix (xs.map F)) s := by
  refine compF_of hs rfl (by rw [ix_length]; exact lim_ok hl) ?_
  unfold ix
  rw [compM_map (g := fun x => PyData.int (F x)) fun x hx => he x hx]
  rw [ix_map]
  rfl
theorem ix_snoc (F : Nat → Int) (m : Nat) : ix ((List.range m).map F) ++ [.int (F m)] = ix ((List.range (m + 1)).map F) := by
  rw [List.range_succ, List.map_append, ← ix_append]
  rfl
theorem range_cut (F : Nat → Int) {n a w : Nat} (h : a + w ≤ n) : (((List.range n).map F).drop a).take w = (List.range w).map fun q => F (a + q) := by
  refine List.ext_getElem? fun j => ?_
  by_cases hj : j < w
  · rw [List.getElem?_take, if_pos hj, List.getElem?_drop, List.getElem?_map, List.getElem?_range (by omega), List.getElem?_map, List.getElem?_range hj]
    rfl
  · rw [List.getElem?_take, if_neg hj, List.getElem?_eq_none (by simp; omega)]
theorem win_ne (row : List Int) (i : Int) (w : Nat) : win row i (w + 1) ≠ [] := by unfold win; simp
def lowerD {T : Type} : List D → T → Rs T D := onRK small fun row k => .list (ix (lowerM row k))
def upperD {T : Type} : List D → T → Rs T D := onRK small fun row k => .list (ix (upperM row k))
theorem lowerD_eq {row : List Int} {k : Nat} (hp : small row) (k1 : 1 ≤ k) (k3 : k ≤ 3) : lowerD [.list (ix row), .int (k : Int)] s = .ok (.list (ix (lowerM row k))) s := onRK_eq hp k1 k3
theorem upperD_eq {row : List Int} {k : Nat} (hp : small row) (k1 : 1 ≤ k) (k3 : k ≤ 3) : upperD [.list (ix row), .int (k : Int)] s = .ok (.list (ix (upperM row k))) s := onRK_eq hp k1 k3
def code_lower : List Cm := [.set 2 (.call 5 [.var 0, .var 1]), .set 3 (.comp (.blt .min [.slc (.var 2) (.var 4) (.bin .add (.bin .add (.var 4) (.var 1)) (.lit (.int 1)))]) (.one 4) .rng [.bin .add (.blt .len [.var 0]) (.var 1)] none), .ret (.comp (.blt .max [.slc (.var 3) (.var 4) (.bin .add (.bin .add (.var 4) (.var 1)) (.lit (.int 1)))]) (.one 4) .rng [.blt .len [.var 0]] none)]
theorem run_lower (ha : TB.ar 5 = 2) (h5 : TB.F 5 = longerD) : ∀ (ds : List D) (s : T), ds.length = 2 → lowerD ds s ≠ .stuck → runD TB 5 code_lower ds s = lowerD ds s := by
  intro ds s hlen h
  obtain ⟨row, k, rfl, hp, k1, k3, e⟩ := onRK_inv h
  rw [show lowerD [.list (ix row), .int (k : Int)] s = _ from e]
  have h0 := hp.1
  have h100 := hp.2
  have hL : longerD [.list (ix row), .int (k : Int)] s = .ok (.list (ix (longerM row k))) s := onRK_eq hp k1 k3
  rw [runD_eq]
  simp only [code_lower, ha, h5, hL, exSs_cons, exSs_nil, seqK_next, seqK_ret, exS_set, exS_ret, exS_exp, exS_skip, exS_never, exS_iff, ifK_b, testM_eq, testK_b, exS_app, exS_par, exS_tset, tsetK_t, exS_loop, runK_next, runK_ret, evO, evF, freshX, esc, escs, frz, ev_var, ev_lit, ev_bin, ev_neg, negK_i, ev_not, notK_b, ev_and, andK_b, ev_or, orK_b, ev_ite, iteK_b, ev_chn, chnK_le, ev_list, ev_tup, ev_idx, ev_slc, ev_rev, revK_l, ev_blt, ev_isi, isiK_s, ev_call, ev_comp, ev_compC, evs_cons, evs_nil, getV, isiD, List.length_cons, List.length_nil, List.map_cons, List.map_nil, List.replicate, List.append_eq, List.nil_append, List.cons_append, List.append_nil, List.getElem?_cons_zero, List.getElem?_cons_succ, Rs.of_some, Rs.bind_ok, Rs.bind_stuck, if_true, Bool.false_eq_true, if_false, List.set_cons_zero, List.set_cons_succ, Nat.zero_add, Nat.reduceAdd, Nat.reduceSub, add_ii, sub_ii, mul_2i, lt_ii, le_ii, gt_ii, ge_ii, len_ix, sorted_ix, sum_ix, eq_ix, ne_ix, turnE_one, turnC_one, turnC_b, turnL_one, reduceIte, Bool.not_true, Bool.not_false, Bool.true_eq_false, is_tt, isnot_tt, loopK_s, len_lit0]
  rw [run_rng (n := row.length + k) (m := (row.length : Int) + (k : Int)) (fun (i : Nat) => minL (win row ((i : Int) - (k : Int)) (k + 1))) (by omega) (by simp only [exSs_cons, exSs_nil, seqK_next, seqK_ret, exS_set, exS_ret, exS_exp, exS_skip, exS_never, exS_iff, ifK_b, testM_eq, testK_b, exS_app, exS_par, exS_tset, tsetK_t, exS_loop, runK_next, runK_ret, evO, evF, freshX, esc, escs, frz, ev_var, ev_lit, ev_bin, ev_neg, negK_i, ev_not, notK_b, ev_and, andK_b, ev_or, orK_b, ev_ite, iteK_b, ev_chn, chnK_le, ev_list, ev_tup, ev_idx, ev_slc, ev_rev, revK_l, ev_blt, ev_isi, isiK_s, ev_call, ev_comp, ev_compC, evs_cons, evs_nil, getV, isiD, List.length_cons, List.length_nil, List.map_cons, List.map_nil, List.replicate, List.append_eq, List.nil_append, List.cons_append, List.append_nil, List.getElem?_cons_zero, List.getElem?_cons_succ, Rs.of_some, Rs.bind_ok, Rs.bind_stuck, if_true, Bool.false_eq_true, if_false, List.set_cons_zero, List.set_cons_succ, Nat.zero_add, Nat.reduceAdd, Nat.reduceSub, add_ii, sub_ii, mul_2i, lt_ii, le_ii, gt_ii, ge_ii, len_ix, sorted_ix, sum_ix, eq_ix, ne_ix, turnE_one, turnC_one, turnC_b, turnL_one, reduceIte, Bool.not_true, Bool.not_false, Bool.true_eq_false, is_tt, isnot_tt, loopK_s, len_lit0]) (by omega) ?_]
  · simp only [exSs_cons, exSs_nil, seqK_next, seqK_ret, exS_set, exS_ret, exS_exp, exS_skip, exS_never, exS_iff, ifK_b, testM_eq, testK_b, exS_app, exS_par, exS_tset, tsetK_t, exS_loop, runK_next, runK_ret, evO, evF, freshX, esc, escs, frz, ev_var, ev_lit, ev_bin, ev_neg, negK_i, ev_not, notK_b, ev_and, andK_b, ev_or, orK_b, ev_ite, iteK_b, ev_chn, chnK_le, ev_list, ev_tup, ev_idx, ev_slc, ev_rev, revK_l, ev_blt, ev_isi, isiK_s, ev_call, ev_comp, ev_compC, evs_cons, evs_nil, getV, isiD, List.length_cons, List.length_nil, List.map_cons, List.map_nil, List.replicate, List.append_eq, List.nil_append, List.cons_append, List.append_nil, List.getElem?_cons_zero, List.getElem?_cons_succ, Rs.of_some, Rs.bind_ok, Rs.bind_stuck, if_true, Bool.false_eq_true, if_false, List.set_cons_zero, List.set_cons_succ, Nat.zero_add, Nat.reduceAdd, Nat.reduceSub, add_ii, sub_ii, mul_2i, lt_ii, le_ii, gt_ii, ge_ii, len_ix, sorted_ix, sum_ix, eq_ix, ne_ix, turnE_one, turnC_one, turnC_b, turnL_one, reduceIte, Bool.not_true, Bool.not_false, Bool.true_eq_false, is_tt, isnot_tt, loopK_s, len_lit0]
    rw [run_rng (n := row.length) (fun (i : Nat) => loF (near row) k (i : Int)) (by omega) (by simp only [exSs_cons, exSs_nil, seqK_next, seqK_ret, exS_set, exS_ret, exS_exp, exS_skip, exS_never, exS_iff, ifK_b, testM_eq, testK_b, exS_app, exS_par, exS_tset, tsetK_t, exS_loop, runK_next, runK_ret, evO, evF, freshX, esc, escs, frz, ev_var, ev_lit, ev_bin, ev_neg, negK_i, ev_not, notK_b, ev_and, andK_b, ev_or, orK_b, ev_ite, iteK_b, ev_chn, chnK_le, ev_list, ev_tup, ev_idx, ev_slc, ev_rev, revK_l, ev_blt, ev_isi, isiK_s, ev_call, ev_comp, ev_compC, evs_cons, evs_nil, getV, isiD, List.length_cons, List.length_nil, List.map_cons, List.map_nil, List.replicate, List.append_eq, List.nil_append, List.cons_append, List.append_nil, List.getElem?_cons_zero, List.getElem?_cons_succ, Rs.of_some, Rs.bind_ok, Rs.bind_stuck, if_true, Bool.false_eq_true, if_false, List.set_cons_zero, List.set_cons_succ, Nat.zero_add, Nat.reduceAdd, Nat.reduceSub, add_ii, sub_ii, mul_2i, lt_ii, le_ii, gt_ii, ge_ii, len_ix, sorted_ix, sum_ix, eq_ix, ne_ix, turnE_one, turnC_one, turnC_b, turnL_one, reduceIte, Bool.not_true, Bool.not_false, Bool.true_eq_false, is_tt, isnot_tt, loopK_s, len_lit0]) rfl ?_]
    · simp only [exSs_cons, exSs_nil, seqK_next, seqK_ret, exS_set, exS_ret, exS_exp, exS_skip, exS_never, exS_iff, ifK_b, testM_eq, testK_b, exS_app, exS_par, exS_tset, tsetK_t, exS_loop, runK_next, runK_ret, evO, evF, freshX, esc, escs, frz, ev_var, ev_lit, ev_bin, ev_neg, negK_i, ev_not, notK_b, ev_and, andK_b, ev_or, orK_b, ev_ite, iteK_b, ev_chn, chnK_le, ev_list, ev_tup, ev_idx, ev_slc, ev_rev, revK_l, ev_blt, ev_isi, isiK_s, ev_call, ev_comp, ev_compC, evs_cons, evs_nil, getV, isiD, List.length_cons, List.length_nil, List.map_cons, List.map_nil, List.replicate, List.append_eq, List.nil_append, List.cons_append, List.append_nil, List.getElem?_cons_zero, List.getElem?_cons_succ, Rs.of_some, Rs.bind_ok, Rs.bind_stuck, if_true, Bool.false_eq_true, if_false, List.set_cons_zero, List.set_cons_succ, Nat.zero_add, Nat.reduceAdd, Nat.reduceSub, add_ii, sub_ii, mul_2i, lt_ii, le_ii, gt_ii, ge_ii, len_ix, sorted_ix, sum_ix, eq_ix, ne_ix, turnE_one, turnC_one, turnC_b, turnL_one, reduceIte, Bool.not_true, Bool.not_false, Bool.true_eq_false, is_tt, isnot_tt, loopK_s, len_lit0]
      rfl
    · intro i hi
      simp only [exSs_cons, exSs_nil, seqK_next, seqK_ret, exS_set, exS_ret, exS_exp, exS_skip, exS_never, exS_iff, ifK_b, testM_eq, testK_b, exS_app, exS_par, exS_tset, tsetK_t, exS_loop, runK_next, runK_ret, evO, evF, freshX, esc, escs, frz, ev_var, ev_lit, ev_bin, ev_neg, negK_i, ev_not, notK_b, ev_and, andK_b, ev_or, orK_b, ev_ite, iteK_b, ev_chn, chnK_le, ev_list, ev_tup, ev_idx, ev_slc, ev_rev, revK_l, ev_blt, ev_isi, isiK_s, ev_call, ev_comp, ev_compC, evs_cons, evs_nil, getV, isiD, List.length_cons, List.length_nil, List.map_cons, List.map_nil, List.replicate, List.append_eq, List.nil_append, List.cons_append, List.append_nil, List.getElem?_cons_zero, List.getElem?_cons_succ, Rs.of_some, Rs.bind_ok, Rs.bind_stuck, if_true, Bool.false_eq_true, if_false, List.set_cons_zero, List.set_cons_succ, Nat.zero_add, Nat.reduceAdd, Nat.reduceSub, add_ii, sub_ii, mul_2i, lt_ii, le_ii, gt_ii, ge_ii, len_ix, sorted_ix, sum_ix, eq_ix, ne_ix, turnE_one, turnC_one, turnC_b, turnL_one, reduceIte, Bool.not_true, Bool.not_false, Bool.true_eq_false, is_tt, isnot_tt, loopK_s, len_lit0]
      rw [slc_ix (a := i) (b := i + (k + 1)) (h := .int (0 + (i : Int) + (k : Int) + 1)) (by simp only [bndX]; congr 2; omega) (by simp only [exSs_cons, exSs_nil, seqK_next, seqK_ret, exS_set, exS_ret, exS_exp, exS_skip, exS_never, exS_iff, ifK_b, testM_eq, testK_b, exS_app, exS_par, exS_tset, tsetK_t, exS_loop, runK_next, runK_ret, evO, evF, freshX, esc, escs, frz, ev_var, ev_lit, ev_bin, ev_neg, negK_i, ev_not, notK_b, ev_and, andK_b, ev_or, orK_b, ev_ite, iteK_b, ev_chn, chnK_le, ev_list, ev_tup, ev_idx, ev_slc, ev_rev, revK_l, ev_blt, ev_isi, isiK_s, ev_call, ev_comp, ev_compC, evs_cons, evs_nil, getV, isiD, List.length_cons, List.length_nil, List.map_cons, List.map_nil, List.replicate, List.append_eq, List.nil_append, List.cons_append, List.append_nil, List.getElem?_cons_zero, List.getElem?_cons_succ, Rs.of_some, Rs.bind_ok, Rs.bind_stuck, if_true, Bool.false_eq_true, if_false, List.set_cons_zero, List.set_cons_succ, Nat.zero_add, Nat.reduceAdd, Nat.reduceSub, add_ii, sub_ii, mul_2i, lt_ii, le_ii, gt_ii, ge_ii, len_ix, sorted_ix, sum_ix, eq_ix, ne_ix, turnE_one, turnC_one, turnC_b, turnL_one, reduceIte, Bool.not_true, Bool.not_false, Bool.true_eq_false, is_tt, isnot_tt, loopK_s, len_lit0]) (by simp only [bndX]; congr 2; omega) (by omega) (by simp; omega)]
      rw [Nat.add_sub_cancel_left, range_cut _ (by omega)]
      simp only [max_ix (range_ne _), exSs_cons, exSs_nil, seqK_next, seqK_ret, exS_set, exS_ret, exS_exp, exS_skip, exS_never, exS_iff, ifK_b, testM_eq, testK_b, exS_app, exS_par, exS_tset, tsetK_t, exS_loop, runK_next, runK_ret, evO, evF, freshX, esc, escs, frz, ev_var, ev_lit, ev_bin, ev_neg, negK_i, ev_not, notK_b, ev_and, andK_b, ev_or, orK_b, ev_ite, iteK_b, ev_chn, chnK_le, ev_list, ev_tup, ev_idx, ev_slc, ev_rev, revK_l, ev_blt, ev_isi, isiK_s, ev_call, ev_comp, ev_compC, evs_cons, evs_nil, getV, isiD, List.length_cons, List.length_nil, List.map_cons, List.map_nil, List.replicate, List.append_eq, List.nil_append, List.cons_append, List.append_nil, List.getElem?_cons_zero, List.getElem?_cons_succ, Rs.of_some, Rs.bind_ok, Rs.bind_stuck, if_true, Bool.false_eq_true, if_false, List.set_cons_zero, List.set_cons_succ, Nat.zero_add, Nat.reduceAdd, Nat.reduceSub, add_ii, sub_ii, mul_2i, lt_ii, le_ii, gt_ii, ge_ii, len_ix, sorted_ix, sum_ix, eq_ix, ne_ix, turnE_one, turnC_one, turnC_b, turnL_one, reduceIte, Bool.not_true, Bool.not_false, Bool.true_eq_false, is_tt, isnot_tt, loopK_s, len_lit0]
      congr 5
      funext q
      unfold win
      congr 1
      refine List.map_congr_left fun j _ => ?_
      congr 1
      omega
  · intro i hi
    simp only [exSs_cons, exSs_nil, seqK_next, seqK_ret, exS_set, exS_ret, exS_exp, exS_skip, exS_never, exS_iff, ifK_b, testM_eq, testK_b, exS_app, exS_par, exS_tset, tsetK_t, exS_loop, runK_next, runK_ret, evO, evF, freshX, esc, escs, frz, ev_var, ev_lit, ev_bin, ev_neg, negK_i, ev_not, notK_b, ev_and, andK_b, ev_or, orK_b, ev_ite, iteK_b, ev_chn, chnK_le, ev_list, ev_tup, ev_idx, ev_slc, ev_rev, revK_l, ev_blt, ev_isi, isiK_s, ev_call, ev_comp, ev_compC, evs_cons, evs_nil, getV, isiD, List.length_cons, List.length_nil, List.map_cons, List.map_nil, List.replicate, List.append_eq, List.nil_append, List.cons_append, List.append_nil, List.getElem?_cons_zero, List.getElem?_cons_succ, Rs.of_some, Rs.bind_ok, Rs.bind_stuck, if_true, Bool.false_eq_true, if_false, List.set_cons_zero, List.set_cons_succ, Nat.zero_add, Nat.reduceAdd, Nat.reduceSub, add_ii, sub_ii, mul_2i, lt_ii, le_ii, gt_ii, ge_ii, len_ix, sorted_ix, sum_ix, eq_ix, ne_ix, turnE_one, turnC_one, turnC_b, turnL_one, reduceIte, Bool.not_true, Bool.not_false, Bool.true_eq_false, is_tt, isnot_tt, loopK_s, len_lit0]
    rw [slc_ix (a := i) (b := i + (k + 1)) (h := .int (0 + (i : Int) + (k : Int) + 1)) (by simp only [bndX]; congr 2; omega) (by simp only [exSs_cons, exSs_nil, seqK_next, seqK_ret, exS_set, exS_ret, exS_exp, exS_skip, exS_never, exS_iff, ifK_b, testM_eq, testK_b, exS_app, exS_par, exS_tset, tsetK_t, exS_loop, runK_next, runK_ret, evO, evF, freshX, esc, escs, frz, ev_var, ev_lit, ev_bin, ev_neg, negK_i, ev_not, notK_b, ev_and, andK_b, ev_or, orK_b, ev_ite, iteK_b, ev_chn, chnK_le, ev_list, ev_tup, ev_idx, ev_slc, ev_rev, revK_l, ev_blt, ev_isi, isiK_s, ev_call, ev_comp, ev_compC, evs_cons, evs_nil, getV, isiD, List.length_cons, List.length_nil, List.map_cons, List.map_nil, List.replicate, List.append_eq, List.nil_append, List.cons_append, List.append_nil, List.getElem?_cons_zero, List.getElem?_cons_succ, Rs.of_some, Rs.bind_ok, Rs.bind_stuck, if_true, Bool.false_eq_true, if_false, List.set_cons_zero, List.set_cons_succ, Nat.zero_add, Nat.reduceAdd, Nat.reduceSub, add_ii, sub_ii, mul_2i, lt_ii, le_ii, gt_ii, ge_ii, len_ix, sorted_ix, sum_ix, eq_ix, ne_ix, turnE_one, turnC_one, turnC_b, turnL_one, reduceIte, Bool.not_true, Bool.not_false, Bool.true_eq_false, is_tt, isnot_tt, loopK_s, len_lit0]) (by simp only [bndX]; congr 2; omega) (by omega) (by rw [longerM_length]; omega)]
    rw [Nat.add_sub_cancel_left, longerM_cut h0 (by omega)]
    simp only [min_ix (win_ne _ _ _), exSs_cons, exSs_nil, seqK_next, seqK_ret, exS_set, exS_ret, exS_exp, exS_skip, exS_never, exS_iff, ifK_b, testM_eq, testK_b, exS_app, exS_par, exS_tset, tsetK_t, exS_loop, runK_next, runK_ret, evO, evF, freshX, esc, escs, frz, ev_var, ev_lit, ev_bin, ev_neg, negK_i, ev_not, notK_b, ev_and, andK_b, ev_or, orK_b, ev_ite, iteK_b, ev_chn, chnK_le, ev_list, ev_tup, ev_idx, ev_slc, ev_rev, revK_l, ev_blt, ev_isi, isiK_s, ev_call, ev_comp, ev_compC, evs_cons, evs_nil, getV, isiD, List.length_cons, List.length_nil, List.map_cons, List.map_nil, List.replicate, List.append_eq, List.nil_append, List.cons_append, List.append_nil, List.getElem?_cons_zero, List.getElem?_cons_succ, Rs.of_some, Rs.bind_ok, Rs.bind_stuck, if_true, Bool.false_eq_true, if_false, List.set_cons_zero, List.set_cons_succ, Nat.zero_add, Nat.reduceAdd, Nat.reduceSub, add_ii, sub_ii, mul_2i, lt_ii, le_ii, gt_ii, ge_ii, len_ix, sorted_ix, sum_ix, eq_ix, ne_ix, turnE_one, turnC_one, turnC_b, turnL_one, reduceIte, Bool.not_true, Bool.not_false, Bool.true_eq_false, is_tt, isnot_tt, loopK_s, len_lit0]
def code_upper : List Cm := [.set 2 (.call 5 [.var 0, .var 1]), .set 3 (.comp (.blt .max [.slc (.var 2) (.var 4) (.bin .add (.bin .add (.var 4) (.var 1)) (.lit (.int 1)))]) (.one 4) .rng [.bin .add (.blt .len [.var 0]) (.var 1)] none), .ret (.comp (.blt .min [.slc (.var 3) (.var 4) (.bin .add (.bin .add (.var 4) (.var 1)) (.lit (.int 1)))]) (.one 4) .rng [.blt .len [.var 0]] none)]
theorem run_upper (ha : TB.ar 5 = 2) (h5 : TB.F 5 = longerD) : ∀ (ds : List D) (s : T), ds.length = 2 → upperD ds s ≠ .stuck → runD TB 5 code_upper ds s = upperD ds s := by
  intro ds s hlen h
  obtain ⟨row, k, rfl, hp, k1, k3, e⟩ := onRK_inv h
  rw [show upperD [.list (ix row), .int (k : Int)] s = _ from e]
  have h0 := hp.1
  have h100 := hp.2
  have hL : longerD [.list (ix row), .int (k : Int)] s = .ok (.list (ix (longerM row k))) s := onRK_eq hp k1 k3
  rw [runD_eq]
  simp only [code_upper, ha, h5, hL, exSs_cons, exSs_nil, seqK_next, seqK_ret, exS_set, exS_ret, exS_exp, exS_skip, exS_never, exS_iff, ifK_b, testM_eq, testK_b, exS_app, exS_par, exS_tset, tsetK_t, exS_loop, runK_next, runK_ret, evO, evF, freshX, esc, escs, frz, ev_var, ev_lit, ev_bin, ev_neg, negK_i, ev_not, notK_b, ev_and, andK_b, ev_or, orK_b, ev_ite, iteK_b, ev_chn, chnK_le, ev_list, ev_tup, ev_idx, ev_slc, ev_rev, revK_l, ev_blt, ev_isi, isiK_s, ev_call, ev_comp, ev_compC, evs_cons, evs_nil, getV, isiD, List.length_cons, List.length_nil, List.map_cons, List.map_nil, List.replicate, List.append_eq, List.nil_append, List.cons_append, List.append_nil, List.getElem?_cons_zero, List.getElem?_cons_succ, Rs.of_some, Rs.bind_ok, Rs.bind_stuck, if_true, Bool.false_eq_true, if_false, List.set_cons_zero, List.set_cons_succ, Nat.zero_add, Nat.reduceAdd, Nat.reduceSub, add_ii, sub_ii, mul_2i, lt_ii, le_ii, gt_ii, ge_ii, len_ix, sorted_ix, sum_ix, eq_ix, ne_ix, turnE_one, turnC_one, turnC_b, turnL_one, reduceIte, Bool.not_true, Bool.not_false, Bool.true_eq_false, is_tt, isnot_tt, loopK_s, len_lit0]
  rw [run_rng (n := row.length + k) (m := (row.length : Int) + (k : Int)) (fun (i : Nat) => maxL (win row ((i : Int) - (k : Int)) (k + 1))) (by omega) (by simp only [exSs_cons, exSs_nil, seqK_next, seqK_ret, exS_set, exS_ret, exS_exp, exS_skip, exS_never, exS_iff, ifK_b, testM_eq, testK_b, exS_app, exS_par, exS_tset, tsetK_t, exS_loop, runK_next, runK_ret, evO, evF, freshX, esc, escs, frz, ev_var, ev_lit, ev_bin, ev_neg, negK_i, ev_not, notK_b, ev_and, andK_b, ev_or, orK_b, ev_ite, iteK_b, ev_chn, chnK_le, ev_list, ev_tup, ev_idx, ev_slc, ev_rev, revK_l, ev_blt, ev_isi, isiK_s, ev_call, ev_comp, ev_compC, evs_cons, evs_nil, getV, isiD, List.length_cons, List.length_nil, List.map_cons, List.map_nil, List.replicate, List.append_eq, List.nil_append, List.cons_append, List.append_nil, List.getElem?_cons_zero, List.getElem?_cons_succ, Rs.of_some, Rs.bind_ok, Rs.bind_stuck, if_true, Bool.false_eq_true, if_false, List.set_cons_zero, List.set_cons_succ, Nat.zero_add, Nat.reduceAdd, Nat.reduceSub, add_ii, sub_ii, mul_2i, lt_ii, le_ii, gt_ii, ge_ii, len_ix, sorted_ix, sum_ix, eq_ix, ne_ix, turnE_one, turnC_one, turnC_b, turnL_one, reduceIte, Bool.not_true, Bool.not_false, Bool.true_eq_false, is_tt, isnot_tt, loopK_s, len_lit0]) (by omega) ?_]
  · simp only [exSs_cons, exSs_nil, seqK_next, seqK_ret, exS_set, exS_ret, exS_exp, exS_skip, exS_never, exS_iff, ifK_b, testM_eq, testK_b, exS_app, exS_par, exS_tset, tsetK_t, exS_loop, runK_next, runK_ret, evO, evF, freshX, esc, escs, frz, ev_var, ev_lit, ev_bin, ev_neg, negK_i, ev_not, notK_b, ev_and, andK_b, ev_or, orK_b, ev_ite, iteK_b, ev_chn, chnK_le, ev_list, ev_tup, ev_idx, ev_slc, ev_rev, revK_l, ev_blt, ev_isi, isiK_s, ev_call, ev_comp, ev_compC, evs_cons, evs_nil, getV, isiD, List.length_cons, List.length_nil, List.map_cons, List.map_nil, List.replicate, List.append_eq, List.nil_append, List.cons_append, List.append_nil, List.getElem?_cons_zero, List.getElem?_cons_succ, Rs.of_some, Rs.bind_ok, Rs.bind_stuck, if_true, Bool.false_eq_true, if_false, List.set_cons_zero, List.set_cons_succ, Nat.zero_add, Nat.reduceAdd, Nat.reduceSub, add_ii, sub_ii, mul_2i, lt_ii, le_ii, gt_ii, ge_ii, len_ix, sorted_ix, sum_ix, eq_ix, ne_ix, turnE_one, turnC_one, turnC_b, turnL_one, reduceIte, Bool.not_true, Bool.not_false, Bool.true_eq_false, is_tt, isnot_tt, loopK_s, len_lit0]
    rw [run_rng (n := row.length) (fun (i : Nat) => upF (near row) k (i : Int)) (by omega) (by simp only [exSs_cons, exSs_nil, seqK_next, seqK_ret, exS_set, exS_ret, exS_exp, exS_skip, exS_never, exS_iff, ifK_b, testM_eq, testK_b, exS_app, exS_par, exS_tset, tsetK_t, exS_loop, runK_next, runK_ret, evO, evF, freshX, esc, escs, frz, ev_var, ev_lit, ev_bin, ev_neg, negK_i, ev_not, notK_b, ev_and, andK_b, ev_or, orK_b, ev_ite, iteK_b, ev_chn, chnK_le, ev_list, ev_tup, ev_idx, ev_slc, ev_rev, revK_l, ev_blt, ev_isi, isiK_s, ev_call, ev_comp, ev_compC, evs_cons, evs_nil, getV, isiD, List.length_cons, List.length_nil, List.map_cons, List.map_nil, List.replicate, List.append_eq, List.nil_append, List.cons_append, List.append_nil, List.getElem?_cons_zero, List.getElem?_cons_succ, Rs.of_some, Rs.bind_ok, Rs.bind_stuck, if_true, Bool.false_eq_true, if_false, List.set_cons_zero, List.set_cons_succ, Nat.zero_add, Nat.reduceAdd, Nat.reduceSub, add_ii, sub_ii, mul_2i, lt_ii, le_ii, gt_ii, ge_ii, len_ix, sorted_ix, sum_ix, eq_ix, ne_ix, turnE_one, turnC_one, turnC_b, turnL_one, reduceIte, Bool.not_true, Bool.not_false, Bool.true_eq_false, is_tt, isnot_tt, loopK_s, len_lit0]) rfl ?_]
    · simp only [exSs_cons, exSs_nil, seqK_next, seqK_ret, exS_set, exS_ret, exS_exp, exS_skip, exS_never, exS_iff, ifK_b, testM_eq, testK_b, exS_app, exS_par, exS_tset, tsetK_t, exS_loop, runK_next, runK_ret, evO, evF, freshX, esc, escs, frz, ev_var, ev_lit, ev_bin, ev_neg, negK_i, ev_not, notK_b, ev_and, andK_b, ev_or, orK_b, ev_ite, iteK_b, ev_chn, chnK_le, ev_list, ev_tup, ev_idx, ev_slc, ev_rev, revK_l, ev_blt, ev_isi, isiK_s, ev_call, ev_comp, ev_compC, evs_cons, evs_nil, getV, isiD, List.length_cons, List.length_nil, List.map_cons, List.map_nil, List.replicate, List.append_eq, List.nil_append, List.cons_append, List.append_nil, List.getElem?_cons_zero, List.getElem?_cons_succ, Rs.of_some, Rs.bind_ok, Rs.bind_stuck, if_true, Bool.false_eq_true, if_false, List.set_cons_zero, List.set_cons_succ, Nat.zero_add, Nat.reduceAdd, Nat.reduceSub, add_ii, sub_ii, mul_2i, lt_ii, le_ii, gt_ii, ge_ii, len_ix, sorted_ix, sum_ix, eq_ix, ne_ix, turnE_one, turnC_one, turnC_b, turnL_one, reduceIte, Bool.not_true, Bool.not_false, Bool.true_eq_false, is_tt, isnot_tt, loopK_s, len_lit0]
      rfl
    · intro i hi
      simp only [exSs_cons, exSs_nil, seqK_next, seqK_ret, exS_set, exS_ret, exS_exp, exS_skip, exS_never, exS_iff, ifK_b, testM_eq, testK_b, exS_app, exS_par, exS_tset, tsetK_t, exS_loop, runK_next, runK_ret, evO, evF, freshX, esc, escs, frz, ev_var, ev_lit, ev_bin, ev_neg, negK_i, ev_not, notK_b, ev_and, andK_b, ev_or, orK_b, ev_ite, iteK_b, ev_chn, chnK_le, ev_list, ev_tup, ev_idx, ev_slc, ev_rev, revK_l, ev_blt, ev_isi, isiK_s, ev_call, ev_comp, ev_compC, evs_cons, evs_nil, getV, isiD, List.length_cons, List.length_nil, List.map_cons, List.map_nil, List.replicate, List.append_eq, List.nil_append, List.cons_append, List.append_nil, List.getElem?_cons_zero, List.getElem?_cons_succ, Rs.of_some, Rs.bind_ok, Rs.bind_stuck, if_true, Bool.false_eq_true, if_false, List.set_cons_zero, List.set_cons_succ, Nat.zero_add, Nat.reduceAdd, Nat.reduceSub, add_ii, sub_ii, mul_2i, lt_ii, le_ii, gt_ii, ge_ii, len_ix, sorted_ix, sum_ix, eq_ix, ne_ix, turnE_one, turnC_one, turnC_b, turnL_one, reduceIte, Bool.not_true, Bool.not_false, Bool.true_eq_false, is_tt, isnot_tt, loopK_s, len_lit0]
      rw [slc_ix (a := i) (b := i + (k + 1)) (h := .int (0 + (i : Int) + (k : Int) + 1)) (by simp only [bndX]; congr 2; omega) (by simp only [exSs_cons, exSs_nil, seqK_next, seqK_ret, exS_set, exS_ret, exS_exp, exS_skip, exS_never, exS_iff, ifK_b, testM_eq, testK_b, exS_app, exS_par, exS_tset, tsetK_t, exS_loop, runK_next, runK_ret, evO, evF, freshX, esc, escs, frz, ev_var, ev_lit, ev_bin, ev_neg, negK_i, ev_not, notK_b, ev_and, andK_b, ev_or, orK_b, ev_ite, iteK_b, ev_chn, chnK_le, ev_list, ev_tup, ev_idx, ev_slc, ev_rev, revK_l, ev_blt, ev_isi, isiK_s, ev_call, ev_comp, ev_compC, evs_cons, evs_nil, getV, isiD, List.length_cons, List.length_nil, List.map_cons, List.map_nil, List.replicate, List.append_eq, List.nil_append, List.cons_append, List.append_nil, List.getElem?_cons_zero, List.getElem?_cons_succ, Rs.of_some, Rs.bind_ok, Rs.bind_stuck, if_true, Bool.false_eq_true, if_false, List.set_cons_zero, List.set_cons_succ, Nat.zero_add, Nat.reduceAdd, Nat.reduceSub, add_ii, sub_ii, mul_2i, lt_ii, le_ii, gt_ii, ge_ii, len_ix, sorted_ix, sum_ix, eq_ix, ne_ix, turnE_one, turnC_one, turnC_b, turnL_one, reduceIte, Bool.not_true, Bool.not_false, Bool.true_eq_false, is_tt, isnot_tt, loopK_s, len_lit0]) (by simp only [bndX]; congr 2; omega) (by omega) (by simp; omega)]
      rw [Nat.add_sub_cancel_left, range_cut _ (by omega)]
      simp only [min_ix (range_ne _), exSs_cons, exSs_nil, seqK_next, seqK_ret, exS_set, exS_ret, exS_exp, exS_skip, exS_never, exS_iff, ifK_b, testM_eq, testK_b, exS_app, exS_par, exS_tset, tsetK_t, exS_loop, runK_next, runK_ret, evO, evF, freshX, esc, escs, frz, ev_var, ev_lit, ev_bin, ev_neg, negK_i, ev_not, notK_b, ev_and, andK_b, ev_or, orK_b, ev_ite, iteK_b, ev_chn, chnK_le, ev_list, ev_tup, ev_idx, ev_slc, ev_rev, revK_l, ev_blt, ev_isi, isiK_s, ev_call, ev_comp, ev_compC, evs_cons, evs_nil, getV, isiD, List.length_cons, List.length_nil, List.map_cons, List.map_nil, List.replicate, List.append_eq, List.nil_append, List.cons_append, List.append_nil, List.getElem?_cons_zero, List.getElem?_cons_succ, Rs.of_some, Rs.bind_ok, Rs.bind_stuck, if_true, Bool.false_eq_true, if_false, List.set_cons_zero, List.set_cons_succ, Nat.zero_add, Nat.reduceAdd, Nat.reduceSub, add_ii, sub_ii, mul_2i, lt_ii, le_ii, gt_ii, ge_ii, len_ix, sorted_ix, sum_ix, eq_ix, ne_ix, turnE_one, turnC_one, turnC_b, turnL_one, reduceIte, Bool.not_true, Bool.not_false, Bool.true_eq_false, is_tt, isnot_tt, loopK_s, len_lit0]
      congr 5
      funext q
      unfold win
      congr 1
      refine List.map_congr_left fun j _ => ?_
      congr 1
      omega
  · intro i hi
    simp only [exSs_cons, exSs_nil, seqK_next, seqK_ret, exS_set, exS_ret, exS_exp, exS_skip, exS_never, exS_iff, ifK_b, testM_eq, testK_b, exS_app, exS_par, exS_tset, tsetK_t, exS_loop, runK_next, runK_ret, evO, evF, freshX, esc, escs, frz, ev_var, ev_lit, ev_bin, ev_neg, negK_i, ev_not, notK_b, ev_and, andK_b, ev_or, orK_b, ev_ite, iteK_b, ev_chn, chnK_le, ev_list, ev_tup, ev_idx, ev_slc, ev_rev, revK_l, ev_blt, ev_isi, isiK_s, ev_call, ev_comp, ev_compC, evs_cons, evs_nil, getV, isiD, List.length_cons, List.length_nil, List.map_cons, List.map_nil, List.replicate, List.append_eq, List.nil_append, List.cons_append, List.append_nil, List.getElem?_cons_zero, List.getElem?_cons_succ, Rs.of_some, Rs.bind_ok, Rs.bind_stuck, if_true, Bool.false_eq_true, if_false, List.set_cons_zero, List.set_cons_succ, Nat.zero_add, Nat.reduceAdd, Nat.reduceSub, add_ii, sub_ii, mul_2i, lt_ii, le_ii, gt_ii, ge_ii, len_ix, sorted_ix, sum_ix, eq_ix, ne_ix, turnE_one, turnC_one, turnC_b, turnL_one, reduceIte, Bool.not_true, Bool.not_false, Bool.true_eq_false, is_tt, isnot_tt, loopK_s, len_lit0]
    rw [slc_ix (a := i) (b := i + (k + 1)) (h := .int (0 + (i : Int) + (k : Int) + 1)) (by simp only [bndX]; congr 2; omega) (by simp only [exSs_cons, exSs_nil, seqK_next, seqK_ret, exS_set, exS_ret, exS_exp, exS_skip, exS_never, exS_iff, ifK_b, testM_eq, testK_b, exS_app, exS_par, exS_tset, tsetK_t, exS_loop, runK_next, runK_ret, evO, evF, freshX, esc, escs, frz, ev_var, ev_lit, ev_bin, ev_neg, negK_i, ev_not, notK_b, ev_and, andK_b, ev_or, orK_b, ev_ite, iteK_b, ev_chn, chnK_le, ev_list, ev_tup, ev_idx, ev_slc, ev_rev, revK_l, ev_blt, ev_isi, isiK_s, ev_call, ev_comp, ev_compC, evs_cons, evs_nil, getV, isiD, List.length_cons, List.length_nil, List.map_cons, List.map_nil, List.replicate, List.append_eq, List.nil_append, List.cons_append, List.append_nil, List.getElem?_cons_zero, List.getElem?_cons_succ, Rs.of_some, Rs.bind_ok, Rs.bind_stuck, if_true, Bool.false_eq_true, if_false, List.set_cons_zero, List.set_cons_succ, Nat.zero_add, Nat.reduceAdd, Nat.reduceSub, add_ii, sub_ii, mul_2i, lt_ii, le_ii, gt_ii, ge_ii, len_ix, sorted_ix, sum_ix, eq_ix, ne_ix, turnE_one, turnC_one, turnC_b, turnL_one, reduceIte, Bool.not_true, Bool.not_false, Bool.true_eq_false, is_tt, isnot_tt, loopK_s, len_lit0]) (by simp only [bndX]; congr 2; omega) (by omega) (by rw [longerM_length]; omega)]
    rw [Nat.add_sub_cancel_left, longerM_cut h0 (by omega)]
    simp only [max_ix (win_ne _ _ _), exSs_cons, exSs_nil, seqK_next, seqK_ret, exS_set, exS_ret, exS_exp, exS_skip, exS_never, exS_iff, ifK_b, testM_eq, testK_b, exS_app, exS_par, exS_tset, tsetK_t, exS_loop, runK_next, runK_ret, evO, evF, freshX, esc, escs, frz, ev_var, ev_lit, ev_bin, ev_neg, negK_i, ev_not, notK_b, ev_and, andK_b, ev_or, orK_b, ev_ite, iteK_b, ev_chn, chnK_le, ev_list, ev_tup, ev_idx, ev_slc, ev_rev, revK_l, ev_blt, ev_isi, isiK_s, ev_call, ev_comp, ev_compC, evs_cons, evs_nil, getV, isiD, List.length_cons, List.length_nil, List.map_cons, List.map_nil, List.replicate, List.append_eq, List.nil_append, List.cons_append, List.append_nil, List.getElem?_cons_zero, List.getElem?_cons_succ, Rs.of_some, Rs.bind_ok, Rs.bind_stuck, if_true, Bool.false_eq_true, if_false, List.set_cons_zero, List.set_cons_succ, Nat.zero_add, Nat.reduceAdd, Nat.reduceSub, add_ii, sub_ii, mul_2i, lt_ii, le_ii, gt_ii, ge_ii, len_ix, sorted_ix, sum_ix, eq_ix, ne_ix, turnE_one, turnC_one, turnC_b, turnL_one, reduceIte, Bool.not_true, Bool.not_false, Bool.true_eq_false, is_tt, isnot_tt, loopK_s, len_lit0]
def lowerRowD {T : Type} : List D → T → Rs T D := onRK isRow fun row k => .list (ix (lowerM row k))
def upperRowD {T : Type} : List D → T → Rs T D := onRK isRow fun row k => .list (ix (upperM row k))
def code_lower_row : List Cm := [.exp (.call 4 [.var 0, .var 1]), .ret (.call 7 [.var 0, .var 1])]
theorem run_lower_row (h4a : TB.ar 4 = 2) (h4 : TB.F 4 = checkBothD) (h6a : TB.ar 7 = 2) (h6 : TB.F 7 = lowerD) : ∀ (ds : List D) (s : T), ds.length = 2 → lowerRowD ds s ≠ .stuck → runD TB 2 code_lower_row ds s = lowerRowD ds s := by
  intro ds s hlen h
  obtain ⟨row, k, rfl, hp, k1, k3, e⟩ := onRK_inv h
  rw [show lowerRowD [.list (ix row), .int (k : Int)] s = _ from e, runD_eq]
  simp only [code_lower_row, h4a, h4, h6a, h6, checkBothD_eq hp k1 k3, lowerD_eq hp.small k1 k3, exSs_cons, exSs_nil, seqK_next, seqK_ret, exS_set, exS_ret, exS_exp, exS_skip, exS_never, exS_iff, ifK_b, testM_eq, testK_b, exS_app, exS_par, exS_tset, tsetK_t, exS_loop, runK_next, runK_ret, evO, evF, freshX, esc, escs, frz, ev_var, ev_lit, ev_bin, ev_neg, negK_i, ev_not, notK_b, ev_and, andK_b, ev_or, orK_b, ev_ite, iteK_b, ev_chn, chnK_le, ev_list, ev_tup, ev_idx, ev_slc, ev_rev, revK_l, ev_blt, ev_isi, isiK_s, ev_call, ev_comp, ev_compC, evs_cons, evs_nil, getV, isiD, List.length_cons, List.length_nil, List.map_cons, List.map_nil, List.replicate, List.append_eq, List.nil_append, List.cons_append, List.append_nil, List.getElem?_cons_zero, List.getElem?_cons_succ, Rs.of_some, Rs.bind_ok, Rs.bind_stuck, if_true, Bool.false_eq_true, if_false, List.set_cons_zero, List.set_cons_succ, Nat.zero_add, Nat.reduceAdd, Nat.reduceSub, add_ii, sub_ii, mul_2i, lt_ii, le_ii, gt_ii, ge_ii, len_ix, sorted_ix, sum_ix, eq_ix, ne_ix, turnE_one, turnC_one, turnC_b, turnL_one, reduceIte, Bool.not_true, Bool.not_false, Bool.true_eq_false, is_tt, isnot_tt, loopK_s, len_lit0]
def code_upper_row : List Cm := [.exp (.call 4 [.var 0, .var 1]), .ret (.call 8 [.var 0, .var 1])]
theorem run_upper_row (h4a : TB.ar 4 = 2) (h4 : TB.F 4 = checkBothD) (h6a : TB.ar 8 = 2) (h6 : TB.F 8 = upperD) : ∀ (ds : List D) (s : T), ds.length = 2 → upperRowD ds s ≠ .stuck → runD TB 2 code_upper_row ds s = upperRowD ds s := by
  intro ds s hlen h
  obtain ⟨row, k, rfl, hp, k1, k3, e⟩ := onRK_inv h
  rw [show upperRowD [.list (ix row), .int (k : Int)] s = _ from e, runD_eq]
  simp only [code_upper_row, h4a, h4, h6a, h6, checkBothD_eq hp k1 k3, upperD_eq hp.small k1 k3, exSs_cons, exSs_nil, seqK_next, seqK_ret, exS_set, exS_ret, exS_exp, exS_skip, exS_never, exS_iff, ifK_b, testM_eq, testK_b, exS_app, exS_par, exS_tset, tsetK_t, exS_loop, runK_next, runK_ret, evO, evF, freshX, esc, escs, frz, ev_var, ev_lit, ev_bin, ev_neg, negK_i, ev_not, notK_b, ev_and, andK_b, ev_or, orK_b, ev_ite, iteK_b, ev_chn, chnK_le, ev_list, ev_tup, ev_idx, ev_slc, ev_rev, revK_l, ev_blt, ev_isi, isiK_s, ev_call, ev_comp, ev_compC, evs_cons, evs_nil, getV, isiD, List.length_cons, List.length_nil, List.map_cons, List.map_nil, List.replicate, List.append_eq, List.nil_append, List.cons_append, List.append_nil, List.getElem?_cons_zero, List.getElem?_cons_succ, Rs.of_some, Rs.bind_ok, Rs.bind_stuck, if_true, Bool.false_eq_true, if_false, List.set_cons_zero, List.set_cons_succ, Nat.zero_add, Nat.reduceAdd, Nat.reduceSub, add_ii, sub_ii, mul_2i, lt_ii, le_ii, gt_ii, ge_ii, len_ix, sorted_ix, sum_ix, eq_ix, ne_ix, turnE_one, turnC_one, turnC_b, turnL_one, reduceIte, Bool.not_true, Bool.not_false, Bool.true_eq_false, is_tt, isnot_tt, loopK_s, len_lit0]
def overM (row : List Int) : List Int := row.map fun x => 9 - x
def overD {T : Type} : List D → T → Rs T D := onR isRow fun row => .list (ix (overM row))
def code_turned_over : List Cm := [.exp (.call 2 [.var 0]), .ret (.comp (.bin .sub (.lit (.int 9)) (.var 1)) (.one 1) .seq [.var 0] none)]
theorem run_over (h2a : TB.ar 2 = 1) (h2 : TB.F 2 = checkRowD) : ∀ (ds : List D) (s : T), ds.length = 1 → overD ds s ≠ .stuck → runD TB 2 code_turned_over ds s = overD ds s := by
  intro ds s hlen h
  obtain ⟨row, rfl, hp, e⟩ := onR_inv h
  rw [show overD [.list (ix row)] s = _ from e, runD_eq]
  have h100 := hp.small.2
  simp only [code_turned_over, h2a, h2, checkRowD_ix hp, exSs_cons, exSs_nil, seqK_next, seqK_ret, exS_set, exS_ret, exS_exp, exS_skip, exS_never, exS_iff, ifK_b, testM_eq, testK_b, exS_app, exS_par, exS_tset, tsetK_t, exS_loop, runK_next, runK_ret, evO, evF, freshX, esc, escs, frz, ev_var, ev_lit, ev_bin, ev_neg, negK_i, ev_not, notK_b, ev_and, andK_b, ev_or, orK_b, ev_ite, iteK_b, ev_chn, chnK_le, ev_list, ev_tup, ev_idx, ev_slc, ev_rev, revK_l, ev_blt, ev_isi, isiK_s, ev_call, ev_comp, ev_compC, evs_cons, evs_nil, getV, isiD, List.length_cons, List.length_nil, List.map_cons, List.map_nil, List.replicate, List.append_eq, List.nil_append, List.cons_append, List.append_nil, List.getElem?_cons_zero, List.getElem?_cons_succ, Rs.of_some, Rs.bind_ok, Rs.bind_stuck, if_true, Bool.false_eq_true, if_false, List.set_cons_zero, List.set_cons_succ, Nat.zero_add, Nat.reduceAdd, Nat.reduceSub, add_ii, sub_ii, mul_2i, lt_ii, le_ii, gt_ii, ge_ii, len_ix, sorted_ix, sum_ix, eq_ix, ne_ix, turnE_one, turnC_one, turnC_b, turnL_one, reduceIte, Bool.not_true, Bool.not_false, Bool.true_eq_false, is_tt, isnot_tt, loopK_s, len_lit0]
  rw [run_seq (xs := row) (fun x => 9 - x) (by omega) (by simp only [exSs_cons, exSs_nil, seqK_next, seqK_ret, exS_set, exS_ret, exS_exp, exS_skip, exS_never, exS_iff, ifK_b, testM_eq, testK_b, exS_app, exS_par, exS_tset, tsetK_t, exS_loop, runK_next, runK_ret, evO, evF, freshX, esc, escs, frz, ev_var, ev_lit, ev_bin, ev_neg, negK_i, ev_not, notK_b, ev_and, andK_b, ev_or, orK_b, ev_ite, iteK_b, ev_chn, chnK_le, ev_list, ev_tup, ev_idx, ev_slc, ev_rev, revK_l, ev_blt, ev_isi, isiK_s, ev_call, ev_comp, ev_compC, evs_cons, evs_nil, getV, isiD, List.length_cons, List.length_nil, List.map_cons, List.map_nil, List.replicate, List.append_eq, List.nil_append, List.cons_append, List.append_nil, List.getElem?_cons_zero, List.getElem?_cons_succ, Rs.of_some, Rs.bind_ok, Rs.bind_stuck, if_true, Bool.false_eq_true, if_false, List.set_cons_zero, List.set_cons_succ, Nat.zero_add, Nat.reduceAdd, Nat.reduceSub, add_ii, sub_ii, mul_2i, lt_ii, le_ii, gt_ii, ge_ii, len_ix, sorted_ix, sum_ix, eq_ix, ne_ix, turnE_one, turnC_one, turnC_b, turnL_one, reduceIte, Bool.not_true, Bool.not_false, Bool.true_eq_false, is_tt, isnot_tt, loopK_s, len_lit0]) ?_]
  · simp only [exSs_cons, exSs_nil, seqK_next, seqK_ret, exS_set, exS_ret, exS_exp, exS_skip, exS_never, exS_iff, ifK_b, testM_eq, testK_b, exS_app, exS_par, exS_tset, tsetK_t, exS_loop, runK_next, runK_ret, evO, evF, freshX, esc, escs, frz, ev_var, ev_lit, ev_bin, ev_neg, negK_i, ev_not, notK_b, ev_and, andK_b, ev_or, orK_b, ev_ite, iteK_b, ev_chn, chnK_le, ev_list, ev_tup, ev_idx, ev_slc, ev_rev, revK_l, ev_blt, ev_isi, isiK_s, ev_call, ev_comp, ev_compC, evs_cons, evs_nil, getV, isiD, List.length_cons, List.length_nil, List.map_cons, List.map_nil, List.replicate, List.append_eq, List.nil_append, List.cons_append, List.append_nil, List.getElem?_cons_zero, List.getElem?_cons_succ, Rs.of_some, Rs.bind_ok, Rs.bind_stuck, if_true, Bool.false_eq_true, if_false, List.set_cons_zero, List.set_cons_succ, Nat.zero_add, Nat.reduceAdd, Nat.reduceSub, add_ii, sub_ii, mul_2i, lt_ii, le_ii, gt_ii, ge_ii, len_ix, sorted_ix, sum_ix, eq_ix, ne_ix, turnE_one, turnC_one, turnC_b, turnL_one, reduceIte, Bool.not_true, Bool.not_false, Bool.true_eq_false, is_tt, isnot_tt, loopK_s, len_lit0]
    rfl
  · intro x hx
    simp only [exSs_cons, exSs_nil, seqK_next, seqK_ret, exS_set, exS_ret, exS_exp, exS_skip, exS_never, exS_iff, ifK_b, testM_eq, testK_b, exS_app, exS_par, exS_tset, tsetK_t, exS_loop, runK_next, runK_ret, evO, evF, freshX, esc, escs, frz, ev_var, ev_lit, ev_bin, ev_neg, negK_i, ev_not, notK_b, ev_and, andK_b, ev_or, orK_b, ev_ite, iteK_b, ev_chn, chnK_le, ev_list, ev_tup, ev_idx, ev_slc, ev_rev, revK_l, ev_blt, ev_isi, isiK_s, ev_call, ev_comp, ev_compC, evs_cons, evs_nil, getV, isiD, List.length_cons, List.length_nil, List.map_cons, List.map_nil, List.replicate, List.append_eq, List.nil_append, List.cons_append, List.append_nil, List.getElem?_cons_zero, List.getElem?_cons_succ, Rs.of_some, Rs.bind_ok, Rs.bind_stuck, if_true, Bool.false_eq_true, if_false, List.set_cons_zero, List.set_cons_succ, Nat.zero_add, Nat.reduceAdd, Nat.reduceSub, add_ii, sub_ii, mul_2i, lt_ii, le_ii, gt_ii, ge_ii, len_ix, sorted_ix, sum_ix, eq_ix, ne_ix, turnE_one, turnC_one, turnC_b, turnL_one, reduceIte, Bool.not_true, Bool.not_false, Bool.true_eq_false, is_tt, isnot_tt, loopK_s, len_lit0]
/-! ### the law's own side rows -/
def sideAt (sg : Int) (row : List Int) (k : Nat) (i : Int) : Int := sg * maxL ((List.range (k + 1)).map fun (q : Nat) => minL ((List.range (k + 1)).map fun (j : Nat) => sg * near row (i - (k : Int) + (q : Int) + (j : Int))))
def sideM (row : List Int) (k : Nat) (sg : Int) : List Int := rowOf row.length (sideAt sg row k)
def sideD {T : Type} : List D → T → Rs T D := onRKI small (fun _ i => i = 1 ∨ i = -1) fun row k sg => .list (ix (sideM row k sg))
theorem mul_si {sg : Int} (h : sg = 1 ∨ sg = -1) (x : Int) : opD .mul (.int sg) (.int x) = some (.int (sg * x)) := by
  simp only [opD]
  rw [if_pos (by rcases h with rfl | rfl <;> simp)]
def code_law_side : List Cm := [.set 3 (.list []), .loop (.one 4) .rng [.blt .len [.var 0]] [.set 5 (.list []), .loop (.one 6) .rng [.bin .sub (.var 4) (.var 1), .bin .add (.var 4) (.lit (.int 1))] [.app 5 (.blt .min [.comp (.bin .mul (.var 2) (.call 105 [.var 0, .var 7])) (.one 7) .rng [.var 6, .bin .add (.bin .add (.var 6) (.var 1)) (.lit (.int 1))] none])], .app 3 (.bin .mul (.var 2) (.blt .max [.var 5]))], .ret (.var 3)]
theorem run_side (ha : TB.ar 105 = 2) (hf : TB.F 105 = nearD) : ∀ (ds : List D) (s : T), ds.length = 3 → sideD ds s ≠ .stuck → runD TB 8 code_law_side ds s = sideD ds s := by
  intro ds s hlen h
  obtain ⟨row, k, sg, rfl, hp, k1, k3, hq, e⟩ := onRKI_inv h
  rw [show sideD [.list (ix row), .int (k : Int), .int sg] s = _ from e, runD_eq]
  have h0 := hp.1
  have h100 := hp.2
  have hn : ∀ (s : T) i, nearD [.list (ix row), .int i] s = .ok (.int (near row i)) s := fun s i => nearD_eq hp i
  simp only [code_law_side, len_lit0, src_rng1' (n := row.length) (lim_ok (by omega)), exSs_cons, exSs_nil, seqK_next, seqK_ret, exS_set, exS_ret, exS_exp, exS_skip, exS_never, exS_iff, ifK_b, testM_eq, testK_b, exS_app, exS_par, exS_tset, tsetK_t, exS_loop, runK_next, runK_ret, evO, evF, freshX, esc, escs, frz, ev_var, ev_lit, ev_bin, ev_neg, negK_i, ev_not, notK_b, ev_and, andK_b, ev_or, orK_b, ev_ite, iteK_b, ev_chn, chnK_le, ev_list, ev_tup, ev_idx, ev_slc, ev_rev, revK_l, ev_blt, ev_isi, isiK_s, ev_call, ev_comp, ev_compC, evs_cons, evs_nil, getV, isiD, List.length_cons, List.length_nil, List.map_cons, List.map_nil, List.replicate, List.append_eq, List.nil_append, List.cons_append, List.append_nil, List.getElem?_cons_zero, List.getElem?_cons_succ, Rs.of_some, Rs.bind_ok, Rs.bind_stuck, if_true, Bool.false_eq_true, if_false, List.set_cons_zero, List.set_cons_succ, Nat.zero_add, Nat.reduceAdd, Nat.reduceSub, add_ii, sub_ii, mul_2i, lt_ii, le_ii, gt_ii, ge_ii, len_ix, sorted_ix, sum_ix, eq_ix, ne_ix, turnE_one, turnC_one, turnC_b, turnL_one, reduceIte, Bool.not_true, Bool.not_false, Bool.true_eq_false, is_tt, isnot_tt, loopK_s, len_lit0]
  have key := forM_I (f := turnL TB (.one 4) [.set 5 (.list []), .loop (.one 6) .rng [.bin .sub (.var 4) (.var 1), .bin .add (.var 4) (.lit (.int 1))] [.app 5 (.blt .min [.comp (.bin .mul (.var 2) (.call 105 [.var 0, .var 7])) (.one 7) .rng [.var 6, .bin .add (.bin .add (.var 6) (.var 1)) (.lit (.int 1))] none])], .app 3 (.bin .mul (.var 2) (.blt .max [.var 5]))]) (lo := 0) (n := row.length)
    (fun j r' s' => ∃ a1 a2 a3, r' = [.val (.list (ix row)), .val (.int (k : Int)), .val (.int sg), .own (ix (rowOf j (sideAt sg row k))), a1, a2, a3, .un] ∧ s' = s) (fun j hj r' s' ⟨a1, a2, a3, er, es⟩ => ?_) (r := [.val (.list (ix row)), .val (.int (k : Int)), .val (.int sg), .own [], .un, .un, .un, .un]) (s := s) ⟨_, _, _, rfl, rfl⟩
  · obtain ⟨r', s', e1, a1, a2, a3, e2, e3⟩ := key
    subst e2 e3
    rw [e1]
    simp only [exSs_cons, exSs_nil, seqK_next, seqK_ret, exS_set, exS_ret, exS_exp, exS_skip, exS_never, exS_iff, ifK_b, testM_eq, testK_b, exS_app, exS_par, exS_tset, tsetK_t, exS_loop, runK_next, runK_ret, evO, evF, freshX, esc, escs, frz, ev_var, ev_lit, ev_bin, ev_neg, negK_i, ev_not, notK_b, ev_and, andK_b, ev_or, orK_b, ev_ite, iteK_b, ev_chn, chnK_le, ev_list, ev_tup, ev_idx, ev_slc, ev_rev, revK_l, ev_blt, ev_isi, isiK_s, ev_call, ev_comp, ev_compC, evs_cons, evs_nil, getV, isiD, List.length_cons, List.length_nil, List.map_cons, List.map_nil, List.replicate, List.append_eq, List.nil_append, List.cons_append, List.append_nil, List.getElem?_cons_zero, List.getElem?_cons_succ, Rs.of_some, Rs.bind_ok, Rs.bind_stuck, if_true, Bool.false_eq_true, if_false, List.set_cons_zero, List.set_cons_succ, Nat.zero_add, Nat.reduceAdd, Nat.reduceSub, add_ii, sub_ii, mul_2i, lt_ii, le_ii, gt_ii, ge_ii, len_ix, sorted_ix, sum_ix, eq_ix, ne_ix, turnE_one, turnC_one, turnC_b, turnL_one, reduceIte, Bool.not_true, Bool.not_false, Bool.true_eq_false, is_tt, isnot_tt, loopK_s, len_lit0]
    rfl
  · subst er es
    rw [turnL_one]
    simp only [len_lit0, src_rng2' (i := 0 + (j : Int) - (k : Int)) (j := 0 + (j : Int) + 1) (by omega) (by omega) (by omega) (by omega), exSs_cons, exSs_nil, seqK_next, seqK_ret, exS_set, exS_ret, exS_exp, exS_skip, exS_never, exS_iff, ifK_b, testM_eq, testK_b, exS_app, exS_par, exS_tset, tsetK_t, exS_loop, runK_next, runK_ret, evO, evF, freshX, esc, escs, frz, ev_var, ev_lit, ev_bin, ev_neg, negK_i, ev_not, notK_b, ev_and, andK_b, ev_or, orK_b, ev_ite, iteK_b, ev_chn, chnK_le, ev_list, ev_tup, ev_idx, ev_slc, ev_rev, revK_l, ev_blt, ev_isi, isiK_s, ev_call, ev_comp, ev_compC, evs_cons, evs_nil, getV, isiD, List.length_cons, List.length_nil, List.map_cons, List.map_nil, List.replicate, List.append_eq, List.nil_append, List.cons_append, List.append_nil, List.getElem?_cons_zero, List.getElem?_cons_succ, Rs.of_some, Rs.bind_ok, Rs.bind_stuck, if_true, Bool.false_eq_true, if_false, List.set_cons_zero, List.set_cons_succ, Nat.zero_add, Nat.reduceAdd, Nat.reduceSub, add_ii, sub_ii, mul_2i, lt_ii, le_ii, gt_ii, ge_ii, len_ix, sorted_ix, sum_ix, eq_ix, ne_ix, turnE_one, turnC_one, turnC_b, turnL_one, reduceIte, Bool.not_true, Bool.not_false, Bool.true_eq_false, is_tt, isnot_tt, loopK_s, len_lit0]
    rw [show (0 + (j : Int) + 1 - (0 + (j : Int) - (k : Int))).toNat = k + 1 by omega]
    have key := forM_I (f := turnL TB (.one 6) [.app 5 (.blt .min [.comp (.bin .mul (.var 2) (.call 105 [.var 0, .var 7])) (.one 7) .rng [.var 6, .bin .add (.bin .add (.var 6) (.var 1)) (.lit (.int 1))] none])]) (lo := 0 + (j : Int) - (k : Int)) (n := k + 1)
      (fun m r' s2 => ∃ b1, r' = [.val (.list (ix row)), .val (.int (k : Int)), .val (.int sg), .own (ix (rowOf j (sideAt sg row k))), .val (.int (0 + (j : Int))), .own (ix ((List.range m).map fun (q : Nat) => minL ((List.range (k + 1)).map fun (i : Nat) => sg * near row ((j : Int) - (k : Int) + (q : Int) + (i : Int))))), b1, .un] ∧ s2 = s') (fun m hm r' s2 ⟨b1, er, es⟩ => ?_) (r := [.val (.list (ix row)), .val (.int (k : Int)), .val (.int sg), .own (ix (rowOf j (sideAt sg row k))), .val (.int (0 + (j : Int))), .own [], a3, .un]) (s := s') ⟨_, rfl, rfl⟩
    · obtain ⟨r2, s2, e1, b1, e2, e3⟩ := key
      subst e2 e3
      rw [e1]
      simp only [exSs_cons, exSs_nil, seqK_next, seqK_ret, exS_set, exS_ret, exS_exp, exS_skip, exS_never, exS_iff, ifK_b, testM_eq, testK_b, exS_app, exS_par, exS_tset, tsetK_t, exS_loop, runK_next, runK_ret, evO, evF, freshX, esc, escs, frz, ev_var, ev_lit, ev_bin, ev_neg, negK_i, ev_not, notK_b, ev_and, andK_b, ev_or, orK_b, ev_ite, iteK_b, ev_chn, chnK_le, ev_list, ev_tup, ev_idx, ev_slc, ev_rev, revK_l, ev_blt, ev_isi, isiK_s, ev_call, ev_comp, ev_compC, evs_cons, evs_nil, getV, isiD, List.length_cons, List.length_nil, List.map_cons, List.map_nil, List.replicate, List.append_eq, List.nil_append, List.cons_append, List.append_nil, List.getElem?_cons_zero, List.getElem?_cons_succ, Rs.of_some, Rs.bind_ok, Rs.bind_stuck, if_true, Bool.false_eq_true, if_false, List.set_cons_zero, List.set_cons_succ, Nat.zero_add, Nat.reduceAdd, Nat.reduceSub, add_ii, sub_ii, mul_2i, lt_ii, le_ii, gt_ii, ge_ii, len_ix, sorted_ix, sum_ix, eq_ix, ne_ix, turnE_one, turnC_one, turnC_b, turnL_one, reduceIte, Bool.not_true, Bool.not_false, Bool.true_eq_false, is_tt, isnot_tt, loopK_s, len_lit0]
      rw [appK_own rfl]
      simp only [max_ix (range_ne _), mul_si hq, exSs_cons, exSs_nil, seqK_next, seqK_ret, exS_set, exS_ret, exS_exp, exS_skip, exS_never, exS_iff, ifK_b, testM_eq, testK_b, exS_app, exS_par, exS_tset, tsetK_t, exS_loop, runK_next, runK_ret, evO, evF, freshX, esc, escs, frz, ev_var, ev_lit, ev_bin, ev_neg, negK_i, ev_not, notK_b, ev_and, andK_b, ev_or, orK_b, ev_ite, iteK_b, ev_chn, chnK_le, ev_list, ev_tup, ev_idx, ev_slc, ev_rev, revK_l, ev_blt, ev_isi, isiK_s, ev_call, ev_comp, ev_compC, evs_cons, evs_nil, getV, isiD, List.length_cons, List.length_nil, List.map_cons, List.map_nil, List.replicate, List.append_eq, List.nil_append, List.cons_append, List.append_nil, List.getElem?_cons_zero, List.getElem?_cons_succ, Rs.of_some, Rs.bind_ok, Rs.bind_stuck, if_true, Bool.false_eq_true, if_false, List.set_cons_zero, List.set_cons_succ, Nat.zero_add, Nat.reduceAdd, Nat.reduceSub, add_ii, sub_ii, mul_2i, lt_ii, le_ii, gt_ii, ge_ii, len_ix, sorted_ix, sum_ix, eq_ix, ne_ix, turnE_one, turnC_one, turnC_b, turnL_one, reduceIte, Bool.not_true, Bool.not_false, Bool.true_eq_false, is_tt, isnot_tt, loopK_s, len_lit0]
      rw [if_pos (by rw [ix_length, rowOf_length]; exact lim_lt (by omega))]
      rw [show ix (rowOf j (sideAt sg row k)) ++ [PyData.int (sg * maxL ((List.range (k + 1)).map fun (q : Nat) => minL ((List.range (k + 1)).map fun (i : Nat) => sg * near row ((j : Int) - (k : Int) + (q : Int) + (i : Int)))))] = ix (rowOf (j + 1) (sideAt sg row k)) from ?_]
      · exact ⟨_, _, rfl, _, _, _, rfl, rfl⟩
      · rw [show ([PyData.int (sg * maxL ((List.range (k + 1)).map fun (q : Nat) => minL ((List.range (k + 1)).map fun (i : Nat) => sg * near row ((j : Int) - (k : Int) + (q : Int) + (i : Int)))))] : List D) = ix [sideAt sg row k (j : Int)] from rfl, ix_append]
        unfold rowOf
        rw [List.range_succ, List.map_append]
        rfl
    · subst er es
      rw [turnL_one]
      simp only [exSs_cons, exSs_nil, seqK_next, seqK_ret, exS_set, exS_ret, exS_exp, exS_skip, exS_never, exS_iff, ifK_b, testM_eq, testK_b, exS_app, exS_par, exS_tset, tsetK_t, exS_loop, runK_next, runK_ret, evO, evF, freshX, esc, escs, frz, ev_var, ev_lit, ev_bin, ev_neg, negK_i, ev_not, notK_b, ev_and, andK_b, ev_or, orK_b, ev_ite, iteK_b, ev_chn, chnK_le, ev_list, ev_tup, ev_idx, ev_slc, ev_rev, revK_l, ev_blt, ev_isi, isiK_s, ev_call, ev_comp, ev_compC, evs_cons, evs_nil, getV, isiD, List.length_cons, List.length_nil, List.map_cons, List.map_nil, List.replicate, List.append_eq, List.nil_append, List.cons_append, List.append_nil, List.getElem?_cons_zero, List.getElem?_cons_succ, Rs.of_some, Rs.bind_ok, Rs.bind_stuck, if_true, Bool.false_eq_true, if_false, List.set_cons_zero, List.set_cons_succ, Nat.zero_add, Nat.reduceAdd, Nat.reduceSub, add_ii, sub_ii, mul_2i, lt_ii, le_ii, gt_ii, ge_ii, len_ix, sorted_ix, sum_ix, eq_ix, ne_ix, turnE_one, turnC_one, turnC_b, turnL_one, reduceIte, Bool.not_true, Bool.not_false, Bool.true_eq_false, is_tt, isnot_tt, loopK_s, len_lit0]
      rw [appK_own rfl]
      simp only [exSs_cons, exSs_nil, seqK_next, seqK_ret, exS_set, exS_ret, exS_exp, exS_skip, exS_never, exS_iff, ifK_b, testM_eq, testK_b, exS_app, exS_par, exS_tset, tsetK_t, exS_loop, runK_next, runK_ret, evO, evF, freshX, esc, escs, frz, ev_var, ev_lit, ev_bin, ev_neg, negK_i, ev_not, notK_b, ev_and, andK_b, ev_or, orK_b, ev_ite, iteK_b, ev_chn, chnK_le, ev_list, ev_tup, ev_idx, ev_slc, ev_rev, revK_l, ev_blt, ev_isi, isiK_s, ev_call, ev_comp, ev_compC, evs_cons, evs_nil, getV, isiD, List.length_cons, List.length_nil, List.map_cons, List.map_nil, List.replicate, List.append_eq, List.nil_append, List.cons_append, List.append_nil, List.getElem?_cons_zero, List.getElem?_cons_succ, Rs.of_some, Rs.bind_ok, Rs.bind_stuck, if_true, Bool.false_eq_true, if_false, List.set_cons_zero, List.set_cons_succ, Nat.zero_add, Nat.reduceAdd, Nat.reduceSub, add_ii, sub_ii, mul_2i, lt_ii, le_ii, gt_ii, ge_ii, len_ix, sorted_ix, sum_ix, eq_ix, ne_ix, turnE_one, turnC_one, turnC_b, turnL_one, reduceIte, Bool.not_true, Bool.not_false, Bool.true_eq_false, is_tt, isnot_tt, loopK_s, len_lit0]
      have hc : ∀ r2 : MRho, r2 = [.val (.list (ix row)), .val (.int (k : Int)), .val (.int sg), .own (ix (rowOf j (sideAt sg row k))), .val (.int (0 + (j : Int))), .own (ix ((List.range m).map fun (q : Nat) => minL ((List.range (k + 1)).map fun (i : Nat) => sg * near row ((j : Int) - (k : Int) + (q : Int) + (i : Int))))), .val (.int (0 + (j : Int) - (k : Int) + (m : Int))), .un] →
          compF TB .rng [.var 6, .bin .add (.bin .add (.var 6) (.var 1)) (.lit (.int 1))] r2 (turnE TB r2 (.one 7) (.bin .mul (.var 2) (.call 105 [.var 0, .var 7]))) s2 = .ok (ix ((List.range (k + 1)).map fun (i : Nat) => sg * near row ((j : Int) - (k : Int) + (m : Int) + (i : Int)))) s2 := by
        intro r2 er
        subst er
        refine compF_of (ss := [.int (0 + (j : Int) - (k : Int) + (m : Int)), .int (0 + (j : Int) - (k : Int) + (m : Int) + (k : Int) + 1)]) (by simp only [exSs_cons, exSs_nil, seqK_next, seqK_ret, exS_set, exS_ret, exS_exp, exS_skip, exS_never, exS_iff, ifK_b, testM_eq, testK_b, exS_app, exS_par, exS_tset, tsetK_t, exS_loop, runK_next, runK_ret, evO, evF, freshX, esc, escs, frz, ev_var, ev_lit, ev_bin, ev_neg, negK_i, ev_not, notK_b, ev_and, andK_b, ev_or, orK_b, ev_ite, iteK_b, ev_chn, chnK_le, ev_list, ev_tup, ev_idx, ev_slc, ev_rev, revK_l, ev_blt, ev_isi, isiK_s, ev_call, ev_comp, ev_compC, evs_cons, evs_nil, getV, isiD, List.length_cons, List.length_nil, List.map_cons, List.map_nil, List.replicate, List.append_eq, List.nil_append, List.cons_append, List.append_nil, List.getElem?_cons_zero, List.getElem?_cons_succ, Rs.of_some, Rs.bind_ok, Rs.bind_stuck, if_true, Bool.false_eq_true, if_false, List.set_cons_zero, List.set_cons_succ, Nat.zero_add, Nat.reduceAdd, Nat.reduceSub, add_ii, sub_ii, mul_2i, lt_ii, le_ii, gt_ii, ge_ii, len_ix, sorted_ix, sum_ix, eq_ix, ne_ix, turnE_one, turnC_one, turnC_b, turnL_one, reduceIte, Bool.not_true, Bool.not_false, Bool.true_eq_false, is_tt, isnot_tt, loopK_s, len_lit0]) (src_rng2' (by omega) (by omega) (by omega) (by omega)) (by rw [upto_length]; exact lim_ok (by omega)) ?_
        rw [show (0 + (j : Int) - (k : Int) + (m : Int) + (k : Int) + 1 - (0 + (j : Int) - (k : Int) + (m : Int))).toNat = k + 1 by omega]
        rw [upto_map, compM_map (g := fun (i : Nat) => PyData.int (sg * near row ((j : Int) - (k : Int) + (m : Int) + (i : Int)))) fun i hi => ?_, ix_range]
        simp only [ha, hf, hn, mul_si hq, exSs_cons, exSs_nil, seqK_next, seqK_ret, exS_set, exS_ret, exS_exp, exS_skip, exS_never, exS_iff, ifK_b, testM_eq, testK_b, exS_app, exS_par, exS_tset, tsetK_t, exS_loop, runK_next, runK_ret, evO, evF, freshX, esc, escs, frz, ev_var, ev_lit, ev_bin, ev_neg, negK_i, ev_not, notK_b, ev_and, andK_b, ev_or, orK_b, ev_ite, iteK_b, ev_chn, chnK_le, ev_list, ev_tup, ev_idx, ev_slc, ev_rev, revK_l, ev_blt, ev_isi, isiK_s, ev_call, ev_comp, ev_compC, evs_cons, evs_nil, getV, isiD, List.length_cons, List.length_nil, List.map_cons, List.map_nil, List.replicate, List.append_eq, List.nil_append, List.cons_append, List.append_nil, List.getElem?_cons_zero, List.getElem?_cons_succ, Rs.of_some, Rs.bind_ok, Rs.bind_stuck, if_true, Bool.false_eq_true, if_false, List.set_cons_zero, List.set_cons_succ, Nat.zero_add, Nat.reduceAdd, Nat.reduceSub, add_ii, sub_ii, mul_2i, lt_ii, le_ii, gt_ii, ge_ii, len_ix, sorted_ix, sum_ix, eq_ix, ne_ix, turnE_one, turnC_one, turnC_b, turnL_one, reduceIte, Bool.not_true, Bool.not_false, Bool.true_eq_false, is_tt, isnot_tt, loopK_s, len_lit0]
        rw [show 0 + (j : Int) - (k : Int) + (m : Int) + (i : Int) = (j : Int) - (k : Int) + (m : Int) + (i : Int) by omega]
      rw [hc _ rfl]
      simp only [min_ix (range_ne _), exSs_cons, exSs_nil, seqK_next, seqK_ret, exS_set, exS_ret, exS_exp, exS_skip, exS_never, exS_iff, ifK_b, testM_eq, testK_b, exS_app, exS_par, exS_tset, tsetK_t, exS_loop, runK_next, runK_ret, evO, evF, freshX, esc, escs, frz, ev_var, ev_lit, ev_bin, ev_neg, negK_i, ev_not, notK_b, ev_and, andK_b, ev_or, orK_b, ev_ite, iteK_b, ev_chn, chnK_le, ev_list, ev_tup, ev_idx, ev_slc, ev_rev, revK_l, ev_blt, ev_isi, isiK_s, ev_call, ev_comp, ev_compC, evs_cons, evs_nil, getV, isiD, List.length_cons, List.length_nil, List.map_cons, List.map_nil, List.replicate, List.append_eq, List.nil_append, List.cons_append, List.append_nil, List.getElem?_cons_zero, List.getElem?_cons_succ, Rs.of_some, Rs.bind_ok, Rs.bind_stuck, if_true, Bool.false_eq_true, if_false, List.set_cons_zero, List.set_cons_succ, Nat.zero_add, Nat.reduceAdd, Nat.reduceSub, add_ii, sub_ii, mul_2i, lt_ii, le_ii, gt_ii, ge_ii, len_ix, sorted_ix, sum_ix, eq_ix, ne_ix, turnE_one, turnC_one, turnC_b, turnL_one, reduceIte, Bool.not_true, Bool.not_false, Bool.true_eq_false, is_tt, isnot_tt, loopK_s, len_lit0]
      rw [if_pos (by rw [ix_length, List.length_map, List.length_range]; exact lim_lt (by omega))]
      refine ⟨_, _, rfl, .val (.int (0 + (j : Int) - (k : Int) + (m : Int))), ?_, rfl⟩
      rw [← ix_snoc]
end
end MR

namespace MR
/-! ### bounds, turning, going backward -/
theorem rk_bd {f : Int → Int} {a b : Int} (h : ∀ j, a ≤ f j ∧ f j ≤ b) {k t : Nat} (ht : t ≤ 2 * k) (i : Int) : a ≤ rkF f k t i ∧ rkF f k t i ≤ b := by
  constructor
  · rw [le_rkF ht, cnt_full fun j _ _ => decide_eq_true (h j).1]
    omega
  · by_cases q : rkF f k t i ≤ b
    · exact q
    · have := (le_rkF (f := f) ht i (b + 1)).mp (by omega)
      rw [cnt_none fun j _ _ => decide_eq_false (by have := (h j).2; omega)] at this
      omega
theorem lo_bd {f : Int → Int} {a b : Int} (h : ∀ j, a ≤ f j ∧ f j ≤ b) (k : Nat) (i : Int) : a ≤ loF f k i ∧ loF f k i ≤ b := by
  constructor
  · rw [le_loF]
    exact ⟨i, by omega, by omega, fun j _ _ => (h j).1⟩
  · exact Int.le_trans (lo_le f k i) (h i).2
theorem up_bd {f : Int → Int} {a b : Int} (h : ∀ j, a ≤ f j ∧ f j ≤ b) (k : Nat) (i : Int) : a ≤ upF f k i ∧ upF f k i ≤ b := by
  constructor
  · exact Int.le_trans (h i).1 (le_up f k i)
  · by_cases q : upF f k i ≤ b
    · exact q
    · obtain ⟨j, _, _, e⟩ := (le_upF (f := f) (k := k) i (b + 1)).mp (by omega) i (by omega) (by omega)
      have := (h j).2
      omega
theorem isRow_near {row : List Int} (h : isRow row) (i : Int) : 0 ≤ near row i ∧ near row i ≤ 9 := by
  unfold near
  have hl := h.1
  have hi : (min (max i 0) ((row.length : Int) - 1)).toNat < row.length := by omega
  rw [List.getD_eq_getElem?_getD, List.getElem?_eq_getElem hi]
  exact h.2.2 _ (List.getElem_mem _)
theorem isRow_rowOf {n : Nat} {F : Int → Int} (h1 : 1 ≤ n) (h2 : n ≤ 12) (h : ∀ i, 0 ≤ i → i < (n : Int) → 0 ≤ F i ∧ F i ≤ 9) : isRow (rowOf n F) := by
  refine ⟨by rw [rowOf_length]; exact h1, by rw [rowOf_length]; exact h2, fun x hx => ?_⟩
  unfold rowOf at hx
  obtain ⟨i, hi, rfl⟩ := List.mem_map.mp hx
  exact h _ (by omega) (by simp at hi; omega)
theorem isRow.ne {row : List Int} (h : isRow row) : row ≠ [] := h.small.1
theorem isRow_rank {row : List Int} (h : isRow row) {k t : Nat} (ht : t ≤ 2 * k) : isRow (rankM row k t) := isRow_rowOf h.1 h.2.1 fun i _ _ => rk_bd (isRow_near h) ht i
theorem isRow_median {row : List Int} (h : isRow row) (k : Nat) : isRow (medianM row k) := isRow_rank h (by omega)
theorem isRow_lower {row : List Int} (h : isRow row) (k : Nat) : isRow (lowerM row k) := isRow_rowOf h.1 h.2.1 fun i _ _ => lo_bd (isRow_near h) k i
theorem isRow_upper {row : List Int} (h : isRow row) (k : Nat) : isRow (upperM row k) := isRow_rowOf h.1 h.2.1 fun i _ _ => up_bd (isRow_near h) k i
theorem isRow_over {row : List Int} (h : isRow row) : isRow (overM row) := by
  refine ⟨by unfold overM; rw [List.length_map]; exact h.1, by unfold overM; rw [List.length_map]; exact h.2.1, fun x hx => ?_⟩
  unfold overM at hx
  obtain ⟨y, hy, rfl⟩ := List.mem_map.mp hx
  have := h.2.2 y hy
  omega
theorem isRow_rev {row : List Int} (h : isRow row) : isRow row.reverse := ⟨by rw [List.length_reverse]; exact h.1, by rw [List.length_reverse]; exact h.2.1, fun x hx => h.2.2 x (List.mem_reverse.mp hx)⟩
theorem lower_lower {row : List Int} (h0 : row ≠ []) (k : Nat) : lowerM (lowerM row k) k = lowerM row k := by
  show rowOf (lowerM row k).length (loF (near (lowerM row k)) k) = rowOf row.length (loF (near row) k)
  rw [lowerM_length, near_lower h0]
  exact rowOf_congr fun i _ _ => lo_lo _ _ _
theorem upper_upper {row : List Int} (h0 : row ≠ []) (k : Nat) : upperM (upperM row k) k = upperM row k := by
  show rowOf (upperM row k).length (upF (near (upperM row k)) k) = rowOf row.length (upF (near row) k)
  rw [upperM_length, near_upper h0]
  exact rowOf_congr fun i _ _ => up_up _ _ _
theorem side_lo (row : List Int) (k : Nat) : sideM row k 1 = lowerM row k := by
  refine rowOf_congr fun i _ _ => ?_
  unfold sideAt loF
  simp only [Int.one_mul]
theorem side_up (row : List Int) (k : Nat) : sideM row k (-1) = upperM row k := by
  refine rowOf_congr fun i _ _ => eq_of_le fun v => ?_
  unfold sideAt upF
  rw [le_minR]
  constructor
  · intro h q hq
    rw [le_maxR]
    by_cases z : ∃ j, j ≤ k ∧ v ≤ near row (i - (k : Int) + (q : Int) + (j : Int))
    · exact z
    · exfalso
      have : -v + 1 ≤ maxL ((List.range (k + 1)).map fun (q : Nat) => minL ((List.range (k + 1)).map fun (j : Nat) => -1 * near row (i - (k : Int) + (q : Int) + (j : Int)))) := by
        rw [le_maxR]
        refine ⟨q, hq, ?_⟩
        rw [le_minR]
        intro j hj
        have : ¬ v ≤ near row (i - (k : Int) + (q : Int) + (j : Int)) := fun e => z ⟨j, hj, e⟩
        omega
      omega
  · intro h
    by_cases z : -v + 1 ≤ maxL ((List.range (k + 1)).map fun (q : Nat) => minL ((List.range (k + 1)).map fun (j : Nat) => -1 * near row (i - (k : Int) + (q : Int) + (j : Int))))
    · exfalso
      obtain ⟨q, hq, e⟩ := le_maxR.mp z
      obtain ⟨j, hj, e2⟩ := le_maxR.mp (h q hq)
      have := le_minR.mp e j hj
      omega
    · omega
theorem near_map {row : List Int} (h0 : row ≠ []) (g : Int → Int) (i : Int) : near (row.map g) i = g (near row i) := by
  have hl : 0 < row.length := List.length_pos_iff.mpr h0
  unfold near
  rw [List.length_map]
  have hi : (min (max i 0) ((row.length : Int) - 1)).toNat < row.length := by omega
  rw [List.getD_eq_getElem?_getD, List.getElem?_map, List.getD_eq_getElem?_getD, List.getElem?_eq_getElem hi]
  rfl
theorem map_rowOf (n : Nat) (F : Int → Int) (g : Int → Int) : (rowOf n F).map g = rowOf n fun i => g (F i) := by
  unfold rowOf
  rw [List.map_map]
  rfl
theorem lo_over (f : Int → Int) (k : Nat) (i : Int) : loF (fun j => 9 - f j) k i = 9 - upF f k i := by
  refine eq_of_le fun v => ?_
  rw [le_loF]
  constructor
  · rintro ⟨b, h1, h2, q⟩
    by_cases z : 10 - v ≤ upF f k i
    · obtain ⟨j, a, c, e⟩ := (le_upF i _).mp z b h1 h2
      have := q j a c
      omega
    · omega
  · intro h
    by_cases z : ∃ b, i - (k : Int) ≤ b ∧ b ≤ i ∧ ∀ j, b ≤ j → j ≤ b + (k : Int) → v ≤ 9 - f j
    · exact z
    · exfalso
      have : 10 - v ≤ upF f k i := (le_upF i _).mpr fun b h1 h2 => by
        by_cases y : ∃ j, b ≤ j ∧ j ≤ b + (k : Int) ∧ 10 - v ≤ f j
        · exact y
        · exact absurd ⟨b, h1, h2, fun j a c => by
            by_cases x : 10 - v ≤ f j
            · exact absurd ⟨j, a, c, x⟩ y
            · omega⟩ z
      omega
theorem lower_over {row : List Int} (h0 : row ≠ []) (k : Nat) : lowerM (overM row) k = overM (upperM row k) := by
  show rowOf (overM row).length (loF (near (overM row)) k) = (rowOf row.length (upF (near row) k)).map fun x => 9 - x
  rw [map_rowOf, show (overM row).length = row.length by unfold overM; rw [List.length_map]]
  refine rowOf_congr fun i _ _ => ?_
  rw [show near (overM row) = fun j => 9 - near row j from funext fun j => near_map h0 (fun x => 9 - x) j, lo_over]
theorem rev_rowOf (n : Nat) (F : Int → Int) : (rowOf n F).reverse = rowOf n fun i => F ((n : Int) - 1 - i) := by
  refine List.ext_getElem? fun i => ?_
  by_cases h : i < n
  · rw [List.getElem?_reverse (by rw [rowOf_length]; exact h), rowOf_length, rowOf_get (by omega), rowOf_get h]
    congr 2
    omega
  · rw [List.getElem?_eq_none (by rw [List.length_reverse, rowOf_length]; omega), List.getElem?_eq_none (by rw [rowOf_length]; omega)]
theorem near_rev {row : List Int} (h0 : row ≠ []) (i : Int) : near row.reverse i = near row ((row.length : Int) - 1 - i) := by
  have hl : 0 < row.length := List.length_pos_iff.mpr h0
  have e : row.reverse = rowOf row.length fun i => near row ((row.length : Int) - 1 - i) := by
    have := rev_rowOf row.length (near row)
    rw [rowOf_near] at this
    exact this
  rw [e, near_rowOf hl]
  refine ⟨fun i hi => ?_, fun i hi => ?_⟩
  · show near row _ = near row _
    rw [near_high (i := (row.length : Int) - 1 - i) (by omega), near_high (i := (row.length : Int) - 1 - 0) (by omega)]
  · show near row _ = near row _
    rw [near_low (i := (row.length : Int) - 1 - i) (by omega), near_low (i := (row.length : Int) - 1 - ((row.length : Int) - 1)) (by omega)]
theorem lo_flip (f : Int → Int) (c : Int) (k : Nat) (i : Int) : loF (fun j => f (c - j)) k i = loF f k (c - i) := by
  refine eq_of_le fun v => ?_
  rw [le_loF, le_loF]
  constructor
  · rintro ⟨b, h1, h2, q⟩
    refine ⟨c - b - (k : Int), by omega, by omega, fun j a d => ?_⟩
    have := q (c - j) (by omega) (by omega)
    rw [show c - (c - j) = j by omega] at this
    exact this
  · rintro ⟨b, h1, h2, q⟩
    exact ⟨c - b - (k : Int), by omega, by omega, fun j a d => q (c - j) (by omega) (by omega)⟩
theorem up_flip (f : Int → Int) (c : Int) (k : Nat) (i : Int) : upF (fun j => f (c - j)) k i = upF f k (c - i) := by
  refine eq_of_le fun v => ?_
  rw [le_upF, le_upF]
  constructor
  · intro h b h1 h2
    obtain ⟨j, a, d, e⟩ := h (c - b - (k : Int)) (by omega) (by omega)
    exact ⟨c - j, by omega, by omega, e⟩
  · intro h b h1 h2
    obtain ⟨j, a, d, e⟩ := h (c - b - (k : Int)) (by omega) (by omega)
    refine ⟨c - j, by omega, by omega, ?_⟩
    rw [show c - (c - j) = j by omega]
    exact e
theorem rk_flip (f : Int → Int) (c : Int) {k t : Nat} (ht : t ≤ 2 * k) (i : Int) : rkF (fun j => f (c - j)) k t i = rkF f k t (c - i) := by
  refine eq_of_le fun v => ?_
  rw [le_rkF ht, le_rkF ht]
  rw [show thr (fun j => f (c - j)) v = fun j => thr f v (c - j) from rfl, cnt_flip]
  rw [show c - (i - (k : Int)) - ((2 * k + 1 : Nat) : Int) + 1 = c - i - (k : Int) by omega]
theorem lower_rev {row : List Int} (h0 : row ≠ []) (k : Nat) : lowerM row.reverse k = (lowerM row k).reverse := by
  show rowOf row.reverse.length (loF (near row.reverse) k) = (rowOf row.length (loF (near row) k)).reverse
  rw [List.length_reverse, rev_rowOf]
  refine rowOf_congr fun i _ _ => ?_
  rw [show near row.reverse = fun j => near row ((row.length : Int) - 1 - j) from funext fun j => near_rev h0 j, lo_flip]
theorem upper_rev {row : List Int} (h0 : row ≠ []) (k : Nat) : upperM row.reverse k = (upperM row k).reverse := by
  show rowOf row.reverse.length (upF (near row.reverse) k) = (rowOf row.length (upF (near row) k)).reverse
  rw [List.length_reverse, rev_rowOf]
  refine rowOf_congr fun i _ _ => ?_
  rw [show near row.reverse = fun j => near row ((row.length : Int) - 1 - j) from funext fun j => near_rev h0 j, up_flip]
theorem median_rev {row : List Int} (h0 : row ≠ []) (k : Nat) : medianM row.reverse k = (medianM row k).reverse := by
  show rowOf row.reverse.length (rkF (near row.reverse) k k) = (rowOf row.length (rkF (near row) k k)).reverse
  rw [List.length_reverse, rev_rowOf]
  refine rowOf_congr fun i _ _ => ?_
  rw [show near row.reverse = fun j => near row ((row.length : Int) - 1 - j) from funext fun j => near_rev h0 j, rk_flip _ _ (by omega)]
end MR

namespace MR
open PySem L2
section
variable {da : Addr}
/-! ### what a law draws first -/
theorem pre_row (s : DrT) {most : Nat} (h1 : 1 ≤ most) (h2 : most ≤ 12) : ∃ row s1, lawRowD da [tokD da, .int (most : Int)] s = .ok (.list (ix row)) s1 ∧ isRow row ∧ row.length ≤ most := by
  have hR := lawRowD_eq (da := da) (s := s) (most := most) h1 h2
  obtain ⟨a, b⟩ := lawRow_row s (most := most) h1 h2
  exact ⟨_, _, hR, a, b⟩
theorem pre_draw (s : DrT) {n : Nat} (h1 : 1 ≤ n) (h2 : n < 1073741824) : ∃ (m : Nat) (s1 : DrT), drawD da [tokD da, .int (n : Int)] s = .ok (.int (m : Int)) s1 ∧ m < n := by
  obtain ⟨m, hm, e⟩ := draw_nat s (n := n) h1
  refine ⟨m, (drawM s (n : Int)).2, ?_, hm⟩
  rw [← e]
  exact drawD_eq (by omega) (by omega)
theorem pre_rad (s : DrT) : ∃ (k k0 : Nat) (s1 : DrT), drawD da [tokD da, .int 3] s = .ok (.int (k0 : Int)) s1 ∧ (1 : Int) + (k0 : Int) = (k : Int) ∧ 1 ≤ k ∧ k ≤ 3 := by
  obtain ⟨m, s1, e, hm⟩ := pre_draw (da := da) s (n := 3) (by omega) (by omega)
  exact ⟨1 + m, m, s1, e, by omega, by omega, by omega⟩
end
section
variable {T : Type} {TB : Tab T} {r : MRho} {s : T}
/-- a filter that keeps nothing -/
theorem run_nothing {elt c : Xp} {n : Nat} {m : Int} {src : List Xp} {tg : Tg} (hl : n ≤ 1000) (hs : evs TB true r src s = .ok [.int m] s) (hm : m = (n : Int))
    (he : ∀ (i : Nat), i < n → turnC TB r tg elt c (.int (0 + (i : Int))) s = .ok none s) : compF TB .rng src r (turnC TB r tg elt c) s = .ok [] s := by
  subst hm
  rw [run_places (p := fun _ => false) hl hs fun i hi => by rw [he i hi]; rfl]
  simp [ix]
theorem ne_nil : opD .ne (.list []) (.list []) = some (.bool false) := Eq.trans rfl rfl
theorem eq_nil : opD .eq (.list []) (.list []) = some (.bool true) := Eq.trans rfl rfl
end
end MR

namespace MR
/-! ### the recursive filter -/
def recG (f : Int → Int) (k : Nat) : Nat → Int → Int
  | 0 => f
  | j + 1 => fun i => if i = (j : Int) then rkF (recG f k j) k k (j : Int) else recG f k j i
theorem recG_out {f : Int → Int} {k : Nat} : ∀ {j : Nat} {i : Int}, (i < 0 ∨ (j : Int) ≤ i) → recG f k j i = f i
  | 0, _, _ => rfl
  | j + 1, i, h => by
    show (if i = (j : Int) then _ else recG f k j i) = _
    rw [if_neg (by omega)]
    exact recG_out (by omega)
theorem recG_step {f : Int → Int} {k j : Nat} {i : Int} (h : i ≠ (j : Int)) : recG f k (j + 1) i = recG f k j i := if_neg h
theorem recG_keep {f : Int → Int} {k : Nat} {i : Int} : ∀ {j m : Nat}, j ≤ m → i < (j : Int) → recG f k m i = recG f k j i
  | j, 0, h, _ => by rw [show j = 0 by omega]
  | j, m + 1, h, hi => by
    by_cases e : j = m + 1
    · rw [e]
    · rw [recG_step (by omega)]
      exact recG_keep (by omega) hi
/-- the recursive row's value by its thresholds, at every place -/
def RecAt (f g : Int → Int) (k : Nat) : Prop := ∀ i v, v ≤ g i ↔ k + 1 ≤ cnt (thr g v) (i - (k : Int)) k + cnt (thr f v) i (k + 1)
theorem recG_at {n k : Nat} {f : Int → Int} (hf : Flat n f) (h0 : 0 < n) : RecAt f (recG f k n) k := by
  intro i v
  by_cases h1 : i < 0
  · rw [recG_out (.inl h1)]
    have e1 : cnt (thr (recG f k n) v) (i - (k : Int)) k = cnt (thr f v) (i - (k : Int)) k := cnt_congr fun j a b => by show decide _ = decide _; rw [recG_out (.inl (by omega))]
    rw [e1, cnt_succ']
    by_cases q : v ≤ f i
    · rw [cnt_full fun j a b => decide_eq_true (by rw [hf.1 j (by omega), ← hf.1 i (by omega)]; exact q), if_pos (decide_eq_true q)]
      constructor <;> intro <;> first | assumption | omega
    · rw [cnt_none fun j a b => decide_eq_false (by rw [hf.1 j (by omega), ← hf.1 i (by omega)]; exact q), if_neg (by simpa using q)]
      have := cnt_le (thr f v) (i + 1) k
      constructor
      · intro z; exact absurd z q
      · intro z; omega
  · by_cases h2 : (n : Int) ≤ i
    · rw [recG_out (.inr h2)]
      by_cases q : v ≤ f i
      · rw [cnt_full (p := thr f v) fun j a b => decide_eq_true (by rw [hf.2 j (by omega), ← hf.2 i (by omega)]; exact q)]
        constructor
        · intro; omega
        · intro; exact q
      · rw [cnt_none (p := thr f v) fun j a b => decide_eq_false (by rw [hf.2 j (by omega), ← hf.2 i (by omega)]; exact q)]
        have := cnt_le (thr (recG f k n) v) (i - (k : Int)) k
        constructor
        · intro z; exact absurd z q
        · intro z; omega
    · obtain ⟨m, rfl⟩ : ∃ m : Nat, i = (m : Int) := ⟨i.toNat, by omega⟩
      rw [recG_keep (j := m + 1) (by omega) (by omega)]
      rw [show recG f k (m + 1) (m : Int) = rkF (recG f k m) k k (m : Int) from if_pos rfl, le_rkF (by omega)]
      rw [show 2 * k + 1 - k = k + 1 by omega, show 2 * k + 1 = k + (k + 1) by omega, cnt_add]
      have e1 : cnt (thr (recG f k m) v) ((m : Int) - (k : Int)) k = cnt (thr (recG f k n) v) ((m : Int) - (k : Int)) k := cnt_congr fun j a b => by show decide _ = decide _; rw [recG_keep (j := m) (m := n) (by omega) (by omega)]
      have e2 : cnt (thr (recG f k m) v) ((m : Int) - (k : Int) + (k : Int)) (k + 1) = cnt (thr f v) (m : Int) (k + 1) := by
        rw [show (m : Int) - (k : Int) + (k : Int) = (m : Int) by omega]
        exact cnt_congr fun j a b => by show decide _ = decide _; rw [recG_out (.inr (by omega))]
      rw [e1, e2]
/-- each value stands in an even stretch of k + 1, at each threshold -/
def Calm (k : Nat) (g : Int → Int) : Prop := ∀ i v, ∃ c, i - (k : Int) ≤ c ∧ c ≤ i ∧ ∀ j, c ≤ j → j ≤ c + (k : Int) → (v ≤ g j ↔ v ≤ g i)
theorem rec_calm {k : Nat} {f g : Int → Int} (h : RecAt f g k) (hg : ∀ i, i ≤ 0 → g i = g 0) : Calm k g := by
  intro i v
  have base : ∀ i, i ≤ 0 → ∃ c, i - (k : Int) ≤ c ∧ c ≤ i ∧ ∀ j, c ≤ j → j ≤ c + (k : Int) → (v ≤ g j ↔ v ≤ g i) := fun i hi => ⟨i - (k : Int), by omega, by omega, fun j a b => by rw [hg j (by omega), hg i hi]⟩
  have step : ∀ m : Nat, ∃ c, (m : Int) - (k : Int) ≤ c ∧ c ≤ (m : Int) ∧ ∀ j, c ≤ j → j ≤ c + (k : Int) → (v ≤ g j ↔ v ≤ g (m : Int)) := by
    intro m
    induction m with
    | zero => exact base _ (by omega)
    | succ m ih =>
      obtain ⟨c, h1, h2, hc⟩ := ih
      by_cases e : (v ≤ g ((m + 1 : Nat) : Int) ↔ v ≤ g (m : Int))
      · by_cases q : ((m + 1 : Nat) : Int) - (k : Int) ≤ c
        · exact ⟨c, q, by omega, fun j a b => (hc j a b).trans e.symm⟩
        · refine ⟨((m + 1 : Nat) : Int) - (k : Int), by omega, by omega, fun j a b => ?_⟩
          by_cases z : j = ((m + 1 : Nat) : Int)
          · rw [z]
          · exact (hc j (by omega) (by omega)).trans e.symm
      · have hcm : c = (m : Int) - (k : Int) := by
          by_cases q : c = (m : Int) - (k : Int)
          · exact q
          · exact absurd (hc ((m + 1 : Nat) : Int) (by omega) (by omega)) e
        subst hcm
        refine ⟨((m + 1 : Nat) : Int), by omega, by omega, fun j a b => ?_⟩
        by_cases q : v ≤ g ((m + 1 : Nat) : Int)
        · have q' : ¬ v ≤ g (m : Int) := fun z => e ⟨fun _ => z, fun _ => q⟩
          -- all of f's values ahead are great
          have z0 : cnt (thr g v) (((m + 1 : Nat) : Int) - (k : Int)) k = 0 := cnt_none fun j a b => decide_eq_false fun z => q' ((hc j (by omega) (by omega)).mp z)
          have z1 := (h ((m + 1 : Nat) : Int) v).mp q
          rw [z0] at z1
          have z2 : ∀ j, ((m + 1 : Nat) : Int) ≤ j → j ≤ ((m + 1 : Nat) : Int) + (k : Int) → v ≤ f j := by
            intro j a b
            by_cases y : v ≤ f j
            · exact y
            · exfalso
              have hj : (j - ((m + 1 : Nat) : Int)).toNat + (1 + (k - (j - ((m + 1 : Nat) : Int)).toNat)) = k + 1 := by omega
              rw [← hj, cnt_add, cnt_add, cnt_one, if_neg (by rw [show ((m + 1 : Nat) : Int) + ((j - ((m + 1 : Nat) : Int)).toNat : Int) = j by omega]; simpa using y)] at z1
              have c1 := cnt_le (thr f v) ((m + 1 : Nat) : Int) (j - ((m + 1 : Nat) : Int)).toNat
              have c2 := cnt_le (thr f v) (((m + 1 : Nat) : Int) + ((j - ((m + 1 : Nat) : Int)).toNat : Int) + ((1 : Nat) : Int)) (k - (j - ((m + 1 : Nat) : Int)).toNat)
              omega
          have z3 : ∀ d : Nat, d ≤ k → ∀ t : Nat, t ≤ d → v ≤ g (((m + 1 : Nat) : Int) + (t : Int)) := by
            intro d
            induction d with
            | zero => intro _ t ht; rw [show t = 0 by omega]; simpa using q
            | succ d ihd =>
              intro hd t ht
              by_cases y : t ≤ d
              · exact ihd (by omega) t y
              · rw [show t = d + 1 by omega, h]
                have c1 : d + 1 ≤ cnt (thr g v) (((m + 1 : Nat) : Int) + ((d + 1 : Nat) : Int) - (k : Int)) k := by
                  rw [show k = (k - (d + 1)) + (d + 1) by omega, cnt_add]
                  rw [cnt_full (n := d + 1) fun j a b => decide_eq_true (by
                    have := ihd (by omega) (j - ((m + 1 : Nat) : Int)).toNat (by omega)
                    rw [show ((m + 1 : Nat) : Int) + ((j - ((m + 1 : Nat) : Int)).toNat : Int) = j by omega] at this
                    exact this)]
                  omega
                have c2 : k - d ≤ cnt (thr f v) (((m + 1 : Nat) : Int) + ((d + 1 : Nat) : Int)) (k + 1) := by
                  rw [show k + 1 = (k - d) + (d + 1) by omega, cnt_add, cnt_full (n := k - d) fun j a b => decide_eq_true (z2 j (by omega) (by omega))]
                  omega
                omega
          have := z3 k (Nat.le_refl k) (j - ((m + 1 : Nat) : Int)).toNat (by omega)
          rw [show ((m + 1 : Nat) : Int) + ((j - ((m + 1 : Nat) : Int)).toNat : Int) = j by omega] at this
          exact ⟨fun _ => q, fun _ => this⟩
        · have q' : v ≤ g (m : Int) := by
            by_cases y : v ≤ g (m : Int)
            · exact y
            · exact absurd ⟨fun z => absurd z q, fun z => absurd z y⟩ e
          have z0 : cnt (thr g v) (((m + 1 : Nat) : Int) - (k : Int)) k = k := cnt_full fun j a b => decide_eq_true ((hc j (by omega) (by omega)).mpr q')
          have z1 : ¬ (k + 1 ≤ k + cnt (thr f v) ((m + 1 : Nat) : Int) (k + 1)) := fun z => q ((h ((m + 1 : Nat) : Int) v).mpr (by rw [z0]; exact z))
          have z2 : ∀ j, ((m + 1 : Nat) : Int) ≤ j → j ≤ ((m + 1 : Nat) : Int) + (k : Int) → ¬ v ≤ f j := by
            intro j a b y
            have hj : (j - ((m + 1 : Nat) : Int)).toNat + (1 + (k - (j - ((m + 1 : Nat) : Int)).toNat)) = k + 1 := by omega
            rw [← hj, cnt_add, cnt_add, cnt_one, if_pos (by rw [show ((m + 1 : Nat) : Int) + ((j - ((m + 1 : Nat) : Int)).toNat : Int) = j by omega]; exact decide_eq_true y)] at z1
            omega
          have z3 : ∀ d : Nat, d ≤ k → ∀ t : Nat, t ≤ d → ¬ v ≤ g (((m + 1 : Nat) : Int) + (t : Int)) := by
            intro d
            induction d with
            | zero => intro _ t ht; rw [show t = 0 by omega]; simpa using q
            | succ d ihd =>
              intro hd t ht
              by_cases y : t ≤ d
              · exact ihd (by omega) t y
              · rw [show t = d + 1 by omega, h]
                have c1 : cnt (thr g v) (((m + 1 : Nat) : Int) + ((d + 1 : Nat) : Int) - (k : Int)) k ≤ k - (d + 1) := by
                  have e3 := cnt_add (thr g v) (((m + 1 : Nat) : Int) + ((d + 1 : Nat) : Int) - (k : Int)) (k - (d + 1)) (d + 1)
                  rw [show k - (d + 1) + (d + 1) = k by omega] at e3
                  rw [e3, cnt_none (n := d + 1) fun j a b => decide_eq_false (by
                    have := ihd (by omega) (j - ((m + 1 : Nat) : Int)).toNat (by omega)
                    rw [show ((m + 1 : Nat) : Int) + ((j - ((m + 1 : Nat) : Int)).toNat : Int) = j by omega] at this
                    exact this)]
                  have := cnt_le (thr g v) (((m + 1 : Nat) : Int) + ((d + 1 : Nat) : Int) - (k : Int)) (k - (d + 1))
                  omega
                have c2 : cnt (thr f v) (((m + 1 : Nat) : Int) + ((d + 1 : Nat) : Int)) (k + 1) ≤ d + 1 := by
                  rw [show k + 1 = (k - d) + (d + 1) by omega, cnt_add, cnt_none (n := k - d) fun j a b => decide_eq_false (z2 j (by omega) (by omega))]
                  have := cnt_le (thr f v) (((m + 1 : Nat) : Int) + ((d + 1 : Nat) : Int) + ((k - d : Nat) : Int)) (d + 1)
                  omega
                omega
          have := z3 k (Nat.le_refl k) (j - ((m + 1 : Nat) : Int)).toNat (by omega)
          rw [show ((m + 1 : Nat) : Int) + ((j - ((m + 1 : Nat) : Int)).toNat : Int) = j by omega] at this
          exact ⟨fun z => absurd z this, fun z => absurd z q⟩
  by_cases hi : i ≤ 0
  · exact base i hi
  · have := step i.toNat
    rw [Int.toNat_of_nonneg (by omega)] at this
    exact this
theorem calm_lo {k : Nat} {g : Int → Int} (h : Calm k g) (i : Int) : loF g k i = g i := by
  refine eq_of_le fun v => ⟨fun z => Int.le_trans z (lo_le g k i), fun z => ?_⟩
  obtain ⟨c, h1, h2, hc⟩ := h i v
  exact (le_loF i v).mpr ⟨c, h1, h2, fun j a b => (hc j a b).mpr z⟩
theorem calm_up {k : Nat} {g : Int → Int} (h : Calm k g) (i : Int) : upF g k i = g i := by
  refine eq_of_le fun v => ⟨fun z => ?_, fun z => Int.le_trans z (le_up g k i)⟩
  obtain ⟨c, h1, h2, hc⟩ := h i v
  obtain ⟨j, a, b, e⟩ := (le_upF i v).mp z c h1 h2
  exact (hc j a b).mp e
theorem calm_med {k : Nat} {g : Int → Int} (h : Calm k g) (i : Int) : rkF g k k i = g i := by
  have h1 := lo_le_med g k i
  have h2 := med_le_up g k i
  rw [calm_lo h] at h1
  rw [calm_up h] at h2
  omega
theorem calm_of {k : Nat} {g : Int → Int} (h1 : ∀ i, loF g k i = g i) (h2 : ∀ i, upF g k i = g i) : Calm k g := by
  intro i v
  by_cases q : v ≤ g i
  · obtain ⟨c, a, b, hc⟩ := (le_loF i v).mp (by rw [h1]; exact q)
    exact ⟨c, a, b, fun j x y => ⟨fun _ => q, fun _ => hc j x y⟩⟩
  · by_cases z : ∃ c, i - (k : Int) ≤ c ∧ c ≤ i ∧ ∀ j, c ≤ j → j ≤ c + (k : Int) → ¬ v ≤ g j
    · obtain ⟨c, a, b, hc⟩ := z
      exact ⟨c, a, b, fun j x y => ⟨fun e => absurd e (hc j x y), fun e => absurd e q⟩⟩
    · exfalso
      have : v ≤ upF g k i := (le_upF i v).mpr fun b x y => by
        by_cases w : ∃ j, b ≤ j ∧ j ≤ b + (k : Int) ∧ v ≤ g j
        · exact w
        · exact absurd ⟨b, x, y, fun j p r e => w ⟨j, p, r, e⟩⟩ z
      rw [h2] at this
      exact q this
/-- a root: every value its own median -/
theorem root_rec {n k : Nat} {f : Int → Int} (h : ∀ i, rkF f k k i = f i) : ∀ j : Nat, recG f k j = f
  | 0 => rfl
  | j + 1 => by
    funext i
    show (if i = (j : Int) then _ else _) = _
    rw [root_rec (n := n) h j]
    split
    · rename_i e
      rw [e, h]
    · rfl
theorem root_calm {n k : Nat} {f : Int → Int} (hf : Flat n f) (h0 : 0 < n) (h : ∀ i, rkF f k k i = f i) : Calm k f := by
  have := recG_at (k := k) hf h0
  rw [root_rec (n := n) h n] at this
  exact rec_calm this hf.1
theorem flat_rec {n k : Nat} {f : Int → Int} (hf : Flat n f) (h0 : 0 < n) : Flat n (recG f k n) ∧ (∀ i, i ≤ 0 → recG f k n i = f 0) ∧ ∀ i, (n : Int) - 1 ≤ i → recG f k n i = f ((n : Int) - 1) := by
  have H := recG_at (k := k) hf h0
  have a : ∀ i, i ≤ 0 → recG f k n i = f 0 := by
    intro i hi
    by_cases q : i < 0
    · rw [recG_out (.inl q), hf.1 i hi]
    · rw [show i = 0 by omega]
      refine eq_of_le fun v => ?_
      rw [H]
      have e1 : cnt (thr (recG f k n) v) (0 - (k : Int)) k = cnt (thr f v) (0 - (k : Int)) k := cnt_congr fun j a b => by show decide _ = decide _; rw [recG_out (.inl (by omega))]
      rw [e1, cnt_succ']
      by_cases z : v ≤ f 0
      · rw [cnt_full fun j a b => decide_eq_true (by rw [hf.1 j (by omega)]; exact z), if_pos (decide_eq_true z)]
        constructor <;> intro <;> first | assumption | omega
      · rw [cnt_none fun j a b => decide_eq_false (by rw [hf.1 j (by omega)]; exact z), if_neg (by simpa using z)]
        have := cnt_le (thr f v) (0 + 1) k
        constructor
        · intro y; omega
        · intro y; exact absurd y z
  have b : ∀ i, (n : Int) - 1 ≤ i → recG f k n i = f ((n : Int) - 1) := by
    intro i hi
    by_cases q : (n : Int) ≤ i
    · rw [recG_out (.inr q), hf.2 i hi]
    · rw [show i = (n : Int) - 1 by omega]
      refine eq_of_le fun v => ?_
      rw [H]
      by_cases z : v ≤ f ((n : Int) - 1)
      · rw [cnt_full (p := thr f v) fun j a b => decide_eq_true (by rw [hf.2 j (by omega)]; exact z)]
        constructor
        · intro; exact z
        · intro; omega
      · rw [cnt_none (p := thr f v) fun j a b => decide_eq_false (by rw [hf.2 j (by omega)]; exact z)]
        have := cnt_le (thr (recG f k n) v) ((n : Int) - 1 - (k : Int)) k
        constructor
        · intro y; omega
        · intro y; exact absurd y z
  exact ⟨⟨fun i hi => by rw [a i hi, a 0 (by omega)], fun i hi => by rw [b i hi, b _ (Int.le_refl _)]⟩, a, b⟩
/-! ### the bounds -/
theorem rec_low {k : Nat} {f g : Int → Int} (h : RecAt f g k) (i : Int) : upF (loF f k) k i ≤ g i := by
  generalize hv : upF (loF f k) k i = v
  have hu : v ≤ upF (loF f k) k i := by omega
  -- a stretch of f of great values: g is great there
  have str : ∀ c, (∀ j, c ≤ j → j ≤ c + (k : Int) → v ≤ f j) → ∀ d : Nat, d ≤ k → v ≤ g (c + (d : Int)) := by
    intro c hc d
    induction d using Nat.strongRecOn with
    | ind d ih =>
      intro hd
      rw [h]
      have c1 : d ≤ cnt (thr g v) (c + (d : Int) - (k : Int)) k := by
        rw [show k = (k - d) + d by omega, cnt_add]
        rw [cnt_full (n := d) fun j a b => decide_eq_true (by
          have := ih (j - c).toNat (by omega) (by omega)
          rw [show c + ((j - c).toNat : Int) = j by omega] at this
          exact this)]
        omega
      have c2 : k + 1 - d ≤ cnt (thr f v) (c + (d : Int)) (k + 1) := by
        rw [show k + 1 = (k + 1 - d) + d by omega, cnt_add, cnt_full (n := k + 1 - d) fun j a b => decide_eq_true (hc j (by omega) (by omega))]
        omega
      omega
  have loG : ∀ j, v ≤ loF f k j → v ≤ g j := by
    intro j hj
    obtain ⟨c, h1, h2, hc⟩ := (le_loF j v).mp hj
    have := str c hc (j - c).toNat (by omega)
    rw [show c + ((j - c).toNat : Int) = j by omega] at this
    exact this
  by_cases q : v ≤ loF f k i
  · exact loG i q
  · -- the last great place of the lower row ahead of i
    obtain ⟨j0, x1, x2, x3⟩ := (le_upF i v).mp hu (i - (k : Int)) (by omega) (by omega)
    have last : ∀ m : Nat, ∀ j, i - (m : Int) ≤ j → j < i → v ≤ loF f k j → ∃ j, i - (m : Int) ≤ j ∧ j < i ∧ v ≤ loF f k j ∧ ∀ l, j < l → l ≤ i → ¬ v ≤ loF f k l := by
      intro m
      induction m with
      | zero => intro j a b; omega
      | succ m ih =>
        intro j a b e
        by_cases z : ∃ l, i - (m : Int) ≤ l ∧ l < i ∧ v ≤ loF f k l
        · obtain ⟨l, y1, y2, y3⟩ := z
          obtain ⟨l', w1, w2, w3, w4⟩ := ih l y1 y2 y3
          exact ⟨l', by omega, w2, w3, w4⟩
        · refine ⟨j, a, b, e, fun l y1 y2 y3 => ?_⟩
          by_cases w : l = i
          · rw [w] at y3; exact q y3
          · exact z ⟨l, by omega, by omega, y3⟩
    have hj0 : j0 ≠ i := fun z => q (z ▸ x3)
    obtain ⟨p, w1, w2, w3, w4⟩ := last k j0 (by omega) (by omega) x3
    obtain ⟨c, y1, y2, hc⟩ := (le_loF p v).mp w3
    have hcp : c + (k : Int) = p := by
      by_cases z : c + (k : Int) = p
      · exact z
      · exact absurd ((le_loF (p + 1) v).mpr ⟨c, by omega, by omega, hc⟩) (w4 (p + 1) (by omega) (by omega))
    -- g is great from c up to i
    have go : ∀ d : Nat, c + (d : Int) ≤ i → v ≤ g (c + (d : Int)) := by
      intro d
      induction d using Nat.strongRecOn with
      | ind d ih =>
        intro hd
        by_cases z : d ≤ k
        · exact str c hc d z
        · rw [h]
          have c1 : cnt (thr g v) (c + (d : Int) - (k : Int)) k = k := cnt_full fun j a b => decide_eq_true (by
            have := ih (j - c).toNat (by omega) (by omega)
            rw [show c + ((j - c).toNat : Int) = j by omega] at this
            exact this)
          obtain ⟨j, u1, u2, u3⟩ := (le_upF i v).mp hu (c + (d : Int)) (by omega) hd
          have u4 : v ≤ f j := Int.le_trans u3 (lo_le f k j)
          have c2 : 1 ≤ cnt (thr f v) (c + (d : Int)) (k + 1) := by
            have hj : (j - (c + (d : Int))).toNat + (1 + (k - (j - (c + (d : Int))).toNat)) = k + 1 := by omega
            rw [← hj, cnt_add, cnt_add, cnt_one, if_pos (by rw [show c + (d : Int) + ((j - (c + (d : Int))).toNat : Int) = j by omega]; exact decide_eq_true u4)]
            omega
          omega
    have := go (i - c).toNat (by omega)
    rw [show c + ((i - c).toNat : Int) = i by omega] at this
    exact this
theorem neg_lo (f : Int → Int) (k : Nat) (i : Int) : loF (fun j => - f j) k i = - upF f k i := by
  have := lo_over (fun j => f j + 9) k i
  have e : (fun j => 9 - (f j + 9)) = fun j => - f j := funext fun j => by omega
  rw [e] at this
  rw [this]
  have e2 : upF (fun j => f j + 9) k i = upF f k i + 9 := by
    refine eq_of_le fun v => ?_
    rw [show (v ≤ upF f k i + 9) ↔ (v - 9 ≤ upF f k i) from by omega, le_upF, le_upF]
    constructor
    · intro h b x y
      obtain ⟨j, p, r, z⟩ := h b x y
      exact ⟨j, p, r, by omega⟩
    · intro h b x y
      obtain ⟨j, p, r, z⟩ := h b x y
      exact ⟨j, p, r, by omega⟩
  rw [e2]
  omega
theorem neg_up (f : Int → Int) (k : Nat) (i : Int) : upF (fun j => - f j) k i = - loF f k i := by
  have := neg_lo (fun j => - f j) k i
  have e : (fun j => - - f j) = f := funext fun j => by omega
  rw [e] at this
  omega
theorem neg_rec {k : Nat} {f g : Int → Int} (h : RecAt f g k) : RecAt (fun j => - f j) (fun j => - g j) k := by
  intro i v
  have en : ∀ w : Int → Int, (fun j => !thr w (1 - v) j) = thr (fun j => - w j) v := fun w => funext fun j => by
    show (!decide _) = decide _
    by_cases z : v ≤ - w j
    · rw [decide_eq_true z, decide_eq_false (by omega)]; rfl
    · rw [decide_eq_false z, decide_eq_true (by omega)]; rfl
  have e1 := cnt_not (thr g (1 - v)) (i - (k : Int)) k
  have e2 := cnt_not (thr f (1 - v)) i (k + 1)
  rw [en] at e1 e2
  have H := h i (1 - v)
  show v ≤ - g i ↔ _
  constructor
  · intro z
    have : ¬ 1 - v ≤ g i := by omega
    rw [H] at this
    omega
  · intro z
    have : ¬ 1 - v ≤ g i := by
      rw [H]
      omega
    omega
theorem rec_high {k : Nat} {f g : Int → Int} (h : RecAt f g k) (i : Int) : g i ≤ loF (upF f k) k i := by
  have := rec_low (neg_rec h) i
  rw [show loF (fun j => - f j) k = fun j => - upF f k j from funext fun j => neg_lo f k j, neg_up] at this
  omega
/-! ### rows -/
def recM (row : List Int) (k : Nat) : List Int := rowOf row.length (recG (near row) k row.length)
theorem recM_length (row : List Int) (k : Nat) : (recM row k).length = row.length := rowOf_length _ _
theorem near_rec {row : List Int} (h0 : row ≠ []) (k : Nat) : near (recM row k) = recG (near row) k row.length := funext fun i => near_rowOf (List.length_pos_iff.mpr h0) (flat_rec (flat_near row) (List.length_pos_iff.mpr h0)).1 i
theorem rec_at {row : List Int} (h0 : row ≠ []) (k : Nat) : RecAt (near row) (near (recM row k)) k := by
  rw [near_rec h0]
  exact recG_at (flat_near row) (List.length_pos_iff.mpr h0)
theorem recM_calm {row : List Int} (h0 : row ≠ []) (k : Nat) : Calm k (near (recM row k)) := rec_calm (rec_at h0 k) (flat_near (recM row k)).1
theorem near_inj {a b : List Int} (hl : a.length = b.length) (h : ∀ i, near a i = near b i) : a = b := by
  rw [← rowOf_near a, ← rowOf_near b, hl]
  exact rowOf_congr fun i _ _ => h i
theorem median_calm {row : List Int} {k : Nat} (h : Calm k (near row)) : medianM row k = row := by
  rw [medianM_eq]
  have : rowOf row.length (near row) = row := rowOf_near row
  conv => rhs; rw [← this]
  exact rowOf_congr fun i _ _ => calm_med h i
theorem root_at {row : List Int} {k : Nat} (h0 : row ≠ []) (h : medianM row k = row) (i : Int) : rkF (near row) k k i = near row i := by
  rw [← near_median h0, h]
theorem row_calm {row : List Int} {k : Nat} (h0 : row ≠ []) (h : medianM row k = row) : Calm k (near row) := root_calm (flat_near row) (List.length_pos_iff.mpr h0) (root_at h0 h)
theorem rec_of_root {row : List Int} {k : Nat} (h0 : row ≠ []) (h : medianM row k = row) : recM row k = row := by
  unfold recM
  rw [root_rec (n := row.length) (root_at h0 h)]
  exact rowOf_near row
theorem rec_rec {row : List Int} {k : Nat} (h0 : row ≠ []) : recM (recM row k) k = recM row k := by
  have h1 : recM row k ≠ [] := fun z => h0 (List.eq_nil_of_length_eq_zero (by rw [← recM_length row k, z]; rfl))
  exact rec_of_root h1 (median_calm (recM_calm h0 k))
theorem rec_bd {f : Int → Int} {a b : Int} (h : ∀ j, a ≤ f j ∧ f j ≤ b) (k : Nat) : ∀ (n : Nat) (i : Int), a ≤ recG f k n i ∧ recG f k n i ≤ b
  | 0, i => h i
  | n + 1, i => by
    show a ≤ (if i = (n : Int) then _ else _) ∧ (if i = (n : Int) then _ else _) ≤ b
    split
    · exact rk_bd (rec_bd h k n) (by omega) _
    · exact rec_bd h k n i
theorem isRow_rec {row : List Int} (h : isRow row) (k : Nat) : isRow (recM row k) := isRow_rowOf h.1 h.2.1 fun i _ _ => rec_bd (isRow_near h) k _ i
/-! ### windows of k + 2 that rise or fall -/
theorem calm_peak {k : Nat} {g : Int → Int} (h : Calm k g) {p q r : Int} (h1 : p < q) (h2 : q < r) (h3 : r ≤ p + (k : Int) + 1) : ¬ (g p < g q ∧ g r < g q) ∧ ¬ (g q < g p ∧ g q < g r) := by
  constructor
  · rintro ⟨a, b⟩
    obtain ⟨c, x, y, hc⟩ := h q (g q)
    by_cases z : c ≤ p
    · have := (hc p z (by omega)).mpr (Int.le_refl _)
      omega
    · have := (hc r (by omega) (by omega)).mpr (Int.le_refl _)
      omega
  · rintro ⟨a, b⟩
    obtain ⟨c, x, y, hc⟩ := h q (g q + 1)
    by_cases z : c ≤ p
    · have := (hc p z (by omega)).mp (by omega)
      omega
    · have := (hc r (by omega) (by omega)).mp (by omega)
      omega
theorem calm_mono {k : Nat} {g : Int → Int} (h : Calm k g) (a : Int) : (∀ p q, a ≤ p → p < q → q ≤ a + (k : Int) + 1 → g p ≤ g q) ∨ (∀ p q, a ≤ p → p < q → q ≤ a + (k : Int) + 1 → g q ≤ g p) := by
  by_cases e : g a ≤ g (a + (k : Int) + 1)
  · left
    intro p q h1 h2 h3
    by_cases z : g p ≤ g q
    · exact z
    · exfalso
      have ap : g p ≤ g a := by
        by_cases w : p = a
        · rw [w]; exact Int.le_refl _
        · have := (calm_peak h (p := a) (q := p) (r := q) (by omega) h2 (by omega)).1
          omega
      by_cases w : q = a + (k : Int) + 1
      · rw [w] at z; omega
      · have := (calm_peak h (p := p) (q := q) (r := a + (k : Int) + 1) h2 (by omega) (by omega)).2
        omega
  · right
    intro p q h1 h2 h3
    by_cases z : g q ≤ g p
    · exact z
    · exfalso
      have ap : g a ≤ g p := by
        by_cases w : p = a
        · rw [w]; exact Int.le_refl _
        · have := (calm_peak h (p := a) (q := p) (r := q) (by omega) h2 (by omega)).2
          omega
      by_cases w : q = a + (k : Int) + 1
      · rw [w] at z; omega
      · have := (calm_peak h (p := p) (q := q) (r := a + (k : Int) + 1) h2 (by omega) (by omega)).1
        omega
end MR

namespace MR
open PySem PySem.Spec PyProof.Rows L2
/-! ### a def that hands back a new list -/
section
variable {P : Program} {w : World} {K : PySem.W.Frag} {mg : Str → Option Value} {base : Heap} {xc : Nat → Value} {G : SS} {TB : Tab G.T} {g : Cfg} {k : Nat}
theorem spFF_imp {n : Nat} {a b : List D → G.T → Rs G.T (List D)} (h : ∀ ds s, ds.length = n → b ds s ≠ .stuck → a ds s = b ds s) {vs : List V} {H : Hp} {Q : VK} {E : XK} (q : spFF G xc n b vs H Q E) : spFF G xc n a vs H Q E := by
  obtain ⟨hl, S, ds, st, w, r, o⟩ := q
  refine ⟨hl, S, ds, st, w, r, ?_⟩
  rw [h ds st (by rw [← r.length]; exact hl) (fun z => by rw [z] at o; exact o)]
  exact o
theorem fnAtFF {nm : Str} {st : Stmt} {ps : List Str} {a b : Expr} {p1 p2 : Pos} {x y : Xp} {i : Nat} {fn : List D → G.T → Rs G.T (List D)} (d : DefAt K mg nm st ps) (Sc : FnScope g.N ps (defScope st)) (gl : Glob G TB g xc CX0 k P w K mg base) (hb : defBody st = [.Return (some (.BinOp a .Add b p1)) p2]) (hx : cpE g 60 (defScope st) a = some x) (hy : cpE g 60 (defScope st) b = some y) (hps : ps.length ≤ g.N.length)
    (h : ∀ ds s, ds.length = ps.length → fn ds s ≠ .stuck → evCat TB (ds.map Slt.val ++ List.replicate (g.N.length - ds.length) .un) x y s = fn ds s) (har : TB.ar i = ps.length) (hF : TB.FF i = fn) : FnAt P w K mg base CX0 (k + 1) nm (spFF G xc (TB.ar i) (TB.FF i)) := by
  obtain ⟨f, fd, F, hm, hbb⟩ := d
  refine ⟨f, fd, ps, ?_, hm, F.kp, hbb⟩
  rw [har, hF]
  exact (fn_okF F Sc gl hb hx hy hps).imp fun _ _ _ _ q => spFF_imp h q
abbrev FfsOkC (CX : CXT) (P : Program) (w : World) (K : PySem.W.Frag) (mg : Str → Option Value) (base : Heap) (xc : Nat → Value) (G : SS) (TB : Tab G.T) (k : Nat) (l : List (Str × Nat)) : Prop := ∀ x i, l.lookup x = some i → FnAt P w K mg base CX k x (spFF G xc (TB.ar i) (TB.FF i))
theorem ffs_nil {CX : CXT} : FfsOkC CX P w K mg base xc G TB k [] := fun _ _ h => nomatch h
theorem ffs_cons {CX : CXT} {x : Str} {i j : Nat} {l : List (Str × Nat)} (h : FnAt P w K mg base CX j x (spFF G xc (TB.ar i) (TB.FF i))) (hk : j ≤ k) (r : FfsOkC CX P w K mg base xc G TB k l) : FfsOkC CX P w K mg base xc G TB k ((x, i) :: l) := fun y n e => by
  rw [List.lookup_cons] at e
  split at e
  · rename_i q
    cases e
    rw [eq_of_beq q]
    exact h.mono hk
  · exact r y n e
theorem glob_mkF {CX : CXT} (b : ∀ x ∈ bltNames, mg x = none) (c : CstOk mg g.cst) (f : FnsOkC CX P w K mg base xc G TB k g.fns) (ff : FfsOkC CX P w K mg base xc G TB k g.ffs) (hx : g.xcl = [] := by rfl) : Glob G TB g xc CX k P w K mg base := ⟨b, c, f, ff, fun x i h => (by rw [hx] at h; cases h)⟩
end
end MR
namespace MR
open PySem L2
section
variable {T : Type} {TB : Tab T} {r : MRho} {s : T}
def longerF {T : Type} : List D → T → Rs T (List D)
  | [.list ds, .int k], s => match intsOf ds with
    | some row => if small row ∧ 1 ≤ k ∧ k ≤ 3 then .ok (ix (longerM row k.toNat)) s else .stuck
    | none => .stuck
  | _, _ => .stuck
theorem longerF_inv {ds : List D} {s : T} (h : longerF ds s ≠ .stuck) : ∃ row k, ds = [.list (ix row), .int ((k : Nat) : Int)] ∧ small row ∧ 1 ≤ k ∧ k ≤ 3 ∧ longerF ds s = .ok (ix (longerM row k)) s := by
  unfold longerF at h
  split at h
  · rename_i ds k
    split at h
    · rename_i row hr
      split at h
      · rename_i hc
        refine ⟨row, k.toNat, ?_, hc.1, by omega, by omega, ?_⟩
        · rw [of_intsOf hr, Int.toNat_of_nonneg (by omega)]
          rfl
        · simp only [longerF, hr]
          rw [if_pos hc]
      · exact absurd rfl h
    · exact absurd rfl h
  · exact absurd rfl h
theorem longerF_eq {row : List Int} {k : Nat} (hp : small row) (k1 : 1 ≤ k) (k3 : k ≤ 3) : longerF [.list (ix row), .int (k : Int)] s = .ok (ix (longerM row k)) s := by
  simp only [longerF, intsOf_ix]
  rw [if_pos ⟨hp, by omega, by omega⟩, Int.toNat_natCast]
theorem run_longerF : ∀ (ds : List D) (s : T), ds.length = 2 → longerF ds s ≠ .stuck → evCat TB (ds.map Slt.val ++ List.replicate (2 - ds.length) .un) (.bin .add (.bin .mul (.list [.idx (.var 0) (.lit (.int 0))]) (.var 1)) (.var 0)) (.bin .mul (.list [.idx (.var 0) (.neg (.lit (.int 1)))]) (.var 1)) s = longerF ds s := by
  intro ds s hlen h
  obtain ⟨row, k, rfl, hp, k1, k3, e⟩ := longerF_inv h
  rw [e]
  have h0 := hp.1
  have h100 := hp.2
  unfold evCat
  simp only [idx_first h0, idx_last h0, one_lim, rep_one _ k (by omega), exSs_cons, exSs_nil, seqK_next, seqK_ret, exS_set, exS_ret, exS_exp, exS_skip, exS_never, exS_iff, ifK_b, testM_eq, testK_b, exS_app, exS_par, exS_tset, tsetK_t, exS_loop, runK_next, runK_ret, evO, evF, freshX, esc, escs, frz, ev_var, ev_lit, ev_bin, ev_neg, negK_i, ev_not, notK_b, ev_and, andK_b, ev_or, orK_b, ev_ite, iteK_b, ev_chn, chnK_le, ev_list, ev_tup, ev_idx, ev_slc, ev_rev, revK_l, ev_blt, ev_isi, isiK_s, ev_call, ev_comp, ev_compC, evs_cons, evs_nil, getV, isiD, List.length_cons, List.length_nil, List.map_cons, List.map_nil, List.replicate, List.append_eq, List.nil_append, List.cons_append, List.append_nil, List.getElem?_cons_zero, List.getElem?_cons_succ, Rs.of_some, Rs.bind_ok, Rs.bind_stuck, if_true, Bool.false_eq_true, if_false, List.set_cons_zero, List.set_cons_succ, Nat.zero_add, Nat.reduceAdd, Nat.reduceSub, add_ii, sub_ii, mul_2i, lt_ii, le_ii, gt_ii, ge_ii, len_ix, sorted_ix, sum_ix, eq_ix, ne_ix, turnE_one, turnC_one, turnC_b, turnL_one, reduceIte, Bool.not_true, Bool.not_false, Bool.true_eq_false, is_tt, isnot_tt, loopK_s, len_lit0]
  rw [cat_ix (by rw [List.length_replicate]; omega)]
  simp only [exSs_cons, exSs_nil, seqK_next, seqK_ret, exS_set, exS_ret, exS_exp, exS_skip, exS_never, exS_iff, ifK_b, testM_eq, testK_b, exS_app, exS_par, exS_tset, tsetK_t, exS_loop, runK_next, runK_ret, evO, evF, freshX, esc, escs, frz, ev_var, ev_lit, ev_bin, ev_neg, negK_i, ev_not, notK_b, ev_and, andK_b, ev_or, orK_b, ev_ite, iteK_b, ev_chn, chnK_le, ev_list, ev_tup, ev_idx, ev_slc, ev_rev, revK_l, ev_blt, ev_isi, isiK_s, ev_call, ev_comp, ev_compC, evs_cons, evs_nil, getV, isiD, List.length_cons, List.length_nil, List.map_cons, List.map_nil, List.replicate, List.append_eq, List.nil_append, List.cons_append, List.append_nil, List.getElem?_cons_zero, List.getElem?_cons_succ, Rs.of_some, Rs.bind_ok, Rs.bind_stuck, if_true, Bool.false_eq_true, if_false, List.set_cons_zero, List.set_cons_succ, Nat.zero_add, Nat.reduceAdd, Nat.reduceSub, add_ii, sub_ii, mul_2i, lt_ii, le_ii, gt_ii, ge_ii, len_ix, sorted_ix, sum_ix, eq_ix, ne_ix, turnE_one, turnC_one, turnC_b, turnL_one, reduceIte, Bool.not_true, Bool.not_false, Bool.true_eq_false, is_tt, isnot_tt, loopK_s, len_lit0]
  rw [if_pos (by rw [ix_length, ix_length, List.length_append, List.length_replicate, List.length_replicate]; exact lim_ok (by omega)), ix_append]
  rfl
/-- the longer row of a function -/
def wideOf (n k : Nat) (F : Int → Int) : List Int := (List.range (n + 2 * k)).map fun (q : Nat) => F ((q : Int) - (k : Int))
theorem wideOf_length (n k : Nat) (F : Int → Int) : (wideOf n k F).length = n + 2 * k := by simp [wideOf]
theorem wide_longer {row : List Int} (h0 : row ≠ []) (k : Nat) : longerM row k = wideOf row.length k (near row) := by
  refine List.ext_getElem? fun j => ?_
  by_cases h : j < row.length + 2 * k
  · rw [longerM_get h0 h]
    unfold wideOf
    rw [List.getElem?_map, List.getElem?_range h]
    rfl
  · rw [List.getElem?_eq_none (by rw [longerM_length]; omega), List.getElem?_eq_none (by rw [wideOf_length]; omega)]
theorem wide_set (n k : Nat) (F : Int → Int) (j : Nat) (v : Int) : (wideOf n k F).set (k + j) v = wideOf n k fun i => if i = (j : Int) then v else F i := by
  refine List.ext_getElem? fun m => ?_
  rw [List.getElem?_set]
  by_cases h : m < n + 2 * k
  · by_cases e : k + j = m
    · rw [if_pos e, if_pos (by rw [wideOf_length]; omega)]
      unfold wideOf
      rw [List.getElem?_map, List.getElem?_range h]
      simp only [Option.map_some]
      rw [if_pos (by omega)]
    · rw [if_neg e]
      unfold wideOf
      rw [List.getElem?_map, List.getElem?_map, List.getElem?_range h]
      simp only [Option.map_some]
      rw [if_neg (by omega)]
  · by_cases e : k + j = m
    · rw [if_pos e, if_neg (by rw [wideOf_length]; omega), List.getElem?_eq_none (by rw [wideOf_length]; omega)]
    · rw [if_neg e, List.getElem?_eq_none (by rw [wideOf_length]; omega), List.getElem?_eq_none (by rw [wideOf_length]; omega)]
theorem wide_cut (n k : Nat) (F : Int → Int) {a w : Nat} (h : a + w ≤ n + 2 * k) : ((wideOf n k F).drop a).take w = (List.range w).map fun (q : Nat) => F ((a : Int) - (k : Int) + (q : Int)) := by
  unfold wideOf
  rw [range_cut _ h]
  refine List.map_congr_left fun q _ => ?_
  congr 1
  omega
theorem stiK_own {r' : MRho} {i : Nat} {f g : T → Rs T D} {l : List D} {d : D} {j : Nat} (h : r'[i]? = some (.own l)) (hf : f s = .ok d s) (hg : g s = .ok (.int (j : Int)) s) (hj : j < l.length) : stiK r' i f g s = .ok (.next (r'.set i (.own (l.set j d)))) s := by
  unfold stiK
  rw [h]
  simp only [hf, Rs.bind_ok, hg]
  have : ixN l.length (j : Int) = some j := by
    unfold ixN
    rw [if_pos (by omega), if_pos (by omega), Int.toNat_natCast]
  rw [this]
theorem ix_set (xs : List Int) (j : Nat) (v : Int) : (ix xs).set j (.int v) = ix (xs.set j v) := by
  unfold ix
  rw [List.map_set]
def recD {T : Type} : List D → T → Rs T D := onRK small fun row k => .list (ix (recM row k))
theorem recD_eq {row : List Int} {k : Nat} (hp : small row) (k1 : 1 ≤ k) (k3 : k ≤ 3) : recD [.list (ix row), .int (k : Int)] s = .ok (.list (ix (recM row k))) s := onRK_eq hp k1 k3
theorem ev_callF (b : Bool) (f : Nat) (es : List Xp) : evF TB r (.callF f es) s = if es.length = TB.ar f then (evs TB false r es s).bind fun ds s1 => TB.FF f ds s1 else .stuck := by simp only [evF]
def code_recursive : List Cm := [.set 2 (.callF 5 [.var 0, .var 1]), .loop (.one 3) .rng [.var 1, .bin .add (.var 1) (.blt .len [.var 0])] [.sti 2 (.var 3) (.idx (.blt .sorted [.slc (.var 2) (.bin .sub (.var 3) (.var 1)) (.bin .add (.bin .add (.var 3) (.var 1)) (.lit (.int 1)))]) (.var 1))], .ret (.slc (.var 2) (.var 1) (.bin .add (.var 1) (.blt .len [.var 0])))]
theorem run_recursive (ha : TB.ar 5 = 2) (h5 : TB.FF 5 = longerF) : ∀ (ds : List D) (s : T), ds.length = 2 → recD ds s ≠ .stuck → runD TB 4 code_recursive ds s = recD ds s := by
  intro ds s hlen h
  obtain ⟨row, k, rfl, hp, k1, k3, e⟩ := onRK_inv h
  rw [show recD [.list (ix row), .int (k : Int)] s = _ from e, runD_eq]
  have h0 := hp.1
  have h100 := hp.2
  simp only [code_recursive, ha, h5, longerF_eq hp k1 k3, wide_longer h0, src_rng2' (i := (k : Int)) (j := (k : Int) + (row.length : Int)) (by omega) (by omega) (by omega) (by omega), exSs_cons, exSs_nil, seqK_next, seqK_ret, exS_set, exS_ret, exS_exp, exS_skip, exS_never, exS_iff, ifK_b, testM_eq, testK_b, exS_app, exS_par, exS_tset, tsetK_t, exS_loop, runK_next, runK_ret, evO, evF, freshX, esc, escs, frz, ev_var, ev_lit, ev_bin, ev_neg, negK_i, ev_not, notK_b, ev_and, andK_b, ev_or, orK_b, ev_ite, iteK_b, ev_chn, chnK_le, ev_list, ev_tup, ev_idx, ev_slc, ev_rev, revK_l, ev_blt, ev_isi, isiK_s, ev_call, ev_comp, ev_compC, evs_cons, evs_nil, getV, isiD, List.length_cons, List.length_nil, List.map_cons, List.map_nil, List.replicate, List.append_eq, List.nil_append, List.cons_append, List.append_nil, List.getElem?_cons_zero, List.getElem?_cons_succ, Rs.of_some, Rs.bind_ok, Rs.bind_stuck, if_true, Bool.false_eq_true, if_false, List.set_cons_zero, List.set_cons_succ, Nat.zero_add, Nat.reduceAdd, Nat.reduceSub, add_ii, sub_ii, mul_2i, lt_ii, le_ii, gt_ii, ge_ii, len_ix, sorted_ix, sum_ix, eq_ix, ne_ix, turnE_one, turnC_one, turnC_b, turnL_one, reduceIte, Bool.not_true, Bool.not_false, Bool.true_eq_false, is_tt, isnot_tt, loopK_s, len_lit0]
  rw [show ((k : Int) + (row.length : Int) - (k : Int)).toNat = row.length by omega]
  have key := forM_I (f := turnL TB (.one 3) [.sti 2 (.var 3) (.idx (.blt .sorted [.slc (.var 2) (.bin .sub (.var 3) (.var 1)) (.bin .add (.bin .add (.var 3) (.var 1)) (.lit (.int 1)))]) (.var 1))]) (lo := (k : Int)) (n := row.length)
    (fun j r' s' => ∃ a1, r' = [.val (.list (ix row)), .val (.int (k : Int)), .own (ix (wideOf row.length k (recG (near row) k j))), a1] ∧ s' = s) (fun j hj r' s' ⟨a1, er, es⟩ => ?_) (r := [.val (.list (ix row)), .val (.int (k : Int)), .own (ix (wideOf row.length k (near row))), .un]) (s := s) ⟨_, rfl, rfl⟩
  · obtain ⟨r', s', e1, a1, e2, e3⟩ := key
    subst e2 e3
    rw [e1]
    simp only [exSs_cons, exSs_nil, seqK_next, seqK_ret, exS_set, exS_ret, exS_exp, exS_skip, exS_never, exS_iff, ifK_b, testM_eq, testK_b, exS_app, exS_par, exS_tset, tsetK_t, exS_loop, runK_next, runK_ret, evO, evF, freshX, esc, escs, frz, ev_var, ev_lit, ev_bin, ev_neg, negK_i, ev_not, notK_b, ev_and, andK_b, ev_or, orK_b, ev_ite, iteK_b, ev_chn, chnK_le, ev_list, ev_tup, ev_idx, ev_slc, ev_rev, revK_l, ev_blt, ev_isi, isiK_s, ev_call, ev_comp, ev_compC, evs_cons, evs_nil, getV, isiD, List.length_cons, List.length_nil, List.map_cons, List.map_nil, List.replicate, List.append_eq, List.nil_append, List.cons_append, List.append_nil, List.getElem?_cons_zero, List.getElem?_cons_succ, Rs.of_some, Rs.bind_ok, Rs.bind_stuck, if_true, Bool.false_eq_true, if_false, List.set_cons_zero, List.set_cons_succ, Nat.zero_add, Nat.reduceAdd, Nat.reduceSub, add_ii, sub_ii, mul_2i, lt_ii, le_ii, gt_ii, ge_ii, len_ix, sorted_ix, sum_ix, eq_ix, ne_ix, turnE_one, turnC_one, turnC_b, turnL_one, reduceIte, Bool.not_true, Bool.not_false, Bool.true_eq_false, is_tt, isnot_tt, loopK_s, len_lit0]
    rw [slc_ix (a := k) (b := k + row.length) (h := .int ((k : Int) + (row.length : Int))) (by simp only [bndX]) (by simp only [exSs_cons, exSs_nil, seqK_next, seqK_ret, exS_set, exS_ret, exS_exp, exS_skip, exS_never, exS_iff, ifK_b, testM_eq, testK_b, exS_app, exS_par, exS_tset, tsetK_t, exS_loop, runK_next, runK_ret, evO, evF, freshX, esc, escs, frz, ev_var, ev_lit, ev_bin, ev_neg, negK_i, ev_not, notK_b, ev_and, andK_b, ev_or, orK_b, ev_ite, iteK_b, ev_chn, chnK_le, ev_list, ev_tup, ev_idx, ev_slc, ev_rev, revK_l, ev_blt, ev_isi, isiK_s, ev_call, ev_comp, ev_compC, evs_cons, evs_nil, getV, isiD, List.length_cons, List.length_nil, List.map_cons, List.map_nil, List.replicate, List.append_eq, List.nil_append, List.cons_append, List.append_nil, List.getElem?_cons_zero, List.getElem?_cons_succ, Rs.of_some, Rs.bind_ok, Rs.bind_stuck, if_true, Bool.false_eq_true, if_false, List.set_cons_zero, List.set_cons_succ, Nat.zero_add, Nat.reduceAdd, Nat.reduceSub, add_ii, sub_ii, mul_2i, lt_ii, le_ii, gt_ii, ge_ii, len_ix, sorted_ix, sum_ix, eq_ix, ne_ix, turnE_one, turnC_one, turnC_b, turnL_one, reduceIte, Bool.not_true, Bool.not_false, Bool.true_eq_false, is_tt, isnot_tt, loopK_s, len_lit0]) (by simp only [bndX]; congr 2) (by omega) (by rw [wideOf_length]; omega)]
    rw [Nat.add_sub_cancel_left, wide_cut _ _ _ (by omega)]
    simp only [exSs_cons, exSs_nil, seqK_next, seqK_ret, exS_set, exS_ret, exS_exp, exS_skip, exS_never, exS_iff, ifK_b, testM_eq, testK_b, exS_app, exS_par, exS_tset, tsetK_t, exS_loop, runK_next, runK_ret, evO, evF, freshX, esc, escs, frz, ev_var, ev_lit, ev_bin, ev_neg, negK_i, ev_not, notK_b, ev_and, andK_b, ev_or, orK_b, ev_ite, iteK_b, ev_chn, chnK_le, ev_list, ev_tup, ev_idx, ev_slc, ev_rev, revK_l, ev_blt, ev_isi, isiK_s, ev_call, ev_comp, ev_compC, evs_cons, evs_nil, getV, isiD, List.length_cons, List.length_nil, List.map_cons, List.map_nil, List.replicate, List.append_eq, List.nil_append, List.cons_append, List.append_nil, List.getElem?_cons_zero, List.getElem?_cons_succ, Rs.of_some, Rs.bind_ok, Rs.bind_stuck, if_true, Bool.false_eq_true, if_false, List.set_cons_zero, List.set_cons_succ, Nat.zero_add, Nat.reduceAdd, Nat.reduceSub, add_ii, sub_ii, mul_2i, lt_ii, le_ii, gt_ii, ge_ii, len_ix, sorted_ix, sum_ix, eq_ix, ne_ix, turnE_one, turnC_one, turnC_b, turnL_one, reduceIte, Bool.not_true, Bool.not_false, Bool.true_eq_false, is_tt, isnot_tt, loopK_s, len_lit0]
    congr 3
    unfold recM rowOf
    refine List.map_congr_left fun q _ => ?_
    congr 1
    omega
  · subst er es
    rw [turnL_one]
    simp only [exS_sti, exSs_cons, exSs_nil, seqK_next, seqK_ret, exS_set, exS_ret, exS_exp, exS_skip, exS_never, exS_iff, ifK_b, testM_eq, testK_b, exS_app, exS_par, exS_tset, tsetK_t, exS_loop, runK_next, runK_ret, evO, evF, freshX, esc, escs, frz, ev_var, ev_lit, ev_bin, ev_neg, negK_i, ev_not, notK_b, ev_and, andK_b, ev_or, orK_b, ev_ite, iteK_b, ev_chn, chnK_le, ev_list, ev_tup, ev_idx, ev_slc, ev_rev, revK_l, ev_blt, ev_isi, isiK_s, ev_call, ev_comp, ev_compC, evs_cons, evs_nil, getV, isiD, List.length_cons, List.length_nil, List.map_cons, List.map_nil, List.replicate, List.append_eq, List.nil_append, List.cons_append, List.append_nil, List.getElem?_cons_zero, List.getElem?_cons_succ, Rs.of_some, Rs.bind_ok, Rs.bind_stuck, if_true, Bool.false_eq_true, if_false, List.set_cons_zero, List.set_cons_succ, Nat.zero_add, Nat.reduceAdd, Nat.reduceSub, add_ii, sub_ii, mul_2i, lt_ii, le_ii, gt_ii, ge_ii, len_ix, sorted_ix, sum_ix, eq_ix, ne_ix, turnE_one, turnC_one, turnC_b, turnL_one, reduceIte, Bool.not_true, Bool.not_false, Bool.true_eq_false, is_tt, isnot_tt, loopK_s, len_lit0]
    rw [stiK_own (j := k + j) (d := .int (rkF (recG (near row) k j) k k (j : Int))) rfl ?_ (by congr 2) (by rw [ix_length, wideOf_length]; omega)]
    · simp only [exSs_cons, exSs_nil, seqK_next, seqK_ret, exS_set, exS_ret, exS_exp, exS_skip, exS_never, exS_iff, ifK_b, testM_eq, testK_b, exS_app, exS_par, exS_tset, tsetK_t, exS_loop, runK_next, runK_ret, evO, evF, freshX, esc, escs, frz, ev_var, ev_lit, ev_bin, ev_neg, negK_i, ev_not, notK_b, ev_and, andK_b, ev_or, orK_b, ev_ite, iteK_b, ev_chn, chnK_le, ev_list, ev_tup, ev_idx, ev_slc, ev_rev, revK_l, ev_blt, ev_isi, isiK_s, ev_call, ev_comp, ev_compC, evs_cons, evs_nil, getV, isiD, List.length_cons, List.length_nil, List.map_cons, List.map_nil, List.replicate, List.append_eq, List.nil_append, List.cons_append, List.append_nil, List.getElem?_cons_zero, List.getElem?_cons_succ, Rs.of_some, Rs.bind_ok, Rs.bind_stuck, if_true, Bool.false_eq_true, if_false, List.set_cons_zero, List.set_cons_succ, Nat.zero_add, Nat.reduceAdd, Nat.reduceSub, add_ii, sub_ii, mul_2i, lt_ii, le_ii, gt_ii, ge_ii, len_ix, sorted_ix, sum_ix, eq_ix, ne_ix, turnE_one, turnC_one, turnC_b, turnL_one, reduceIte, Bool.not_true, Bool.not_false, Bool.true_eq_false, is_tt, isnot_tt, loopK_s, len_lit0]
      refine ⟨_, _, rfl, .val (.int ((k : Int) + (j : Int))), ?_, rfl⟩
      rw [ix_set, wide_set]
      rfl
    · rw [slc_ix (a := j) (b := j + (2 * k + 1)) (h := .int ((k : Int) + (j : Int) + (k : Int) + 1)) (by simp only [bndX]; congr 2; omega) rfl (by simp only [bndX]; congr 2; omega) (by omega) (by rw [wideOf_length]; omega)]
      rw [Nat.add_sub_cancel_left, wide_cut _ _ _ (by omega)]
      simp only [exSs_cons, exSs_nil, seqK_next, seqK_ret, exS_set, exS_ret, exS_exp, exS_skip, exS_never, exS_iff, ifK_b, testM_eq, testK_b, exS_app, exS_par, exS_tset, tsetK_t, exS_loop, runK_next, runK_ret, evO, evF, freshX, esc, escs, frz, ev_var, ev_lit, ev_bin, ev_neg, negK_i, ev_not, notK_b, ev_and, andK_b, ev_or, orK_b, ev_ite, iteK_b, ev_chn, chnK_le, ev_list, ev_tup, ev_idx, ev_slc, ev_rev, revK_l, ev_blt, ev_isi, isiK_s, ev_call, ev_comp, ev_compC, evs_cons, evs_nil, getV, isiD, List.length_cons, List.length_nil, List.map_cons, List.map_nil, List.replicate, List.append_eq, List.nil_append, List.cons_append, List.append_nil, List.getElem?_cons_zero, List.getElem?_cons_succ, Rs.of_some, Rs.bind_ok, Rs.bind_stuck, if_true, Bool.false_eq_true, if_false, List.set_cons_zero, List.set_cons_succ, Nat.zero_add, Nat.reduceAdd, Nat.reduceSub, add_ii, sub_ii, mul_2i, lt_ii, le_ii, gt_ii, ge_ii, len_ix, sorted_ix, sum_ix, eq_ix, ne_ix, turnE_one, turnC_one, turnC_b, turnL_one, reduceIte, Bool.not_true, Bool.not_false, Bool.true_eq_false, is_tt, isnot_tt, loopK_s, len_lit0]
      rw [idx_ix (by rw [isort_length]; simp; omega)]
      rfl
def recRowD {T : Type} : List D → T → Rs T D := onRK isRow fun row k => .list (ix (recM row k))
def code_recursive_row : List Cm := [.exp (.call 4 [.var 0, .var 1]), .ret (.call 9 [.var 0, .var 1])]
theorem run_recursive_row (h4a : TB.ar 4 = 2) (h4 : TB.F 4 = checkBothD) (h6a : TB.ar 9 = 2) (h6 : TB.F 9 = recD) : ∀ (ds : List D) (s : T), ds.length = 2 → recRowD ds s ≠ .stuck → runD TB 2 code_recursive_row ds s = recRowD ds s := by
  intro ds s hlen h
  obtain ⟨row, k, rfl, hp, k1, k3, e⟩ := onRK_inv h
  rw [show recRowD [.list (ix row), .int (k : Int)] s = _ from e, runD_eq]
  simp only [code_recursive_row, h4a, h4, h6a, h6, checkBothD_eq hp k1 k3, recD_eq hp.small k1 k3, exSs_cons, exSs_nil, seqK_next, seqK_ret, exS_set, exS_ret, exS_exp, exS_skip, exS_never, exS_iff, ifK_b, testM_eq, testK_b, exS_app, exS_par, exS_tset, tsetK_t, exS_loop, runK_next, runK_ret, evO, evF, freshX, esc, escs, frz, ev_var, ev_lit, ev_bin, ev_neg, negK_i, ev_not, notK_b, ev_and, andK_b, ev_or, orK_b, ev_ite, iteK_b, ev_chn, chnK_le, ev_list, ev_tup, ev_idx, ev_slc, ev_rev, revK_l, ev_blt, ev_isi, isiK_s, ev_call, ev_comp, ev_compC, evs_cons, evs_nil, getV, isiD, List.length_cons, List.length_nil, List.map_cons, List.map_nil, List.replicate, List.append_eq, List.nil_append, List.cons_append, List.append_nil, List.getElem?_cons_zero, List.getElem?_cons_succ, Rs.of_some, Rs.bind_ok, Rs.bind_stuck, if_true, Bool.false_eq_true, if_false, List.set_cons_zero, List.set_cons_succ, Nat.zero_add, Nat.reduceAdd, Nat.reduceSub, add_ii, sub_ii, mul_2i, lt_ii, le_ii, gt_ii, ge_ii, len_ix, sorted_ix, sum_ix, eq_ix, ne_ix, turnE_one, turnC_one, turnC_b, turnL_one, reduceIte, Bool.not_true, Bool.not_false, Bool.true_eq_false, is_tt, isnot_tt, loopK_s, len_lit0]
def lowBD {T : Type} : List D → T → Rs T D := onRK isRow fun row k => .list (ix (upperM (lowerM row k) k))
def highBD {T : Type} : List D → T → Rs T D := onRK isRow fun row k => .list (ix (lowerM (upperM row k) k))
def code_low_bound : List Cm := [.exp (.call 4 [.var 0, .var 1]), .ret (.call 8 [.call 7 [.var 0, .var 1], .var 1])]
theorem run_low_bound (h4a : TB.ar 4 = 2) (h4 : TB.F 4 = checkBothD) (h7a : TB.ar 7 = 2) (h7 : TB.F 7 = lowerD) (h8a : TB.ar 8 = 2) (h8 : TB.F 8 = upperD) : ∀ (ds : List D) (s : T), ds.length = 2 → lowBD ds s ≠ .stuck → runD TB 2 code_low_bound ds s = lowBD ds s := by
  intro ds s hlen h
  obtain ⟨row, k, rfl, hp, k1, k3, e⟩ := onRK_inv h
  rw [show lowBD [.list (ix row), .int (k : Int)] s = _ from e, runD_eq]
  simp only [code_low_bound, h4a, h4, h7a, h7, h8a, h8, checkBothD_eq hp k1 k3, lowerD_eq hp.small k1 k3, upperD_eq (isRow_lower hp k).small k1 k3, exSs_cons, exSs_nil, seqK_next, seqK_ret, exS_set, exS_ret, exS_exp, exS_skip, exS_never, exS_iff, ifK_b, testM_eq, testK_b, exS_app, exS_par, exS_tset, tsetK_t, exS_loop, runK_next, runK_ret, evO, evF, freshX, esc, escs, frz, ev_var, ev_lit, ev_bin, ev_neg, negK_i, ev_not, notK_b, ev_and, andK_b, ev_or, orK_b, ev_ite, iteK_b, ev_chn, chnK_le, ev_list, ev_tup, ev_idx, ev_slc, ev_rev, revK_l, ev_blt, ev_isi, isiK_s, ev_call, ev_comp, ev_compC, evs_cons, evs_nil, getV, isiD, List.length_cons, List.length_nil, List.map_cons, List.map_nil, List.replicate, List.append_eq, List.nil_append, List.cons_append, List.append_nil, List.getElem?_cons_zero, List.getElem?_cons_succ, Rs.of_some, Rs.bind_ok, Rs.bind_stuck, if_true, Bool.false_eq_true, if_false, List.set_cons_zero, List.set_cons_succ, Nat.zero_add, Nat.reduceAdd, Nat.reduceSub, add_ii, sub_ii, mul_2i, lt_ii, le_ii, gt_ii, ge_ii, len_ix, sorted_ix, sum_ix, eq_ix, ne_ix, turnE_one, turnC_one, turnC_b, turnL_one, reduceIte, Bool.not_true, Bool.not_false, Bool.true_eq_false, is_tt, isnot_tt, loopK_s, len_lit0]
def code_high_bound : List Cm := [.exp (.call 4 [.var 0, .var 1]), .ret (.call 7 [.call 8 [.var 0, .var 1], .var 1])]
theorem run_high_bound (h4a : TB.ar 4 = 2) (h4 : TB.F 4 = checkBothD) (h7a : TB.ar 7 = 2) (h7 : TB.F 7 = lowerD) (h8a : TB.ar 8 = 2) (h8 : TB.F 8 = upperD) : ∀ (ds : List D) (s : T), ds.length = 2 → highBD ds s ≠ .stuck → runD TB 2 code_high_bound ds s = highBD ds s := by
  intro ds s hlen h
  obtain ⟨row, k, rfl, hp, k1, k3, e⟩ := onRK_inv h
  rw [show highBD [.list (ix row), .int (k : Int)] s = _ from e, runD_eq]
  simp only [code_high_bound, h4a, h4, h7a, h7, h8a, h8, checkBothD_eq hp k1 k3, upperD_eq hp.small k1 k3, lowerD_eq (isRow_upper hp k).small k1 k3, exSs_cons, exSs_nil, seqK_next, seqK_ret, exS_set, exS_ret, exS_exp, exS_skip, exS_never, exS_iff, ifK_b, testM_eq, testK_b, exS_app, exS_par, exS_tset, tsetK_t, exS_loop, runK_next, runK_ret, evO, evF, freshX, esc, escs, frz, ev_var, ev_lit, ev_bin, ev_neg, negK_i, ev_not, notK_b, ev_and, andK_b, ev_or, orK_b, ev_ite, iteK_b, ev_chn, chnK_le, ev_list, ev_tup, ev_idx, ev_slc, ev_rev, revK_l, ev_blt, ev_isi, isiK_s, ev_call, ev_comp, ev_compC, evs_cons, evs_nil, getV, isiD, List.length_cons, List.length_nil, List.map_cons, List.map_nil, List.replicate, List.append_eq, List.nil_append, List.cons_append, List.append_nil, List.getElem?_cons_zero, List.getElem?_cons_succ, Rs.of_some, Rs.bind_ok, Rs.bind_stuck, if_true, Bool.false_eq_true, if_false, List.set_cons_zero, List.set_cons_succ, Nat.zero_add, Nat.reduceAdd, Nat.reduceSub, add_ii, sub_ii, mul_2i, lt_ii, le_ii, gt_ii, ge_ii, len_ix, sorted_ix, sum_ix, eq_ix, ne_ix, turnE_one, turnC_one, turnC_b, turnL_one, reduceIte, Bool.not_true, Bool.not_false, Bool.true_eq_false, is_tt, isnot_tt, loopK_s, len_lit0]
end
end MR

namespace MR
open PySem L2
section
variable {T : Type} {TB : Tab T} {r : MRho} {s : T}
/-- a loop that hands back False at the first bad place -/
theorem forM_all {f : D → MRho → T → Rs T Fl} {lo : Int} {n : Nat} (p : Nat → Bool) (I : MRho → Prop) (h : ∀ j, j < n → ∀ r, I r → if p j = true then ∃ r', f (.int (lo + (j : Int))) r s = .ok (.next r') s ∧ I r' else f (.int (lo + (j : Int))) r s = .ok (.ret (.bool false)) s) {r : MRho} (h0 : I r) :
    if (List.range n).all p = true then ∃ r', forM f (upto lo n) r s = .ok (.next r') s ∧ I r' else forM f (upto lo n) r s = .ok (.ret (.bool false)) s := by
  have key : ∀ (m a : Nat) (r : MRho), a + m = n → I r → if (List.range' a m).all p = true then ∃ r', forM f ((List.range' a m).map fun (i : Nat) => PyData.int (lo + (i : Int))) r s = .ok (.next r') s ∧ I r' else forM f ((List.range' a m).map fun (i : Nat) => PyData.int (lo + (i : Int))) r s = .ok (.ret (.bool false)) s := by
    intro m
    induction m with
    | zero => intro a r e hi; exact ⟨r, rfl, hi⟩
    | succ m ih =>
      intro a r e hi
      have q := h a (by omega) r hi
      rw [List.range'_succ, List.map_cons, List.all_cons]
      simp only [forM]
      cases hp : p a with
      | false =>
        rw [hp, if_neg Bool.false_ne_true] at q
        rw [Bool.false_and, if_neg Bool.false_ne_true, q]
        rfl
      | true =>
        rw [hp, if_pos rfl] at q
        obtain ⟨r1, e1, i1⟩ := q
        rw [Bool.true_and, e1]
        simp only [Rs.bind_ok]
        exact ih (a + 1) r1 (by omega) i1
  have := key n 0 r (by omega) h0
  rw [upto_map, List.range_eq_range']
  exact this
/-- a window that rises or falls -/
def riseB (w : List Int) : Bool := decide (w = isort w) || decide (w.reverse = isort w)
def calmB (row : List Int) (k : Nat) : Bool := (List.range (row.length + k)).all fun (b : Nat) => riseB (win row ((b : Int) - (k : Int)) (k + 2))
def calmD {T : Type} : List D → T → Rs T D := onRK small fun row k => .bool (calmB row k)
def code_law_calm : List Cm := [.loop (.one 2) .rng [.bin .sub (.lit (.int 0)) (.var 1), .blt .len [.var 0]] [.set 3 (.comp (.call 105 [.var 0, .var 4]) (.one 4) .rng [.var 2, .bin .add (.bin .add (.var 2) (.var 1)) (.lit (.int 2))] none), .iff (.and (.bin .ne (.var 3) (.blt .sorted [.var 3])) (.bin .ne (.rev (.var 3)) (.blt .sorted [.var 3]))) [.ret (.lit (.bool false))] []], .ret (.lit (.bool true))]
theorem run_calm (ha : TB.ar 105 = 2) (hf : TB.F 105 = nearD) : ∀ (ds : List D) (s : T), ds.length = 2 → calmD ds s ≠ .stuck → runD TB 5 code_law_calm ds s = calmD ds s := by
  intro ds s hlen h
  obtain ⟨row, k, rfl, hp, k1, k3, e⟩ := onRK_inv h
  rw [show calmD [.list (ix row), .int (k : Int)] s = _ from e, runD_eq]
  have h100 := hp.2
  have hn : ∀ (s : T) i, nearD [.list (ix row), .int i] s = .ok (.int (near row i)) s := fun s i => nearD_eq hp i
  simp only [code_law_calm, src_rng2' (i := 0 - (k : Int)) (j := (row.length : Int)) (by omega) (by omega) (by omega) (by omega), exSs_cons, exSs_nil, seqK_next, seqK_ret, exS_set, exS_ret, exS_exp, exS_skip, exS_never, exS_iff, ifK_b, testM_eq, testK_b, exS_app, exS_par, exS_tset, tsetK_t, exS_loop, runK_next, runK_ret, evO, evF, freshX, esc, escs, frz, ev_var, ev_lit, ev_bin, ev_neg, negK_i, ev_not, notK_b, ev_and, andK_b, ev_or, orK_b, ev_ite, iteK_b, ev_chn, chnK_le, ev_list, ev_tup, ev_idx, ev_slc, ev_rev, revK_l, ev_blt, ev_isi, isiK_s, ev_call, ev_comp, ev_compC, evs_cons, evs_nil, getV, isiD, List.length_cons, List.length_nil, List.map_cons, List.map_nil, List.replicate, List.append_eq, List.nil_append, List.cons_append, List.append_nil, List.getElem?_cons_zero, List.getElem?_cons_succ, Rs.of_some, Rs.bind_ok, Rs.bind_stuck, if_true, Bool.false_eq_true, if_false, List.set_cons_zero, List.set_cons_succ, Nat.zero_add, Nat.reduceAdd, Nat.reduceSub, add_ii, sub_ii, mul_2i, lt_ii, le_ii, gt_ii, ge_ii, len_ix, sorted_ix, sum_ix, eq_ix, ne_ix, turnE_one, turnC_one, turnC_b, turnL_one, reduceIte, Bool.not_true, Bool.not_false, Bool.true_eq_false, is_tt, isnot_tt, loopK_s, len_lit0]
  rw [show ((row.length : Int) - (0 - (k : Int))).toNat = row.length + k by omega]
  have key := forM_all (s := s) (f := turnL TB (.one 2) [.set 3 (.comp (.call 105 [.var 0, .var 4]) (.one 4) .rng [.var 2, .bin .add (.bin .add (.var 2) (.var 1)) (.lit (.int 2))] none), .iff (.and (.bin .ne (.var 3) (.blt .sorted [.var 3])) (.bin .ne (.rev (.var 3)) (.blt .sorted [.var 3]))) [.ret (.lit (.bool false))] []]) (lo := 0 - (k : Int)) (n := row.length + k)
    (fun (b : Nat) => riseB (win row ((b : Int) - (k : Int)) (k + 2))) (fun r => ∃ a1 a2, r = [.val (.list (ix row)), .val (.int (k : Int)), a1, a2, .un]) (fun j hj r' ⟨a1, a2, er⟩ => ?_) (r := [.val (.list (ix row)), .val (.int (k : Int)), .un, .un, .un]) ⟨_, _, rfl⟩
  · show _ = Rs.ok (PyData.bool (calmB row k)) s
    unfold calmB
    cases q : (List.range (row.length + k)).all fun (b : Nat) => riseB (win row ((b : Int) - (k : Int)) (k + 2)) with
    | true =>
      rw [if_pos q] at key
      obtain ⟨r', e1, a1, a2, e2⟩ := key
      rw [e1]
      simp only [exSs_cons, exSs_nil, seqK_next, seqK_ret, exS_set, exS_ret, exS_exp, exS_skip, exS_never, exS_iff, ifK_b, testM_eq, testK_b, exS_app, exS_par, exS_tset, tsetK_t, exS_loop, runK_next, runK_ret, evO, evF, freshX, esc, escs, frz, ev_var, ev_lit, ev_bin, ev_neg, negK_i, ev_not, notK_b, ev_and, andK_b, ev_or, orK_b, ev_ite, iteK_b, ev_chn, chnK_le, ev_list, ev_tup, ev_idx, ev_slc, ev_rev, revK_l, ev_blt, ev_isi, isiK_s, ev_call, ev_comp, ev_compC, evs_cons, evs_nil, getV, isiD, List.length_cons, List.length_nil, List.map_cons, List.map_nil, List.replicate, List.append_eq, List.nil_append, List.cons_append, List.append_nil, List.getElem?_cons_zero, List.getElem?_cons_succ, Rs.of_some, Rs.bind_ok, Rs.bind_stuck, if_true, Bool.false_eq_true, if_false, List.set_cons_zero, List.set_cons_succ, Nat.zero_add, Nat.reduceAdd, Nat.reduceSub, add_ii, sub_ii, mul_2i, lt_ii, le_ii, gt_ii, ge_ii, len_ix, sorted_ix, sum_ix, eq_ix, ne_ix, turnE_one, turnC_one, turnC_b, turnL_one, reduceIte, Bool.not_true, Bool.not_false, Bool.true_eq_false, is_tt, isnot_tt, loopK_s, len_lit0]
    | false =>
      rw [if_neg (by rw [q]; exact Bool.false_ne_true)] at key
      rw [key]
      simp only [exSs_cons, exSs_nil, seqK_next, seqK_ret, exS_set, exS_ret, exS_exp, exS_skip, exS_never, exS_iff, ifK_b, testM_eq, testK_b, exS_app, exS_par, exS_tset, tsetK_t, exS_loop, runK_next, runK_ret, evO, evF, freshX, esc, escs, frz, ev_var, ev_lit, ev_bin, ev_neg, negK_i, ev_not, notK_b, ev_and, andK_b, ev_or, orK_b, ev_ite, iteK_b, ev_chn, chnK_le, ev_list, ev_tup, ev_idx, ev_slc, ev_rev, revK_l, ev_blt, ev_isi, isiK_s, ev_call, ev_comp, ev_compC, evs_cons, evs_nil, getV, isiD, List.length_cons, List.length_nil, List.map_cons, List.map_nil, List.replicate, List.append_eq, List.nil_append, List.cons_append, List.append_nil, List.getElem?_cons_zero, List.getElem?_cons_succ, Rs.of_some, Rs.bind_ok, Rs.bind_stuck, if_true, Bool.false_eq_true, if_false, List.set_cons_zero, List.set_cons_succ, Nat.zero_add, Nat.reduceAdd, Nat.reduceSub, add_ii, sub_ii, mul_2i, lt_ii, le_ii, gt_ii, ge_ii, len_ix, sorted_ix, sum_ix, eq_ix, ne_ix, turnE_one, turnC_one, turnC_b, turnL_one, reduceIte, Bool.not_true, Bool.not_false, Bool.true_eq_false, is_tt, isnot_tt, loopK_s, len_lit0]
  · subst er
    rw [turnL_one]
    simp only [exSs_cons, exSs_nil, seqK_next, seqK_ret, exS_set, exS_ret, exS_exp, exS_skip, exS_never, exS_iff, ifK_b, testM_eq, testK_b, exS_app, exS_par, exS_tset, tsetK_t, exS_loop, runK_next, runK_ret, evO, evF, freshX, esc, escs, frz, ev_var, ev_lit, ev_bin, ev_neg, negK_i, ev_not, notK_b, ev_and, andK_b, ev_or, orK_b, ev_ite, iteK_b, ev_chn, chnK_le, ev_list, ev_tup, ev_idx, ev_slc, ev_rev, revK_l, ev_blt, ev_isi, isiK_s, ev_call, ev_comp, ev_compC, evs_cons, evs_nil, getV, isiD, List.length_cons, List.length_nil, List.map_cons, List.map_nil, List.replicate, List.append_eq, List.nil_append, List.cons_append, List.append_nil, List.getElem?_cons_zero, List.getElem?_cons_succ, Rs.of_some, Rs.bind_ok, Rs.bind_stuck, if_true, Bool.false_eq_true, if_false, List.set_cons_zero, List.set_cons_succ, Nat.zero_add, Nat.reduceAdd, Nat.reduceSub, add_ii, sub_ii, mul_2i, lt_ii, le_ii, gt_ii, ge_ii, len_ix, sorted_ix, sum_ix, eq_ix, ne_ix, turnE_one, turnC_one, turnC_b, turnL_one, reduceIte, Bool.not_true, Bool.not_false, Bool.true_eq_false, is_tt, isnot_tt, loopK_s, len_lit0]
    rw [run_win (row := row) (i := 0 - (k : Int) + (j : Int)) (w := k + 2) (by omega) (by omega) (by omega) (by simp only [show 0 - (k : Int) + (j : Int) + (k : Int) + 2 = 0 - (k : Int) + (j : Int) + ((k + 2 : Nat) : Int) by omega, exSs_cons, exSs_nil, seqK_next, seqK_ret, exS_set, exS_ret, exS_exp, exS_skip, exS_never, exS_iff, ifK_b, testM_eq, testK_b, exS_app, exS_par, exS_tset, tsetK_t, exS_loop, runK_next, runK_ret, evO, evF, freshX, esc, escs, frz, ev_var, ev_lit, ev_bin, ev_neg, negK_i, ev_not, notK_b, ev_and, andK_b, ev_or, orK_b, ev_ite, iteK_b, ev_chn, chnK_le, ev_list, ev_tup, ev_idx, ev_slc, ev_rev, revK_l, ev_blt, ev_isi, isiK_s, ev_call, ev_comp, ev_compC, evs_cons, evs_nil, getV, isiD, List.length_cons, List.length_nil, List.map_cons, List.map_nil, List.replicate, List.append_eq, List.nil_append, List.cons_append, List.append_nil, List.getElem?_cons_zero, List.getElem?_cons_succ, Rs.of_some, Rs.bind_ok, Rs.bind_stuck, if_true, Bool.false_eq_true, if_false, List.set_cons_zero, List.set_cons_succ, Nat.zero_add, Nat.reduceAdd, Nat.reduceSub, add_ii, sub_ii, mul_2i, lt_ii, le_ii, gt_ii, ge_ii, len_ix, sorted_ix, sum_ix, eq_ix, ne_ix, turnE_one, turnC_one, turnC_b, turnL_one, reduceIte, Bool.not_true, Bool.not_false, Bool.true_eq_false, is_tt, isnot_tt, loopK_s, len_lit0]) (fun m hm => by simp only [ha, hf, hn, exSs_cons, exSs_nil, seqK_next, seqK_ret, exS_set, exS_ret, exS_exp, exS_skip, exS_never, exS_iff, ifK_b, testM_eq, testK_b, exS_app, exS_par, exS_tset, tsetK_t, exS_loop, runK_next, runK_ret, evO, evF, freshX, esc, escs, frz, ev_var, ev_lit, ev_bin, ev_neg, negK_i, ev_not, notK_b, ev_and, andK_b, ev_or, orK_b, ev_ite, iteK_b, ev_chn, chnK_le, ev_list, ev_tup, ev_idx, ev_slc, ev_rev, revK_l, ev_blt, ev_isi, isiK_s, ev_call, ev_comp, ev_compC, evs_cons, evs_nil, getV, isiD, List.length_cons, List.length_nil, List.map_cons, List.map_nil, List.replicate, List.append_eq, List.nil_append, List.cons_append, List.append_nil, List.getElem?_cons_zero, List.getElem?_cons_succ, Rs.of_some, Rs.bind_ok, Rs.bind_stuck, if_true, Bool.false_eq_true, if_false, List.set_cons_zero, List.set_cons_succ, Nat.zero_add, Nat.reduceAdd, Nat.reduceSub, add_ii, sub_ii, mul_2i, lt_ii, le_ii, gt_ii, ge_ii, len_ix, sorted_ix, sum_ix, eq_ix, ne_ix, turnE_one, turnC_one, turnC_b, turnL_one, reduceIte, Bool.not_true, Bool.not_false, Bool.true_eq_false, is_tt, isnot_tt, loopK_s, len_lit0])]
    rw [show 0 - (k : Int) + (j : Int) = (j : Int) - (k : Int) by omega]
    simp only [ix_rev, exSs_cons, exSs_nil, seqK_next, seqK_ret, exS_set, exS_ret, exS_exp, exS_skip, exS_never, exS_iff, ifK_b, testM_eq, testK_b, exS_app, exS_par, exS_tset, tsetK_t, exS_loop, runK_next, runK_ret, evO, evF, freshX, esc, escs, frz, ev_var, ev_lit, ev_bin, ev_neg, negK_i, ev_not, notK_b, ev_and, andK_b, ev_or, orK_b, ev_ite, iteK_b, ev_chn, chnK_le, ev_list, ev_tup, ev_idx, ev_slc, ev_rev, revK_l, ev_blt, ev_isi, isiK_s, ev_call, ev_comp, ev_compC, evs_cons, evs_nil, getV, isiD, List.length_cons, List.length_nil, List.map_cons, List.map_nil, List.replicate, List.append_eq, List.nil_append, List.cons_append, List.append_nil, List.getElem?_cons_zero, List.getElem?_cons_succ, Rs.of_some, Rs.bind_ok, Rs.bind_stuck, if_true, Bool.false_eq_true, if_false, List.set_cons_zero, List.set_cons_succ, Nat.zero_add, Nat.reduceAdd, Nat.reduceSub, add_ii, sub_ii, mul_2i, lt_ii, le_ii, gt_ii, ge_ii, len_ix, sorted_ix, sum_ix, eq_ix, ne_ix, turnE_one, turnC_one, turnC_b, turnL_one, reduceIte, Bool.not_true, Bool.not_false, Bool.true_eq_false, is_tt, isnot_tt, loopK_s, len_lit0]
    unfold riseB
    by_cases q1 : win row ((j : Int) - (k : Int)) (k + 2) = isort (win row ((j : Int) - (k : Int)) (k + 2))
    · simp only [decide_eq_true q1, Bool.true_or, exSs_cons, exSs_nil, seqK_next, seqK_ret, exS_set, exS_ret, exS_exp, exS_skip, exS_never, exS_iff, ifK_b, testM_eq, testK_b, exS_app, exS_par, exS_tset, tsetK_t, exS_loop, runK_next, runK_ret, evO, evF, freshX, esc, escs, frz, ev_var, ev_lit, ev_bin, ev_neg, negK_i, ev_not, notK_b, ev_and, andK_b, ev_or, orK_b, ev_ite, iteK_b, ev_chn, chnK_le, ev_list, ev_tup, ev_idx, ev_slc, ev_rev, revK_l, ev_blt, ev_isi, isiK_s, ev_call, ev_comp, ev_compC, evs_cons, evs_nil, getV, isiD, List.length_cons, List.length_nil, List.map_cons, List.map_nil, List.replicate, List.append_eq, List.nil_append, List.cons_append, List.append_nil, List.getElem?_cons_zero, List.getElem?_cons_succ, Rs.of_some, Rs.bind_ok, Rs.bind_stuck, if_true, Bool.false_eq_true, if_false, List.set_cons_zero, List.set_cons_succ, Nat.zero_add, Nat.reduceAdd, Nat.reduceSub, add_ii, sub_ii, mul_2i, lt_ii, le_ii, gt_ii, ge_ii, len_ix, sorted_ix, sum_ix, eq_ix, ne_ix, turnE_one, turnC_one, turnC_b, turnL_one, reduceIte, Bool.not_true, Bool.not_false, Bool.true_eq_false, is_tt, isnot_tt, loopK_s, len_lit0]
      exact ⟨_, rfl, _, _, rfl⟩
    · by_cases q2 : (win row ((j : Int) - (k : Int)) (k + 2)).reverse = isort (win row ((j : Int) - (k : Int)) (k + 2))
      · simp only [decide_eq_false q1, decide_eq_true q2, Bool.or_true, exSs_cons, exSs_nil, seqK_next, seqK_ret, exS_set, exS_ret, exS_exp, exS_skip, exS_never, exS_iff, ifK_b, testM_eq, testK_b, exS_app, exS_par, exS_tset, tsetK_t, exS_loop, runK_next, runK_ret, evO, evF, freshX, esc, escs, frz, ev_var, ev_lit, ev_bin, ev_neg, negK_i, ev_not, notK_b, ev_and, andK_b, ev_or, orK_b, ev_ite, iteK_b, ev_chn, chnK_le, ev_list, ev_tup, ev_idx, ev_slc, ev_rev, revK_l, ev_blt, ev_isi, isiK_s, ev_call, ev_comp, ev_compC, evs_cons, evs_nil, getV, isiD, List.length_cons, List.length_nil, List.map_cons, List.map_nil, List.replicate, List.append_eq, List.nil_append, List.cons_append, List.append_nil, List.getElem?_cons_zero, List.getElem?_cons_succ, Rs.of_some, Rs.bind_ok, Rs.bind_stuck, if_true, Bool.false_eq_true, if_false, List.set_cons_zero, List.set_cons_succ, Nat.zero_add, Nat.reduceAdd, Nat.reduceSub, add_ii, sub_ii, mul_2i, lt_ii, le_ii, gt_ii, ge_ii, len_ix, sorted_ix, sum_ix, eq_ix, ne_ix, turnE_one, turnC_one, turnC_b, turnL_one, reduceIte, Bool.not_true, Bool.not_false, Bool.true_eq_false, is_tt, isnot_tt, loopK_s, len_lit0]
        exact ⟨_, rfl, _, _, rfl⟩
      · simp only [decide_eq_false q1, decide_eq_false q2, Bool.or_false, exSs_cons, exSs_nil, seqK_next, seqK_ret, exS_set, exS_ret, exS_exp, exS_skip, exS_never, exS_iff, ifK_b, testM_eq, testK_b, exS_app, exS_par, exS_tset, tsetK_t, exS_loop, runK_next, runK_ret, evO, evF, freshX, esc, escs, frz, ev_var, ev_lit, ev_bin, ev_neg, negK_i, ev_not, notK_b, ev_and, andK_b, ev_or, orK_b, ev_ite, iteK_b, ev_chn, chnK_le, ev_list, ev_tup, ev_idx, ev_slc, ev_rev, revK_l, ev_blt, ev_isi, isiK_s, ev_call, ev_comp, ev_compC, evs_cons, evs_nil, getV, isiD, List.length_cons, List.length_nil, List.map_cons, List.map_nil, List.replicate, List.append_eq, List.nil_append, List.cons_append, List.append_nil, List.getElem?_cons_zero, List.getElem?_cons_succ, Rs.of_some, Rs.bind_ok, Rs.bind_stuck, if_true, Bool.false_eq_true, if_false, List.set_cons_zero, List.set_cons_succ, Nat.zero_add, Nat.reduceAdd, Nat.reduceSub, add_ii, sub_ii, mul_2i, lt_ii, le_ii, gt_ii, ge_ii, len_ix, sorted_ix, sum_ix, eq_ix, ne_ix, turnE_one, turnC_one, turnC_b, turnL_one, reduceIte, Bool.not_true, Bool.not_false, Bool.true_eq_false, is_tt, isnot_tt, loopK_s, len_lit0]
end
theorem rise_of {row : List Int} {a : Int} {w : Nat} (h : (∀ p q, a ≤ p → p < q → q < a + (w : Int) → near row p ≤ near row q) ∨ (∀ p q, a ≤ p → p < q → q < a + (w : Int) → near row q ≤ near row p)) : riseB (win row a w) = true := by
  unfold riseB
  rw [Bool.or_eq_true]
  rcases h with h | h
  · left
    refine decide_eq_true (isort_eq (List.Perm.refl _) ?_)
    unfold win
    rw [List.pairwise_map]
    exact List.pairwise_lt_range.imp_of_mem fun {x y} hx hy hxy => by
      simp at hx hy
      exact h _ _ (by omega) (by omega) (by omega)
  · right
    refine decide_eq_true (isort_eq (List.reverse_perm _) ?_)
    rw [List.pairwise_reverse]
    unfold win
    rw [List.pairwise_map]
    exact List.pairwise_lt_range.imp_of_mem fun {x y} hx hy hxy => by
      simp at hx hy
      exact h _ _ (by omega) (by omega) (by omega)
theorem calm_calmB {row : List Int} {k : Nat} (h : Calm k (near row)) : calmB row k = true := by
  unfold calmB
  rw [List.all_eq_true]
  intro b _
  refine rise_of ?_
  rcases calm_mono h ((b : Int) - (k : Int)) with q | q
  · exact .inl fun p r h1 h2 h3 => q p r h1 h2 (by omega)
  · exact .inr fun p r h1 h2 h3 => q p r h1 h2 (by omega)
end MR

namespace MR
/-! ### passes: calm from the ends -/
def CalmAt (k : Nat) (g : Int → Int) (i : Int) : Prop := ∀ v, ∃ c, i - (k : Int) ≤ c ∧ c ≤ i ∧ ∀ j, c ≤ j → j ≤ c + (k : Int) → (v ≤ g j ↔ v ≤ g i)
theorem calm_med_iff {k : Nat} {g : Int → Int} {i c v : Int} (h1 : i - (k : Int) ≤ c) (h2 : c ≤ i) (hc : ∀ j, c ≤ j → j ≤ c + (k : Int) → (v ≤ g j ↔ v ≤ g i)) : v ≤ rkF g k k i ↔ v ≤ g i := by
  rw [le_rkF (by omega)]
  have hj : (c - (i - (k : Int))).toNat + (k + 1 + (k - (c - (i - (k : Int))).toNat)) = 2 * k + 1 := by omega
  rw [← hj, cnt_add, cnt_add]
  have c1 := cnt_le (thr g v) (i - (k : Int)) (c - (i - (k : Int))).toNat
  have c2 := cnt_le (thr g v) (i - (k : Int) + ((c - (i - (k : Int))).toNat : Int) + ((k + 1 : Nat) : Int)) (k - (c - (i - (k : Int))).toNat)
  by_cases q : v ≤ g i
  · rw [cnt_full (n := k + 1) fun j a b => decide_eq_true ((hc j (by omega) (by omega)).mpr q)]
    constructor <;> intro <;> first | assumption | omega
  · rw [cnt_none (n := k + 1) fun j a b => decide_eq_false fun z => q ((hc j (by omega) (by omega)).mp z)]
    constructor
    · intro; omega
    · intro z; exact absurd z q
theorem calmAt_med {k : Nat} {g : Int → Int} {i : Int} (h : CalmAt k g i) : rkF g k k i = g i := by
  refine eq_of_le fun v => ?_
  obtain ⟨c, h1, h2, hc⟩ := h v
  exact calm_med_iff h1 h2 hc
/-- one pass more, one place more -/
theorem calm_next {k : Nat} {g : Int → Int} {p : Int} (h : ∀ i, i ≤ p → CalmAt k g i) : ∀ i, i ≤ p + 1 → CalmAt k (rkF g k k) i := by
  -- a stretch of equal values at a threshold stays
  have stay : ∀ i v c, i - (k : Int) ≤ c → c ≤ i → (∀ j, c ≤ j → j ≤ c + (k : Int) → (v ≤ g j ↔ v ≤ g i)) → ∀ j, c ≤ j → j ≤ c + (k : Int) → (v ≤ rkF g k k j ↔ v ≤ g i) := fun i v c h1 h2 hc j a b =>
    (calm_med_iff (i := j) (c := c) (by omega) a fun l x y => (hc l x y).trans (hc j a b).symm).trans (hc j a b)
  intro i hi v
  by_cases hp : i ≤ p
  · obtain ⟨c, h1, h2, hc⟩ := h i hp v
    exact ⟨c, h1, h2, fun j a b => (stay i v c h1 h2 hc j a b).trans (stay i v c h1 h2 hc i h2 (by omega)).symm⟩
  · have hip : i = p + 1 := by omega
    subst hip
    obtain ⟨c, h1, h2, hc⟩ := h p (Int.le_refl p) v
    by_cases q : ∃ d, p + 1 - (k : Int) ≤ d ∧ d ≤ p + 1 ∧ ∀ j, d ≤ j → j ≤ d + (k : Int) → (v ≤ g j ↔ v ≤ g (p + 1))
    · obtain ⟨d, d1, d2, hd⟩ := q
      exact ⟨d, d1, d2, fun j a b => (stay (p + 1) v d d1 d2 hd j a b).trans (stay (p + 1) v d d1 d2 hd (p + 1) d2 (by omega)).symm⟩
    · have hcp : c = p - (k : Int) := by
        by_cases z : c = p - (k : Int)
        · exact z
        · exact absurd ⟨c, by omega, by omega, fun j a b => (hc j a b).trans (hc (p + 1) (by omega) (by omega)).symm⟩ q
      subst hcp
      have hne : ¬ (v ≤ g (p + 1) ↔ v ≤ g p) := fun z => q ⟨p + 1 - (k : Int), by omega, by omega, fun j a b => by
        by_cases y : j = p + 1
        · rw [y]
        · exact (hc j (by omega) (by omega)).trans z.symm⟩
      -- the median at p + 1 is as at p
      have key : v ≤ rkF g k k (p + 1) ↔ v ≤ g p := by
        rw [le_rkF (by omega), show 2 * k + 1 - k = k + 1 by omega]
        have hs : k + (k + 1) = 2 * k + 1 := by omega
        rw [← hs, cnt_add]
        by_cases z : v ≤ g p
        · have f1 : cnt (thr g v) (p + 1 - (k : Int)) k = k := cnt_full fun j a b => decide_eq_true ((hc j (by omega) (by omega)).mpr z)
          rw [f1]
          constructor
          · intro; exact z
          · intro _
            by_cases y : cnt (thr g v) (p + 1 - (k : Int) + (k : Int)) (k + 1) = 0
            · exfalso
              have all0 : ∀ j, p + 1 ≤ j → j ≤ p + 1 + (k : Int) → ¬ v ≤ g j := by
                intro j a b w
                have hj : (j - (p + 1)).toNat + (1 + (k - (j - (p + 1)).toNat)) = k + 1 := by omega
                rw [← hj, cnt_add, cnt_add, cnt_one, if_pos (by rw [show p + 1 - (k : Int) + (k : Int) + ((j - (p + 1)).toNat : Int) = j by omega]; exact decide_eq_true w)] at y
                omega
              exact q ⟨p + 1, by omega, by omega, fun j a b => ⟨fun w => absurd w (all0 j a b), fun w => absurd w (all0 (p + 1) (by omega) (by omega))⟩⟩
            · omega
        · have f1 : cnt (thr g v) (p + 1 - (k : Int)) k = 0 := cnt_none fun j a b => decide_eq_false fun w => z ((hc j (by omega) (by omega)).mp w)
          rw [f1]
          constructor
          · intro w
            exfalso
            have all1 : ∀ j, p + 1 ≤ j → j ≤ p + 1 + (k : Int) → v ≤ g j := by
              intro j a b
              by_cases y : v ≤ g j
              · exact y
              · exfalso
                have hj : (j - (p + 1)).toNat + (1 + (k - (j - (p + 1)).toNat)) = k + 1 := by omega
                rw [← hj, cnt_add, cnt_add, cnt_one, if_neg (by rw [show p + 1 - (k : Int) + (k : Int) + ((j - (p + 1)).toNat : Int) = j by omega]; simpa using y)] at w
                have c1 := cnt_le (thr g v) (p + 1 - (k : Int) + (k : Int)) (j - (p + 1)).toNat
                have c2 := cnt_le (thr g v) (p + 1 - (k : Int) + (k : Int) + ((j - (p + 1)).toNat : Int) + ((1 : Nat) : Int)) (k - (j - (p + 1)).toNat)
                omega
            exact q ⟨p + 1, by omega, by omega, fun j a b => ⟨fun _ => all1 (p + 1) (by omega) (by omega), fun _ => all1 j a b⟩⟩
          · intro w; exact absurd w z
      refine ⟨p + 1 - (k : Int), by omega, by omega, fun j a b => ?_⟩
      by_cases y : j = p + 1
      · rw [y]
      · exact ((stay p v (p - (k : Int)) (by omega) h2 hc j (by omega) (by omega))).trans key.symm
theorem calm_flip {k : Nat} {g : Int → Int} {c i : Int} : CalmAt k (fun j => g (c - j)) i ↔ CalmAt k g (c - i) := by
  constructor
  · intro h v
    obtain ⟨d, h1, h2, hd⟩ := h v
    refine ⟨c - d - (k : Int), by omega, by omega, fun j a b => ?_⟩
    have this : v ≤ g (c - (c - j)) ↔ v ≤ g (c - i) := hd (c - j) (by omega) (by omega)
    rw [show c - (c - j) = j by omega] at this
    exact this
  · intro h v
    obtain ⟨d, h1, h2, hd⟩ := h v
    exact ⟨c - d - (k : Int), by omega, by omega, fun j a b => hd (c - j) (by omega) (by omega)⟩
theorem calm_prev {k : Nat} {g : Int → Int} {p : Int} (h : ∀ i, p ≤ i → CalmAt k g i) : ∀ i, p - 1 ≤ i → CalmAt k (rkF g k k) i := by
  intro i hi
  have h' : ∀ j, j ≤ -p → CalmAt k (fun j => g (0 - j)) j := fun j hj => calm_flip.mpr (h (0 - j) (by omega))
  have q := calm_next h' (0 - i) (by omega)
  rw [show rkF (fun j => g (0 - j)) k k = fun j => rkF g k k (0 - j) from funext fun j => rk_flip g 0 (by omega) j] at q
  have := calm_flip.mp q
  rw [show 0 - (0 - i) = i by omega] at this
  exact this
theorem calmAt_low {k : Nat} {f : Int → Int} {a i : Int} (h : ∀ j, j ≤ a → f j = f a) (hi : i ≤ a) : CalmAt k f i := fun v => ⟨i - (k : Int), by omega, by omega, fun j x y => by rw [h j (by omega), h i hi]⟩
theorem calmAt_high {k : Nat} {f : Int → Int} {a i : Int} (h : ∀ j, a ≤ j → f j = f a) (hi : a ≤ i) : CalmAt k f i := fun v => ⟨i, by omega, by omega, fun j x y => by rw [h j (by omega), h i hi]⟩
/-- a filter many times -/
def pasF (f : Int → Int) (k : Nat) : Nat → Int → Int
  | 0 => f
  | m + 1 => rkF (pasF f k m) k k
theorem pas_calm {n k : Nat} {f : Int → Int} (hf : Flat n f) : ∀ m : Nat, (∀ i, i ≤ (m : Int) → CalmAt k (pasF f k m) i) ∧ ∀ i, (n : Int) - 1 - (m : Int) ≤ i → CalmAt k (pasF f k m) i
  | 0 => ⟨fun i hi => calmAt_low hf.1 (by omega), fun i hi => calmAt_high hf.2 (by omega)⟩
  | m + 1 => by
    obtain ⟨h1, h2⟩ := pas_calm hf m
    exact ⟨fun i hi => calm_next h1 i (by omega), fun i hi => calm_prev h2 i (by omega)⟩
theorem pas_root {n k : Nat} {f : Int → Int} (hf : Flat n f) {m : Nat} (hm : n ≤ 2 * m + 2) : Calm k (pasF f k m) := by
  obtain ⟨h1, h2⟩ := pas_calm (k := k) hf m
  intro i v
  by_cases q : i ≤ (m : Int)
  · exact h1 i q v
  · exact h2 i (by omega) v
theorem near_passM {row : List Int} (h0 : row ≠ []) (k : Nat) : ∀ m : Nat, near (passM row k m) = pasF (near row) k m
  | 0 => rfl
  | m + 1 => by
    have h1 : passM row k m ≠ [] := fun z => h0 (List.eq_nil_of_length_eq_zero (by rw [← passM_length row k m, z]; rfl))
    show near (medianM (passM row k m) k) = rkF (pasF (near row) k m) k k
    rw [near_median h1, near_passM h0 k m]
theorem passM_ne {row : List Int} (h0 : row ≠ []) (k m : Nat) : passM row k m ≠ [] := fun z => h0 (List.eq_nil_of_length_eq_zero (by rw [← passM_length row k m, z]; rfl))
theorem pass_root {row : List Int} (h0 : row ≠ []) {k m : Nat} (hm : row.length ≤ 2 * m + 2) : medianM (passM row k m) k = passM row k m := by
  refine median_calm ?_
  rw [near_passM h0]
  exact pas_root (flat_near row) hm
/-- how many passes it takes -/
def needM (row : List Int) (k : Nat) : Nat := ((List.range (row.length / 2 + 1)).find? fun m => decide (medianM (passM row k m) k = passM row k m)).getD 0
theorem needM_spec {row : List Int} (h0 : row ≠ []) (k : Nat) : medianM (passM row k (needM row k)) k = passM row k (needM row k) ∧ (∀ m, m < needM row k → medianM (passM row k m) k ≠ passM row k m) ∧ 2 * needM row k ≤ row.length - 1 := by
  have hl : 0 < row.length := List.length_pos_iff.mpr h0
  have hex : ∃ m, ((List.range (row.length / 2 + 1)).find? fun m => decide (medianM (passM row k m) k = passM row k m)) = some m := by
    rw [← Option.isSome_iff_exists, List.find?_isSome]
    exact ⟨(row.length - 1) / 2, by simp; omega, decide_eq_true (pass_root h0 (by omega))⟩
  obtain ⟨m, hm⟩ := hex
  have e : needM row k = m := by unfold needM; rw [hm]; rfl
  rw [e]
  have h1 := List.find?_some hm
  have h2 : ∀ j, j < m → medianM (passM row k j) k ≠ passM row k j := by
    intro j hj
    obtain ⟨_, i, hi, e1, e2⟩ := List.find?_eq_some_iff_getElem.mp hm
    simp only [List.getElem_range] at e1 e2
    subst e1
    have := e2 j hj
    simpa using this
  refine ⟨of_decide_eq_true h1, h2, ?_⟩
  by_cases q : m = 0
  · omega
  · by_cases z : 2 * m ≤ row.length - 1
    · exact z
    · exact absurd (pass_root h0 (m := m - 1) (k := k) (by omega)) (h2 (m - 1) (by omega))
theorem pass_stay {row : List Int} {k m : Nat} (h : medianM (passM row k m) k = passM row k m) : ∀ d : Nat, passM row k (m + d) = passM row k m
  | 0 => rfl
  | d + 1 => by
    show medianM (passM row k (m + d)) k = _
    rw [pass_stay h d, h]
theorem pass_min {row : List Int} (h0 : row ≠ []) (k t : Nat) : passM row k t = passM row k (min t (needM row k)) := by
  have h := (needM_spec h0 k).1
  by_cases q : t ≤ needM row k
  · rw [Nat.min_eq_left q]
  · rw [Nat.min_eq_right (by omega)]
    have := pass_stay h (t - needM row k)
    rw [show needM row k + (t - needM row k) = t by omega] at this
    exact this
def rootM (row : List Int) (k : Nat) : List Int := passM row k (needM row k)
theorem rootM_pass {row : List Int} (h0 : row ≠ []) (k : Nat) {t : Nat} (ht : row.length ≤ 2 * t + 1) : rootM row k = passM row k t := by
  have h := (needM_spec h0 k).2.2
  rw [pass_min h0 k t, Nat.min_eq_right (by omega)]
  rfl
def waysM (row : List Int) (k : Nat) : List (List Int) := (List.range (needM row k + 1)).map (passM row k)
theorem isRow_pass {row : List Int} (h : isRow row) (k : Nat) : ∀ m, isRow (passM row k m)
  | 0 => h
  | m + 1 => isRow_median (isRow_pass h k m) k
end MR

namespace MR
open PySem L2
/-! ### lists of rows -/
def lx (xs : List (List Int)) : List D := xs.map fun x => .list (ix x)
theorem lx_length (xs : List (List Int)) : (lx xs).length = xs.length := by unfold lx; rw [List.length_map]
theorem lx_append (xs ys : List (List Int)) : lx xs ++ lx ys = lx (xs ++ ys) := by unfold lx; rw [List.map_append]
theorem lx_snoc (F : Nat → List Int) (m : Nat) : lx ((List.range m).map F) ++ [.list (ix (F m))] = lx ((List.range (m + 1)).map F) := by
  rw [List.range_succ, List.map_append, ← lx_append]
  rfl
theorem len_lx (xs : List (List Int)) : bltD .len [.list (lx xs)] = some (.int (xs.length : Int)) := by
  simp only [bltD, lx_length]
theorem idx_lx {xs : List (List Int)} {j : Nat} (h : j < xs.length) : idxD (.list (lx xs)) (.int (j : Int)) = some (.list (ix (xs.getD j []))) := by
  simp only [idxD]
  refine atI_nat ?_
  unfold lx
  rw [List.getElem?_map, List.getD_eq_getElem?_getD, List.getElem?_eq_getElem h]
  rfl
theorem idx_lx_last {xs : List (List Int)} (h : xs ≠ []) : idxD (.list (lx xs)) (.int (-1)) = some (.list (ix (xs.getD (xs.length - 1) []))) := by
  have hl : 0 < xs.length := List.length_pos_iff.mpr h
  simp only [idxD]
  unfold atI
  have e : ixN (lx xs).length (-1) = some (xs.length - 1) := by
    unfold ixN
    rw [lx_length, if_neg (by decide), if_pos (by omega)]
    congr 1
    omega
  rw [e]
  simp only [Option.bind_some]
  unfold lx
  rw [List.getElem?_map, List.getD_eq_getElem?_getD, List.getElem?_eq_getElem (show xs.length - 1 < xs.length by omega)]
  rfl
theorem getD_rangeL (F : Nat → List Int) {n j : Nat} (h : j < n) : ((List.range n).map F).getD j [] = F j := by
  rw [List.getD_eq_getElem?_getD, List.getElem?_map, List.getElem?_range h]
  rfl
theorem idx_rng (F : Nat → List Int) {n j : Nat} (h : j < n) : idxD (.list (lx ((List.range n).map F))) (.int (j : Int)) = some (.list (ix (F j))) := by
  rw [idx_lx (by simp; exact h), getD_rangeL F h]
theorem idx_rng_last (F : Nat → List Int) (m : Nat) : idxD (.list (lx ((List.range (m + 1)).map F))) (.int (-1)) = some (.list (ix (F m))) := by
  rw [idx_lx_last (by simp), List.length_map, List.length_range, Nat.add_sub_cancel, getD_rangeL F (by omega)]
theorem okD_lx (xs : List (List Int)) : okD (.list (lx xs)) = true := by
  show (lx xs).all (lvl 4) = true
  unfold lx
  rw [List.all_map, List.all_eq_true]
  intro x _
  exact lvl_ix 3 x
theorem eqvAll_lx : ∀ (xs ys : List (List Int)), PyData.eqvAll (lx xs) (lx ys) = decide (xs = ys)
  | [], [] => by simp [lx, PyData.eqvAll]
  | [], y :: ys => by simp [lx, PyData.eqvAll]
  | x :: xs, [] => by simp [lx, PyData.eqvAll]
  | x :: xs, y :: ys => by
    have ih := eqvAll_lx xs ys
    rw [show lx (x :: xs) = .list (ix x) :: lx xs from rfl, show lx (y :: ys) = .list (ix y) :: lx ys from rfl, PyData.eqvAll, ih, eqv_ix]
    by_cases h1 : x = y
    · subst h1
      by_cases h2 : xs = ys <;> simp [h2]
    · simp [h1]
theorem eqv_lx (xs ys : List (List Int)) : PyData.eqv (.list (lx xs)) (.list (lx ys)) = decide (xs = ys) := by
  rw [PyData.eqv]
  exact eqvAll_lx xs ys
theorem eq_lx (xs ys : List (List Int)) : opD .eq (.list (lx xs)) (.list (lx ys)) = some (.bool (decide (xs = ys))) := by
  simp only [opD, okD_lx, and_self, if_true, eqv_lx]
theorem ne_lx (xs ys : List (List Int)) : opD .ne (.list (lx xs)) (.list (lx ys)) = some (.bool (!decide (xs = ys))) := by
  simp only [opD, okD_lx, and_self, if_true, eqv_lx]
section
variable {T : Type} {TB : Tab T} {r : MRho} {s : T}
theorem whileM_run {c : MRho → T → Rs T (Bool × MRho)} {body : MRho → T → Rs T Fl} {n m : Nat} (R : Nat → MRho) (hn : m < n) (ht : ∀ j, j < m → c (R j) s = .ok (true, R j) s) (hf : c (R m) s = .ok (false, R m) s) (hb : ∀ j, j < m → body (R j) s = .ok (.next (R (j + 1))) s) : whileM c body n (R 0) s = .ok (.next (R m)) s := by
  have key : ∀ (d n j : Nat), j + d = m → d < n → whileM c body n (R j) s = .ok (.next (R m)) s := by
    intro d
    induction d with
    | zero =>
      intro n j e hn
      obtain ⟨n', rfl⟩ : ∃ n', n = n' + 1 := ⟨n - 1, by omega⟩
      rw [show j = m by omega]
      simp only [whileM, hf, Rs.bind_ok]
    | succ d ih =>
      intro n j e hn
      obtain ⟨n', rfl⟩ : ∃ n', n = n' + 1 := ⟨n - 1, by omega⟩
      simp only [whileM, ht j (by omega), hb j (by omega), Rs.bind_ok]
      exact ih n' (j + 1) (by omega) (by omega)
  exact key m n 0 (by omega) hn
def waysD {T : Type} : List D → T → Rs T D := onRK isRow fun row k => .list (lx (waysM row k))
theorem one_lx (row : List Int) (k : Nat) : ([PyData.list (ix row)] : List D) = lx ((List.range (0 + 1)).map (passM row k)) := rfl
def code_rows_on_the_way : List Cm := [.exp (.call 4 [.var 0, .var 1]), .set 2 (.list [.blt .list [.var 0]]), .whl (.bin .ne (.call 6 [.idx (.var 2) (.neg (.lit (.int 1))), .var 1]) (.idx (.var 2) (.neg (.lit (.int 1))))) [.app 2 (.call 6 [.idx (.var 2) (.neg (.lit (.int 1))), .var 1])], .ret (.var 2)]
theorem run_ways (h4a : TB.ar 4 = 2) (h4 : TB.F 4 = checkBothD) (h6a : TB.ar 6 = 2) (h6 : TB.F 6 = medianD) : ∀ (ds : List D) (s : T), ds.length = 2 → waysD ds s ≠ .stuck → runD TB 3 code_rows_on_the_way ds s = waysD ds s := by
  intro ds s hlen h
  obtain ⟨row, k, rfl, hp, k1, k3, e⟩ := onRK_inv h
  rw [show waysD [.list (ix row), .int (k : Int)] s = _ from e, runD_eq]
  have h0 := hp.ne
  have h12 := hp.2.1
  obtain ⟨n1, n2, n3⟩ := needM_spec h0 k
  have hm : ∀ j, medianD [.list (ix (passM row k j)), .int (k : Int)] s = .ok (.list (ix (medianM (passM row k j) k))) s := fun j => medianD_eq (passM_small hp.small k j) k1 k3
  simp only [code_rows_on_the_way, h4a, h4, checkBothD_eq hp k1 k3, list_list, one_lim, exS_whl, exSs_cons, exSs_nil, seqK_next, seqK_ret, exS_set, exS_ret, exS_exp, exS_skip, exS_never, exS_iff, ifK_b, testM_eq, testK_b, exS_app, exS_par, exS_tset, tsetK_t, exS_loop, runK_next, runK_ret, evO, evF, freshX, esc, escs, frz, ev_var, ev_lit, ev_bin, ev_neg, negK_i, ev_not, notK_b, ev_and, andK_b, ev_or, orK_b, ev_ite, iteK_b, ev_chn, chnK_le, ev_list, ev_tup, ev_idx, ev_slc, ev_rev, revK_l, ev_blt, ev_isi, isiK_s, ev_call, ev_comp, ev_compC, evs_cons, evs_nil, getV, isiD, List.length_cons, List.length_nil, List.map_cons, List.map_nil, List.replicate, List.append_eq, List.nil_append, List.cons_append, List.append_nil, List.getElem?_cons_zero, List.getElem?_cons_succ, Rs.of_some, Rs.bind_ok, Rs.bind_stuck, if_true, Bool.false_eq_true, if_false, List.set_cons_zero, List.set_cons_succ, Nat.zero_add, Nat.reduceAdd, Nat.reduceSub, add_ii, sub_ii, mul_2i, lt_ii, le_ii, gt_ii, ge_ii, len_ix, sorted_ix, sum_ix, eq_ix, ne_ix, turnE_one, turnC_one, turnC_b, turnL_one, reduceIte, Bool.not_true, Bool.not_false, Bool.true_eq_false, is_tt, isnot_tt, loopK_s, len_lit0]
  rw [one_lx row k]
  rw [whileM_run (m := needM row k) (fun j => [.val (.list (ix row)), .val (.int (k : Int)), .own (lx ((List.range (j + 1)).map (passM row k)))]) (by omega) (fun j hj => ?_) ?_ (fun j hj => ?_)]
  · simp only [exSs_cons, exSs_nil, seqK_next, seqK_ret, exS_set, exS_ret, exS_exp, exS_skip, exS_never, exS_iff, ifK_b, testM_eq, testK_b, exS_app, exS_par, exS_tset, tsetK_t, exS_loop, runK_next, runK_ret, evO, evF, freshX, esc, escs, frz, ev_var, ev_lit, ev_bin, ev_neg, negK_i, ev_not, notK_b, ev_and, andK_b, ev_or, orK_b, ev_ite, iteK_b, ev_chn, chnK_le, ev_list, ev_tup, ev_idx, ev_slc, ev_rev, revK_l, ev_blt, ev_isi, isiK_s, ev_call, ev_comp, ev_compC, evs_cons, evs_nil, getV, isiD, List.length_cons, List.length_nil, List.map_cons, List.map_nil, List.replicate, List.append_eq, List.nil_append, List.cons_append, List.append_nil, List.getElem?_cons_zero, List.getElem?_cons_succ, Rs.of_some, Rs.bind_ok, Rs.bind_stuck, if_true, Bool.false_eq_true, if_false, List.set_cons_zero, List.set_cons_succ, Nat.zero_add, Nat.reduceAdd, Nat.reduceSub, add_ii, sub_ii, mul_2i, lt_ii, le_ii, gt_ii, ge_ii, len_ix, sorted_ix, sum_ix, eq_ix, ne_ix, turnE_one, turnC_one, turnC_b, turnL_one, reduceIte, Bool.not_true, Bool.not_false, Bool.true_eq_false, is_tt, isnot_tt, loopK_s, len_lit0]
    rfl
  · simp only [h6a, h6, hm, idx_rng_last, decide_eq_true n1, exSs_cons, exSs_nil, seqK_next, seqK_ret, exS_set, exS_ret, exS_exp, exS_skip, exS_never, exS_iff, ifK_b, testM_eq, testK_b, exS_app, exS_par, exS_tset, tsetK_t, exS_loop, runK_next, runK_ret, evO, evF, freshX, esc, escs, frz, ev_var, ev_lit, ev_bin, ev_neg, negK_i, ev_not, notK_b, ev_and, andK_b, ev_or, orK_b, ev_ite, iteK_b, ev_chn, chnK_le, ev_list, ev_tup, ev_idx, ev_slc, ev_rev, revK_l, ev_blt, ev_isi, isiK_s, ev_call, ev_comp, ev_compC, evs_cons, evs_nil, getV, isiD, List.length_cons, List.length_nil, List.map_cons, List.map_nil, List.replicate, List.append_eq, List.nil_append, List.cons_append, List.append_nil, List.getElem?_cons_zero, List.getElem?_cons_succ, Rs.of_some, Rs.bind_ok, Rs.bind_stuck, if_true, Bool.false_eq_true, if_false, List.set_cons_zero, List.set_cons_succ, Nat.zero_add, Nat.reduceAdd, Nat.reduceSub, add_ii, sub_ii, mul_2i, lt_ii, le_ii, gt_ii, ge_ii, len_ix, sorted_ix, sum_ix, eq_ix, ne_ix, turnE_one, turnC_one, turnC_b, turnL_one, reduceIte, Bool.not_true, Bool.not_false, Bool.true_eq_false, is_tt, isnot_tt, loopK_s, len_lit0]
  · simp only [h6a, h6, hm, idx_rng_last, decide_eq_false (n2 j hj), exSs_cons, exSs_nil, seqK_next, seqK_ret, exS_set, exS_ret, exS_exp, exS_skip, exS_never, exS_iff, ifK_b, testM_eq, testK_b, exS_app, exS_par, exS_tset, tsetK_t, exS_loop, runK_next, runK_ret, evO, evF, freshX, esc, escs, frz, ev_var, ev_lit, ev_bin, ev_neg, negK_i, ev_not, notK_b, ev_and, andK_b, ev_or, orK_b, ev_ite, iteK_b, ev_chn, chnK_le, ev_list, ev_tup, ev_idx, ev_slc, ev_rev, revK_l, ev_blt, ev_isi, isiK_s, ev_call, ev_comp, ev_compC, evs_cons, evs_nil, getV, isiD, List.length_cons, List.length_nil, List.map_cons, List.map_nil, List.replicate, List.append_eq, List.nil_append, List.cons_append, List.append_nil, List.getElem?_cons_zero, List.getElem?_cons_succ, Rs.of_some, Rs.bind_ok, Rs.bind_stuck, if_true, Bool.false_eq_true, if_false, List.set_cons_zero, List.set_cons_succ, Nat.zero_add, Nat.reduceAdd, Nat.reduceSub, add_ii, sub_ii, mul_2i, lt_ii, le_ii, gt_ii, ge_ii, len_ix, sorted_ix, sum_ix, eq_ix, ne_ix, turnE_one, turnC_one, turnC_b, turnL_one, reduceIte, Bool.not_true, Bool.not_false, Bool.true_eq_false, is_tt, isnot_tt, loopK_s, len_lit0]
  · simp only [exSs_cons, exSs_nil, seqK_next, seqK_ret, exS_set, exS_ret, exS_exp, exS_skip, exS_never, exS_iff, ifK_b, testM_eq, testK_b, exS_app, exS_par, exS_tset, tsetK_t, exS_loop, runK_next, runK_ret, evO, evF, freshX, esc, escs, frz, ev_var, ev_lit, ev_bin, ev_neg, negK_i, ev_not, notK_b, ev_and, andK_b, ev_or, orK_b, ev_ite, iteK_b, ev_chn, chnK_le, ev_list, ev_tup, ev_idx, ev_slc, ev_rev, revK_l, ev_blt, ev_isi, isiK_s, ev_call, ev_comp, ev_compC, evs_cons, evs_nil, getV, isiD, List.length_cons, List.length_nil, List.map_cons, List.map_nil, List.replicate, List.append_eq, List.nil_append, List.cons_append, List.append_nil, List.getElem?_cons_zero, List.getElem?_cons_succ, Rs.of_some, Rs.bind_ok, Rs.bind_stuck, if_true, Bool.false_eq_true, if_false, List.set_cons_zero, List.set_cons_succ, Nat.zero_add, Nat.reduceAdd, Nat.reduceSub, add_ii, sub_ii, mul_2i, lt_ii, le_ii, gt_ii, ge_ii, len_ix, sorted_ix, sum_ix, eq_ix, ne_ix, turnE_one, turnC_one, turnC_b, turnL_one, reduceIte, Bool.not_true, Bool.not_false, Bool.true_eq_false, is_tt, isnot_tt, loopK_s, len_lit0]
    rw [appK_own rfl]
    simp only [h6a, h6, hm, idx_rng_last, exSs_cons, exSs_nil, seqK_next, seqK_ret, exS_set, exS_ret, exS_exp, exS_skip, exS_never, exS_iff, ifK_b, testM_eq, testK_b, exS_app, exS_par, exS_tset, tsetK_t, exS_loop, runK_next, runK_ret, evO, evF, freshX, esc, escs, frz, ev_var, ev_lit, ev_bin, ev_neg, negK_i, ev_not, notK_b, ev_and, andK_b, ev_or, orK_b, ev_ite, iteK_b, ev_chn, chnK_le, ev_list, ev_tup, ev_idx, ev_slc, ev_rev, revK_l, ev_blt, ev_isi, isiK_s, ev_call, ev_comp, ev_compC, evs_cons, evs_nil, getV, isiD, List.length_cons, List.length_nil, List.map_cons, List.map_nil, List.replicate, List.append_eq, List.nil_append, List.cons_append, List.append_nil, List.getElem?_cons_zero, List.getElem?_cons_succ, Rs.of_some, Rs.bind_ok, Rs.bind_stuck, if_true, Bool.false_eq_true, if_false, List.set_cons_zero, List.set_cons_succ, Nat.zero_add, Nat.reduceAdd, Nat.reduceSub, add_ii, sub_ii, mul_2i, lt_ii, le_ii, gt_ii, ge_ii, len_ix, sorted_ix, sum_ix, eq_ix, ne_ix, turnE_one, turnC_one, turnC_b, turnL_one, reduceIte, Bool.not_true, Bool.not_false, Bool.true_eq_false, is_tt, isnot_tt, loopK_s, len_lit0]
    rw [if_pos (by rw [lx_length, List.length_map, List.length_range]; exact lim_lt (by omega))]
    rw [show medianM (passM row k j) k = passM row k (j + 1) from rfl, lx_snoc]
    simp only [exSs_cons, exSs_nil, seqK_next, seqK_ret, exS_set, exS_ret, exS_exp, exS_skip, exS_never, exS_iff, ifK_b, testM_eq, testK_b, exS_app, exS_par, exS_tset, tsetK_t, exS_loop, runK_next, runK_ret, evO, evF, freshX, esc, escs, frz, ev_var, ev_lit, ev_bin, ev_neg, negK_i, ev_not, notK_b, ev_and, andK_b, ev_or, orK_b, ev_ite, iteK_b, ev_chn, chnK_le, ev_list, ev_tup, ev_idx, ev_slc, ev_rev, revK_l, ev_blt, ev_isi, isiK_s, ev_call, ev_comp, ev_compC, evs_cons, evs_nil, getV, isiD, List.length_cons, List.length_nil, List.map_cons, List.map_nil, List.replicate, List.append_eq, List.nil_append, List.cons_append, List.append_nil, List.getElem?_cons_zero, List.getElem?_cons_succ, Rs.of_some, Rs.bind_ok, Rs.bind_stuck, if_true, Bool.false_eq_true, if_false, List.set_cons_zero, List.set_cons_succ, Nat.zero_add, Nat.reduceAdd, Nat.reduceSub, add_ii, sub_ii, mul_2i, lt_ii, le_ii, gt_ii, ge_ii, len_ix, sorted_ix, sum_ix, eq_ix, ne_ix, turnE_one, turnC_one, turnC_b, turnL_one, reduceIte, Bool.not_true, Bool.not_false, Bool.true_eq_false, is_tt, isnot_tt, loopK_s, len_lit0]
theorem waysD_eq {row : List Int} {k : Nat} (hp : isRow row) (k1 : 1 ≤ k) (k3 : k ≤ 3) : waysD [.list (ix row), .int (k : Int)] s = .ok (.list (lx (waysM row k))) s := onRK_eq hp k1 k3
theorem waysM_length (row : List Int) (k : Nat) : (waysM row k).length = needM row k + 1 := by simp [waysM]
def needD {T : Type} : List D → T → Rs T D := onRK isRow fun row k => .int (needM row k : Int)
def code_passes_needed : List Cm := [.ret (.bin .sub (.blt .len [.call 30 [.var 0, .var 1]]) (.lit (.int 1)))]
theorem run_need (ha : TB.ar 30 = 2) (hf : TB.F 30 = waysD) : ∀ (ds : List D) (s : T), ds.length = 2 → needD ds s ≠ .stuck → runD TB 2 code_passes_needed ds s = needD ds s := by
  intro ds s hlen h
  obtain ⟨row, k, rfl, hp, k1, k3, e⟩ := onRK_inv h
  rw [show needD [.list (ix row), .int (k : Int)] s = _ from e, runD_eq]
  simp only [code_passes_needed, ha, hf, waysD_eq hp k1 k3, len_lx, waysM_length, exSs_cons, exSs_nil, seqK_next, seqK_ret, exS_set, exS_ret, exS_exp, exS_skip, exS_never, exS_iff, ifK_b, testM_eq, testK_b, exS_app, exS_par, exS_tset, tsetK_t, exS_loop, runK_next, runK_ret, evO, evF, freshX, esc, escs, frz, ev_var, ev_lit, ev_bin, ev_neg, negK_i, ev_not, notK_b, ev_and, andK_b, ev_or, orK_b, ev_ite, iteK_b, ev_chn, chnK_le, ev_list, ev_tup, ev_idx, ev_slc, ev_rev, revK_l, ev_blt, ev_isi, isiK_s, ev_call, ev_comp, ev_compC, evs_cons, evs_nil, getV, isiD, List.length_cons, List.length_nil, List.map_cons, List.map_nil, List.replicate, List.append_eq, List.nil_append, List.cons_append, List.append_nil, List.getElem?_cons_zero, List.getElem?_cons_succ, Rs.of_some, Rs.bind_ok, Rs.bind_stuck, if_true, Bool.false_eq_true, if_false, List.set_cons_zero, List.set_cons_succ, Nat.zero_add, Nat.reduceAdd, Nat.reduceSub, add_ii, sub_ii, mul_2i, lt_ii, le_ii, gt_ii, ge_ii, len_ix, sorted_ix, sum_ix, eq_ix, ne_ix, turnE_one, turnC_one, turnC_b, turnL_one, reduceIte, Bool.not_true, Bool.not_false, Bool.true_eq_false, is_tt, isnot_tt, loopK_s, len_lit0]
  congr 2
  omega
def rootOfD {T : Type} : List D → T → Rs T D := onRK isRow fun row k => .list (ix (rootM row k))
def code_root_of : List Cm := [.ret (.idx (.call 30 [.var 0, .var 1]) (.neg (.lit (.int 1))))]
theorem run_root_of (ha : TB.ar 30 = 2) (hf : TB.F 30 = waysD) : ∀ (ds : List D) (s : T), ds.length = 2 → rootOfD ds s ≠ .stuck → runD TB 2 code_root_of ds s = rootOfD ds s := by
  intro ds s hlen h
  obtain ⟨row, k, rfl, hp, k1, k3, e⟩ := onRK_inv h
  rw [show rootOfD [.list (ix row), .int (k : Int)] s = _ from e, runD_eq]
  simp only [code_root_of, ha, hf, waysD_eq hp k1 k3, waysM, idx_rng_last, exSs_cons, exSs_nil, seqK_next, seqK_ret, exS_set, exS_ret, exS_exp, exS_skip, exS_never, exS_iff, ifK_b, testM_eq, testK_b, exS_app, exS_par, exS_tset, tsetK_t, exS_loop, runK_next, runK_ret, evO, evF, freshX, esc, escs, frz, ev_var, ev_lit, ev_bin, ev_neg, negK_i, ev_not, notK_b, ev_and, andK_b, ev_or, orK_b, ev_ite, iteK_b, ev_chn, chnK_le, ev_list, ev_tup, ev_idx, ev_slc, ev_rev, revK_l, ev_blt, ev_isi, isiK_s, ev_call, ev_comp, ev_compC, evs_cons, evs_nil, getV, isiD, List.length_cons, List.length_nil, List.map_cons, List.map_nil, List.replicate, List.append_eq, List.nil_append, List.cons_append, List.append_nil, List.getElem?_cons_zero, List.getElem?_cons_succ, Rs.of_some, Rs.bind_ok, Rs.bind_stuck, if_true, Bool.false_eq_true, if_false, List.set_cons_zero, List.set_cons_succ, Nat.zero_add, Nat.reduceAdd, Nat.reduceSub, add_ii, sub_ii, mul_2i, lt_ii, le_ii, gt_ii, ge_ii, len_ix, sorted_ix, sum_ix, eq_ix, ne_ix, turnE_one, turnC_one, turnC_b, turnL_one, reduceIte, Bool.not_true, Bool.not_false, Bool.true_eq_false, is_tt, isnot_tt, loopK_s, len_lit0]
  rfl
/-! ### from when on a value stays -/
def lateM (row : List Int) (k i : Nat) : List Int := ((List.range (needM row k)).filter fun q => decide (¬ (passM row k (q + 1)).getD i 0 = (passM row k q).getD i 0)).map fun (q : Nat) => 1 + (q : Int)
def stillM (row : List Int) (k : Nat) : List Int := (List.range row.length).map fun i => maxL (0 :: lateM row k i)
theorem late_last {xs : List Int} (hs : xs.Pairwise (· < ·)) (hp : ∀ x ∈ xs, 0 < x) (h0 : xs ≠ []) : near xs ((xs.length : Int) - 1) = maxL (0 :: xs) := by
  have hl : 0 < xs.length := List.length_pos_iff.mpr h0
  have e : near xs ((xs.length : Int) - 1) = xs.getLast h0 := by
    rw [show ((xs.length : Int) - 1) = ((xs.length - 1 : Nat) : Int) by omega, near_mid (by omega), List.getLast_eq_getElem]
  rw [e]
  have hm : ∀ x ∈ xs, x ≤ xs.getLast h0 := by
    intro x hx
    obtain ⟨i, hi, rfl⟩ := List.getElem_of_mem hx
    rw [List.getLast_eq_getElem]
    by_cases q : i = xs.length - 1
    · subst q; exact Int.le_refl _
    · have := List.pairwise_iff_getElem.mp hs i (xs.length - 1) hi (by omega) (by omega)
      omega
  have a := maxL_mem (l := 0 :: xs) (by simp)
  have b := le_maxL (l := 0 :: xs) (List.mem_cons_of_mem 0 (List.getLast_mem h0))
  have c := hp _ (List.getLast_mem h0)
  rcases List.mem_cons.mp a with a | a
  · omega
  · have := hm _ a
    omega
theorem late_inc (row : List Int) (k i : Nat) : (lateM row k i).Pairwise (· < ·) ∧ ∀ x ∈ lateM row k i, 0 < x := by
  constructor
  · unfold lateM
    rw [List.pairwise_map]
    refine (List.Pairwise.filter _ List.pairwise_lt_range).imp fun {a b} h => ?_
    omega
  · intro x hx
    unfold lateM at hx
    obtain ⟨q, _, rfl⟩ := List.mem_map.mp hx
    omega
/-- [i for i in range(1, n + 1) if ..] -/
theorem run_filt1 {elt c : Xp} {n : Nat} {m : Int} {p : Nat → Bool} {src : List Xp} {tg : Tg} (hl : n ≤ 1000) (hs : evs TB true r src s = .ok [.int 1, .int m] s) (hm : m = (n : Int) + 1)
    (he : ∀ (i : Nat), i < n → turnC TB r tg elt c (.int (1 + (i : Int))) s = .ok (if p i = true then some (.int (1 + (i : Int))) else none) s) :
    compF TB .rng src r (turnC TB r tg elt c) s = .ok (ix (((List.range n).filter p).map fun (i : Nat) => 1 + (i : Int))) s := by
  subst hm
  refine compF_of hs (src_rng2' (by omega) (by omega) (by omega) (by omega)) (by rw [upto_length]; exact lim_ok (by omega)) ?_
  rw [show ((n : Int) + 1 - 1).toNat = n by omega]
  rw [upto_map, compM_fmap (p := p) (g := fun (i : Nat) => PyData.int (1 + (i : Int))) fun i hi => he i (by simpa using hi)]
  rw [ix_map]
def stillD {T : Type} : List D → T → Rs T D := onRK isRow fun row k => .list (ix (stillM row k))
/-- the comprehension of the late passes -/
theorem run_late {elt c : Xp} {src : List Xp} {tg : Tg} {row : List Int} {k i : Nat} (hp : isRow row) (hi : i < row.length) (hs : evs TB true r src s = .ok [.int 1, .int ((needM row k + 1 : Nat) : Int)] s)
    (he : ∀ q, q < needM row k → turnC TB r tg elt c (.int (1 + (q : Int))) s = .ok (if (!decide ((passM row k (q + 1)).getD i 0 = (passM row k q).getD i 0)) = true then some (.int (1 + (q : Int))) else none) s) : compF TB .rng src r (turnC TB r tg elt c) s = .ok (ix (lateM row k i)) s := by
  have h12 := hp.2.1
  have := (needM_spec hp.ne k).2.2
  unfold lateM
  refine run_filt1 (by omega) hs (by omega) fun q hq => ?_
  rw [he q hq]
  congr 2
  rw [decide_not]
def code_first_still : List Cm := [.set 2 (.call 30 [.var 0, .var 1]), .set 3 (.list []), .loop (.one 4) .rng [.blt .len [.var 0]] [.set 5 (.comp (.var 6) (.one 6) .rng [.lit (.int 1), .blt .len [.var 2]] (some (.bin .ne (.idx (.idx (.var 2) (.var 6)) (.var 4)) (.idx (.idx (.var 2) (.bin .sub (.var 6) (.lit (.int 1)))) (.var 4))))), .app 3 (.ite (.bin .ne (.var 5) (.list [])) (.idx (.var 5) (.neg (.lit (.int 1)))) (.lit (.int 0)))], .ret (.var 3)]
theorem run_still (ha : TB.ar 30 = 2) (hf : TB.F 30 = waysD) : ∀ (ds : List D) (s : T), ds.length = 2 → stillD ds s ≠ .stuck → runD TB 7 code_first_still ds s = stillD ds s := by
  intro ds s hlen h
  obtain ⟨row, k, rfl, hp, k1, k3, e⟩ := onRK_inv h
  rw [show stillD [.list (ix row), .int (k : Int)] s = _ from e, runD_eq]
  have h12 := hp.2.1
  simp only [code_first_still, ha, hf, waysD_eq hp k1 k3, len_lit0, src_rng1' (n := row.length) (lim_ok (by omega)), exSs_cons, exSs_nil, seqK_next, seqK_ret, exS_set, exS_ret, exS_exp, exS_skip, exS_never, exS_iff, ifK_b, testM_eq, testK_b, exS_app, exS_par, exS_tset, tsetK_t, exS_loop, runK_next, runK_ret, evO, evF, freshX, esc, escs, frz, ev_var, ev_lit, ev_bin, ev_neg, negK_i, ev_not, notK_b, ev_and, andK_b, ev_or, orK_b, ev_ite, iteK_b, ev_chn, chnK_le, ev_list, ev_tup, ev_idx, ev_slc, ev_rev, revK_l, ev_blt, ev_isi, isiK_s, ev_call, ev_comp, ev_compC, evs_cons, evs_nil, getV, isiD, List.length_cons, List.length_nil, List.map_cons, List.map_nil, List.replicate, List.append_eq, List.nil_append, List.cons_append, List.append_nil, List.getElem?_cons_zero, List.getElem?_cons_succ, Rs.of_some, Rs.bind_ok, Rs.bind_stuck, if_true, Bool.false_eq_true, if_false, List.set_cons_zero, List.set_cons_succ, Nat.zero_add, Nat.reduceAdd, Nat.reduceSub, add_ii, sub_ii, mul_2i, lt_ii, le_ii, gt_ii, ge_ii, len_ix, sorted_ix, sum_ix, eq_ix, ne_ix, turnE_one, turnC_one, turnC_b, turnL_one, reduceIte, Bool.not_true, Bool.not_false, Bool.true_eq_false, is_tt, isnot_tt, loopK_s, len_lit0]
  have key := forM_I (f := turnL TB (.one 4) [.set 5 (.comp (.var 6) (.one 6) .rng [.lit (.int 1), .blt .len [.var 2]] (some (.bin .ne (.idx (.idx (.var 2) (.var 6)) (.var 4)) (.idx (.idx (.var 2) (.bin .sub (.var 6) (.lit (.int 1)))) (.var 4))))), .app 3 (.ite (.bin .ne (.var 5) (.list [])) (.idx (.var 5) (.neg (.lit (.int 1)))) (.lit (.int 0)))]) (lo := 0) (n := row.length)
    (fun j r' s' => ∃ a1 a2, r' = [.val (.list (ix row)), .val (.int (k : Int)), .val (.list (lx (waysM row k))), .own (ix ((List.range j).map fun i => maxL (0 :: lateM row k i))), a1, a2, .un] ∧ s' = s) (fun j hj r' s' ⟨a1, a2, er, es⟩ => ?_) (r := [.val (.list (ix row)), .val (.int (k : Int)), .val (.list (lx (waysM row k))), .own [], .un, .un, .un]) (s := s) ⟨_, _, rfl, rfl⟩
  · obtain ⟨r', s', e1, a1, a2, e2, e3⟩ := key
    subst e2 e3
    rw [e1]
    simp only [exSs_cons, exSs_nil, seqK_next, seqK_ret, exS_set, exS_ret, exS_exp, exS_skip, exS_never, exS_iff, ifK_b, testM_eq, testK_b, exS_app, exS_par, exS_tset, tsetK_t, exS_loop, runK_next, runK_ret, evO, evF, freshX, esc, escs, frz, ev_var, ev_lit, ev_bin, ev_neg, negK_i, ev_not, notK_b, ev_and, andK_b, ev_or, orK_b, ev_ite, iteK_b, ev_chn, chnK_le, ev_list, ev_tup, ev_idx, ev_slc, ev_rev, revK_l, ev_blt, ev_isi, isiK_s, ev_call, ev_comp, ev_compC, evs_cons, evs_nil, getV, isiD, List.length_cons, List.length_nil, List.map_cons, List.map_nil, List.replicate, List.append_eq, List.nil_append, List.cons_append, List.append_nil, List.getElem?_cons_zero, List.getElem?_cons_succ, Rs.of_some, Rs.bind_ok, Rs.bind_stuck, if_true, Bool.false_eq_true, if_false, List.set_cons_zero, List.set_cons_succ, Nat.zero_add, Nat.reduceAdd, Nat.reduceSub, add_ii, sub_ii, mul_2i, lt_ii, le_ii, gt_ii, ge_ii, len_ix, sorted_ix, sum_ix, eq_ix, ne_ix, turnE_one, turnC_one, turnC_b, turnL_one, reduceIte, Bool.not_true, Bool.not_false, Bool.true_eq_false, is_tt, isnot_tt, loopK_s, len_lit0]
    rfl
  · subst er es
    rw [turnL_one]
    simp only [exSs_cons, exSs_nil, seqK_next, seqK_ret, exS_set, exS_ret, exS_exp, exS_skip, exS_never, exS_iff, ifK_b, testM_eq, testK_b, exS_app, exS_par, exS_tset, tsetK_t, exS_loop, runK_next, runK_ret, evO, evF, freshX, esc, escs, frz, ev_var, ev_lit, ev_bin, ev_neg, negK_i, ev_not, notK_b, ev_and, andK_b, ev_or, orK_b, ev_ite, iteK_b, ev_chn, chnK_le, ev_list, ev_tup, ev_idx, ev_slc, ev_rev, revK_l, ev_blt, ev_isi, isiK_s, ev_call, ev_comp, ev_compC, evs_cons, evs_nil, getV, isiD, List.length_cons, List.length_nil, List.map_cons, List.map_nil, List.replicate, List.append_eq, List.nil_append, List.cons_append, List.append_nil, List.getElem?_cons_zero, List.getElem?_cons_succ, Rs.of_some, Rs.bind_ok, Rs.bind_stuck, if_true, Bool.false_eq_true, if_false, List.set_cons_zero, List.set_cons_succ, Nat.zero_add, Nat.reduceAdd, Nat.reduceSub, add_ii, sub_ii, mul_2i, lt_ii, le_ii, gt_ii, ge_ii, len_ix, sorted_ix, sum_ix, eq_ix, ne_ix, turnE_one, turnC_one, turnC_b, turnL_one, reduceIte, Bool.not_true, Bool.not_false, Bool.true_eq_false, is_tt, isnot_tt, loopK_s, len_lit0]
    rw [run_late (row := row) (k := k) (i := j) hp hj (by simp only [len_lx, waysM_length, exSs_cons, exSs_nil, seqK_next, seqK_ret, exS_set, exS_ret, exS_exp, exS_skip, exS_never, exS_iff, ifK_b, testM_eq, testK_b, exS_app, exS_par, exS_tset, tsetK_t, exS_loop, runK_next, runK_ret, evO, evF, freshX, esc, escs, frz, ev_var, ev_lit, ev_bin, ev_neg, negK_i, ev_not, notK_b, ev_and, andK_b, ev_or, orK_b, ev_ite, iteK_b, ev_chn, chnK_le, ev_list, ev_tup, ev_idx, ev_slc, ev_rev, revK_l, ev_blt, ev_isi, isiK_s, ev_call, ev_comp, ev_compC, evs_cons, evs_nil, getV, isiD, List.length_cons, List.length_nil, List.map_cons, List.map_nil, List.replicate, List.append_eq, List.nil_append, List.cons_append, List.append_nil, List.getElem?_cons_zero, List.getElem?_cons_succ, Rs.of_some, Rs.bind_ok, Rs.bind_stuck, if_true, Bool.false_eq_true, if_false, List.set_cons_zero, List.set_cons_succ, Nat.zero_add, Nat.reduceAdd, Nat.reduceSub, add_ii, sub_ii, mul_2i, lt_ii, le_ii, gt_ii, ge_ii, len_ix, sorted_ix, sum_ix, eq_ix, ne_ix, turnE_one, turnC_one, turnC_b, turnL_one, reduceIte, Bool.not_true, Bool.not_false, Bool.true_eq_false, is_tt, isnot_tt, loopK_s, len_lit0]) (fun q hq => ?_)]
    · simp only [exSs_cons, exSs_nil, seqK_next, seqK_ret, exS_set, exS_ret, exS_exp, exS_skip, exS_never, exS_iff, ifK_b, testM_eq, testK_b, exS_app, exS_par, exS_tset, tsetK_t, exS_loop, runK_next, runK_ret, evO, evF, freshX, esc, escs, frz, ev_var, ev_lit, ev_bin, ev_neg, negK_i, ev_not, notK_b, ev_and, andK_b, ev_or, orK_b, ev_ite, iteK_b, ev_chn, chnK_le, ev_list, ev_tup, ev_idx, ev_slc, ev_rev, revK_l, ev_blt, ev_isi, isiK_s, ev_call, ev_comp, ev_compC, evs_cons, evs_nil, getV, isiD, List.length_cons, List.length_nil, List.map_cons, List.map_nil, List.replicate, List.append_eq, List.nil_append, List.cons_append, List.append_nil, List.getElem?_cons_zero, List.getElem?_cons_succ, Rs.of_some, Rs.bind_ok, Rs.bind_stuck, if_true, Bool.false_eq_true, if_false, List.set_cons_zero, List.set_cons_succ, Nat.zero_add, Nat.reduceAdd, Nat.reduceSub, add_ii, sub_ii, mul_2i, lt_ii, le_ii, gt_ii, ge_ii, len_ix, sorted_ix, sum_ix, eq_ix, ne_ix, turnE_one, turnC_one, turnC_b, turnL_one, reduceIte, Bool.not_true, Bool.not_false, Bool.true_eq_false, is_tt, isnot_tt, loopK_s, len_lit0]
      rw [appK_own rfl]
      by_cases z : lateM row k j = []
      · simp only [z, show opD .ne (.list (ix [])) (.list []) = some (.bool false) from rfl, len_lit0, exSs_cons, exSs_nil, seqK_next, seqK_ret, exS_set, exS_ret, exS_exp, exS_skip, exS_never, exS_iff, ifK_b, testM_eq, testK_b, exS_app, exS_par, exS_tset, tsetK_t, exS_loop, runK_next, runK_ret, evO, evF, freshX, esc, escs, frz, ev_var, ev_lit, ev_bin, ev_neg, negK_i, ev_not, notK_b, ev_and, andK_b, ev_or, orK_b, ev_ite, iteK_b, ev_chn, chnK_le, ev_list, ev_tup, ev_idx, ev_slc, ev_rev, revK_l, ev_blt, ev_isi, isiK_s, ev_call, ev_comp, ev_compC, evs_cons, evs_nil, getV, isiD, List.length_cons, List.length_nil, List.map_cons, List.map_nil, List.replicate, List.append_eq, List.nil_append, List.cons_append, List.append_nil, List.getElem?_cons_zero, List.getElem?_cons_succ, Rs.of_some, Rs.bind_ok, Rs.bind_stuck, if_true, Bool.false_eq_true, if_false, List.set_cons_zero, List.set_cons_succ, Nat.zero_add, Nat.reduceAdd, Nat.reduceSub, add_ii, sub_ii, mul_2i, lt_ii, le_ii, gt_ii, ge_ii, len_ix, sorted_ix, sum_ix, eq_ix, ne_ix, turnE_one, turnC_one, turnC_b, turnL_one, reduceIte, Bool.not_true, Bool.not_false, Bool.true_eq_false, is_tt, isnot_tt, loopK_s, len_lit0]
        rw [if_pos (by rw [ix_length, List.length_map, List.length_range]; exact lim_lt (by omega))]
        rw [show ([PyData.int 0] : List D) = [PyData.int (maxL (0 :: lateM row k j))] by rw [z]; rfl, ix_snoc (fun i => maxL (0 :: lateM row k i))]
        exact ⟨_, _, rfl, _, _, rfl, rfl⟩
      · have e2 : opD .ne (.list (ix (lateM row k j))) (.list []) = some (.bool true) := by
          rw [show ([] : List D) = ix [] from rfl, ne_ix, decide_eq_false z]
          rfl
        have l := late_inc row k j
        simp only [e2, len_lit0, idx_last z, late_last l.1 l.2 z, exSs_cons, exSs_nil, seqK_next, seqK_ret, exS_set, exS_ret, exS_exp, exS_skip, exS_never, exS_iff, ifK_b, testM_eq, testK_b, exS_app, exS_par, exS_tset, tsetK_t, exS_loop, runK_next, runK_ret, evO, evF, freshX, esc, escs, frz, ev_var, ev_lit, ev_bin, ev_neg, negK_i, ev_not, notK_b, ev_and, andK_b, ev_or, orK_b, ev_ite, iteK_b, ev_chn, chnK_le, ev_list, ev_tup, ev_idx, ev_slc, ev_rev, revK_l, ev_blt, ev_isi, isiK_s, ev_call, ev_comp, ev_compC, evs_cons, evs_nil, getV, isiD, List.length_cons, List.length_nil, List.map_cons, List.map_nil, List.replicate, List.append_eq, List.nil_append, List.cons_append, List.append_nil, List.getElem?_cons_zero, List.getElem?_cons_succ, Rs.of_some, Rs.bind_ok, Rs.bind_stuck, if_true, Bool.false_eq_true, if_false, List.set_cons_zero, List.set_cons_succ, Nat.zero_add, Nat.reduceAdd, Nat.reduceSub, add_ii, sub_ii, mul_2i, lt_ii, le_ii, gt_ii, ge_ii, len_ix, sorted_ix, sum_ix, eq_ix, ne_ix, turnE_one, turnC_one, turnC_b, turnL_one, reduceIte, Bool.not_true, Bool.not_false, Bool.true_eq_false, is_tt, isnot_tt, loopK_s, len_lit0]
        rw [if_pos (by rw [ix_length, List.length_map, List.length_range]; exact lim_lt (by omega))]
        rw [ix_snoc (fun i => maxL (0 :: lateM row k i))]
        exact ⟨_, _, rfl, _, _, rfl, rfl⟩
    · simp only [exSs_cons, exSs_nil, seqK_next, seqK_ret, exS_set, exS_ret, exS_exp, exS_skip, exS_never, exS_iff, ifK_b, testM_eq, testK_b, exS_app, exS_par, exS_tset, tsetK_t, exS_loop, runK_next, runK_ret, evO, evF, freshX, esc, escs, frz, ev_var, ev_lit, ev_bin, ev_neg, negK_i, ev_not, notK_b, ev_and, andK_b, ev_or, orK_b, ev_ite, iteK_b, ev_chn, chnK_le, ev_list, ev_tup, ev_idx, ev_slc, ev_rev, revK_l, ev_blt, ev_isi, isiK_s, ev_call, ev_comp, ev_compC, evs_cons, evs_nil, getV, isiD, List.length_cons, List.length_nil, List.map_cons, List.map_nil, List.replicate, List.append_eq, List.nil_append, List.cons_append, List.append_nil, List.getElem?_cons_zero, List.getElem?_cons_succ, Rs.of_some, Rs.bind_ok, Rs.bind_stuck, if_true, Bool.false_eq_true, if_false, List.set_cons_zero, List.set_cons_succ, Nat.zero_add, Nat.reduceAdd, Nat.reduceSub, add_ii, sub_ii, mul_2i, lt_ii, le_ii, gt_ii, ge_ii, len_ix, sorted_ix, sum_ix, eq_ix, ne_ix, turnE_one, turnC_one, turnC_b, turnL_one, reduceIte, Bool.not_true, Bool.not_false, Bool.true_eq_false, is_tt, isnot_tt, loopK_s, len_lit0]
      rw [show (1 : Int) + (q : Int) = ((q + 1 : Nat) : Int) by omega, show ((q + 1 : Nat) : Int) - 1 = (q : Int) by omega, show (0 : Int) + (j : Int) = (j : Int) by omega]
      simp only [waysM, idx_rng _ (show q + 1 < needM row k + 1 by omega), idx_rng _ (show q < needM row k + 1 by omega), exSs_cons, exSs_nil, seqK_next, seqK_ret, exS_set, exS_ret, exS_exp, exS_skip, exS_never, exS_iff, ifK_b, testM_eq, testK_b, exS_app, exS_par, exS_tset, tsetK_t, exS_loop, runK_next, runK_ret, evO, evF, freshX, esc, escs, frz, ev_var, ev_lit, ev_bin, ev_neg, negK_i, ev_not, notK_b, ev_and, andK_b, ev_or, orK_b, ev_ite, iteK_b, ev_chn, chnK_le, ev_list, ev_tup, ev_idx, ev_slc, ev_rev, revK_l, ev_blt, ev_isi, isiK_s, ev_call, ev_comp, ev_compC, evs_cons, evs_nil, getV, isiD, List.length_cons, List.length_nil, List.map_cons, List.map_nil, List.replicate, List.append_eq, List.nil_append, List.cons_append, List.append_nil, List.getElem?_cons_zero, List.getElem?_cons_succ, Rs.of_some, Rs.bind_ok, Rs.bind_stuck, if_true, Bool.false_eq_true, if_false, List.set_cons_zero, List.set_cons_succ, Nat.zero_add, Nat.reduceAdd, Nat.reduceSub, add_ii, sub_ii, mul_2i, lt_ii, le_ii, gt_ii, ge_ii, len_ix, sorted_ix, sum_ix, eq_ix, ne_ix, turnE_one, turnC_one, turnC_b, turnL_one, reduceIte, Bool.not_true, Bool.not_false, Bool.true_eq_false, is_tt, isnot_tt, loopK_s, len_lit0]
      rw [idx_ix (by rw [passM_length]; exact hj), idx_ix (by rw [passM_length]; exact hj)]
      simp only [ne_ii, exSs_cons, exSs_nil, seqK_next, seqK_ret, exS_set, exS_ret, exS_exp, exS_skip, exS_never, exS_iff, ifK_b, testM_eq, testK_b, exS_app, exS_par, exS_tset, tsetK_t, exS_loop, runK_next, runK_ret, evO, evF, freshX, esc, escs, frz, ev_var, ev_lit, ev_bin, ev_neg, negK_i, ev_not, notK_b, ev_and, andK_b, ev_or, orK_b, ev_ite, iteK_b, ev_chn, chnK_le, ev_list, ev_tup, ev_idx, ev_slc, ev_rev, revK_l, ev_blt, ev_isi, isiK_s, ev_call, ev_comp, ev_compC, evs_cons, evs_nil, getV, isiD, List.length_cons, List.length_nil, List.map_cons, List.map_nil, List.replicate, List.append_eq, List.nil_append, List.cons_append, List.append_nil, List.getElem?_cons_zero, List.getElem?_cons_succ, Rs.of_some, Rs.bind_ok, Rs.bind_stuck, if_true, Bool.false_eq_true, if_false, List.set_cons_zero, List.set_cons_succ, Nat.zero_add, Nat.reduceAdd, Nat.reduceSub, add_ii, sub_ii, mul_2i, lt_ii, le_ii, gt_ii, ge_ii, len_ix, sorted_ix, sum_ix, eq_ix, ne_ix, turnE_one, turnC_one, turnC_b, turnL_one, reduceIte, Bool.not_true, Bool.not_false, Bool.true_eq_false, is_tt, isnot_tt, loopK_s, len_lit0]
      generalize (!decide ((passM row k (q + 1)).getD j 0 = (passM row k q).getD j 0)) = b
      cases b <;> rfl
theorem still_max {row : List Int} (h0 : row ≠ []) (k : Nat) : maxL (stillM row k) = (needM row k : Int) := by
  have hl : 0 < row.length := List.length_pos_iff.mpr h0
  have hne : stillM row k ≠ [] := by unfold stillM; intro z; have := congrArg List.length z; rw [List.length_map, List.length_range, List.length_nil] at this; omega
  have up : ∀ x ∈ stillM row k, x ≤ (needM row k : Int) := by
    intro x hx
    unfold stillM at hx
    obtain ⟨i, _, rfl⟩ := List.mem_map.mp hx
    rcases List.mem_cons.mp (maxL_mem (l := 0 :: lateM row k i) (by simp)) with a | a
    · rw [a]; omega
    · generalize maxL (0 :: lateM row k i) = y at a
      unfold lateM at a
      obtain ⟨q, hq, rfl⟩ := List.mem_map.mp a
      have := List.mem_range.mp (List.mem_filter.mp hq).1
      omega
  have h1 := up _ (maxL_mem hne)
  obtain ⟨n1, n2, n3⟩ := needM_spec h0 k
  by_cases q : needM row k = 0
  · have h2 : 0 ≤ maxL (stillM row k) := by
      have := le_maxL (l := stillM row k) (y := maxL (0 :: lateM row k 0)) (List.mem_map.mpr ⟨0, by simp; exact hl, rfl⟩)
      have b := le_maxL (l := 0 :: lateM row k 0) (y := 0) List.mem_cons_self
      omega
    omega
  · -- a place that the last pass changes
    have hd := n2 (needM row k - 1) (by omega)
    have : ∃ i, i < row.length ∧ ¬ (passM row k (needM row k - 1 + 1)).getD i 0 = (passM row k (needM row k - 1)).getD i 0 := by
      by_cases z : ∃ i, i < row.length ∧ ¬ (passM row k (needM row k - 1 + 1)).getD i 0 = (passM row k (needM row k - 1)).getD i 0
      · exact z
      · exfalso
        refine hd (List.ext_getElem? fun i => ?_)
        show (passM row k (needM row k - 1 + 1))[i]? = _
        by_cases hi : i < row.length
        · have e := Classical.byContradiction fun w => z ⟨i, hi, w⟩
          rw [List.getD_eq_getElem?_getD, List.getD_eq_getElem?_getD, List.getElem?_eq_getElem (by rw [passM_length]; exact hi), List.getElem?_eq_getElem (by rw [passM_length]; exact hi)] at e
          rw [List.getElem?_eq_getElem (by rw [passM_length]; exact hi), List.getElem?_eq_getElem (by rw [passM_length]; exact hi)]
          exact congrArg some e
        · rw [List.getElem?_eq_none (by rw [passM_length]; omega), List.getElem?_eq_none (by rw [passM_length]; omega)]
    obtain ⟨i, hi, hne2⟩ := this
    have a := le_maxL (l := stillM row k) (y := maxL (0 :: lateM row k i)) (List.mem_map.mpr ⟨i, by simp; exact hi, rfl⟩)
    have b := le_maxL (l := 0 :: lateM row k i) (y := (needM row k : Int)) (List.mem_cons_of_mem 0 (by
      unfold lateM
      refine List.mem_map.mpr ⟨needM row k - 1, List.mem_filter.mpr ⟨by simp; omega, decide_eq_true hne2⟩, by omega⟩))
    omega
end
end MR

namespace MR
open PySem L2
section
variable {T : Type} {TB : Tab T} {r : MRho}
/-! ### comprehensions that draw -/
theorem compM_ex {A B : Type} {f : D → T → Rs T (Option D)} {i : B → D} {g : A → D} {R : B → A → Prop} : ∀ {xs : List B}, (∀ x ∈ xs, ∀ s, ∃ y s', f (i x) s = .ok (some (g y)) s' ∧ R x y) → ∀ s, ∃ (ys : List A) (s' : T), compM f (xs.map i) s = .ok (ys.map g) s' ∧ ys.length = xs.length ∧ ∀ (j : Nat) (x : B) (y : A), xs[j]? = some x → ys[j]? = some y → R x y
  | [], _, s => ⟨[], s, rfl, rfl, fun j x y h => by simp at h⟩
  | b :: xs, h, s => by
    obtain ⟨y, s1, e1, r1⟩ := h b List.mem_cons_self s
    obtain ⟨ys, s2, e2, l2, r2⟩ := compM_ex (xs := xs) (fun x hx => h x (List.mem_cons_of_mem _ hx)) s1
    refine ⟨y :: ys, s2, ?_, by simp [l2], fun j x z h1 h2 => ?_⟩
    · simp only [List.map_cons, compM]
      rw [e1]
      simp only [Rs.bind_ok]
      rw [e2]
      rfl
    · cases j with
      | zero =>
        cases h1
        cases h2
        exact r1
      | succ j => exact r2 j x z h1 h2
theorem compF_ofS {k : Srk} {src : List Xp} {f : D → T → Rs T (Option D)} {ss ds l : List D} {s s1 s2 : T} (h1 : evs TB true r src s = .ok ss s1) (h2 : srcD k ss = some ds) (h3 : ds.length ≤ LIM) (h4 : compM f ds s1 = .ok l s2) : compF TB k src r f s = .ok l s2 := by
  unfold compF
  rw [h1]
  simp only [Rs.bind_ok]
  rw [h2]
  simp only
  rw [if_pos h3, h4]
  rfl
theorem mod_i2 (i : Int) : opD .mod (.int i) (.int 2) = some (.int (i % 2)) := by
  simp only [opD]
  rw [if_pos (by omega)]
theorem mul_small {i : Int} (j : Int) (h0 : -1000 ≤ i) (h1 : i ≤ 1000) : opD .mul (.int i) (.int j) = some (.int (i * j)) := by
  simp only [opD]
  rw [if_pos (.inl ⟨by omega, by omega⟩)]
theorem max_2 (i j : Int) : bltD .max [.int i, .int j] = some (.int (max i j)) := by
  simp only [bltD]
  congr 2
  split <;> omega
theorem min_2 (i j : Int) : bltD .min [.int i, .int j] = some (.int (min i j)) := by
  simp only [bltD]
  congr 2
  split <;> omega
end
end MR

namespace MR
open PySem L2
/-! ### under -/
def underB (a b : List Int) : Bool := (List.range a.length).all fun i => decide (a.getD i 0 ≤ b.getD i 0)
def underD {T : Type} : List D → T → Rs T D
  | [.list ds, .list es], s => match intsOf ds, intsOf es with
    | some a, some b => if a.length ≤ b.length ∧ a.length ≤ 1000 then .ok (.bool (underB a b)) s else .stuck
    | _, _ => .stuck
  | _, _ => .stuck
theorem underD_eq {T : Type} {s : T} {a b : List Int} (h1 : a.length ≤ b.length) (h2 : a.length ≤ 1000) : underD [.list (ix a), .list (ix b)] s = .ok (.bool (underB a b)) s := by
  simp only [underD, intsOf_ix]
  rw [if_pos ⟨h1, h2⟩]
theorem underD_inv {T : Type} {ds : List D} {s : T} (h : underD ds s ≠ .stuck) : ∃ a b, ds = [.list (ix a), .list (ix b)] ∧ a.length ≤ b.length ∧ a.length ≤ 1000 ∧ underD ds s = .ok (.bool (underB a b)) s := by
  unfold underD at h
  split at h
  · rename_i ds es
    split at h
    · rename_i a b ha hb
      split at h
      · rename_i hc
        refine ⟨a, b, ?_, hc.1, hc.2, ?_⟩
        · rw [of_intsOf ha, of_intsOf hb]
          rfl
        · simp only [underD, ha, hb]
          rw [if_pos hc]
      · exact absurd rfl h
    · exact absurd rfl h
  · exact absurd rfl h
theorem filter_none (n : Nat) (p q : Nat → Bool) (h : ∀ i, i < n → p i = !q i) : decide ((((List.range n).filter p).map fun (i : Nat) => (i : Int)) = []) = (List.range n).all q := by
  by_cases z : (List.range n).all q = true
  · rw [z]
    refine decide_eq_true ?_
    rw [List.map_eq_nil_iff, List.filter_eq_nil_iff]
    intro i hi
    rw [h i (List.mem_range.mp hi), List.all_eq_true.mp z i hi]
    simp
  · rw [Bool.not_eq_true] at z
    rw [z]
    refine decide_eq_false fun e => ?_
    rw [List.map_eq_nil_iff, List.filter_eq_nil_iff] at e
    rw [List.all_eq_false] at z
    obtain ⟨i, hi, hq⟩ := z
    have := e i hi
    rw [h i (List.mem_range.mp hi)] at this
    simp at hq this
    rw [hq] at this
    cases this
section
variable {T : Type} {TB : Tab T} {r : MRho} {s : T}
def code_law_under : List Cm := [.ret (.bin .eq (.comp (.var 2) (.one 2) .rng [.blt .len [.var 0]] (some (.bin .gt (.idx (.var 0) (.var 2)) (.idx (.var 1) (.var 2))))) (.list []))]
theorem run_under : ∀ (ds : List D) (s : T), ds.length = 2 → underD ds s ≠ .stuck → runD TB 3 code_law_under ds s = underD ds s := by
  intro ds s hlen h
  obtain ⟨a, b, rfl, h1, h2, e⟩ := underD_inv h
  rw [e, runD_eq]
  simp only [code_law_under, exSs_cons, exSs_nil, seqK_next, seqK_ret, exS_set, exS_ret, exS_exp, exS_skip, exS_never, exS_iff, ifK_b, testM_eq, testK_b, exS_app, exS_par, exS_tset, tsetK_t, exS_loop, runK_next, runK_ret, evO, evF, freshX, esc, escs, frz, ev_var, ev_lit, ev_bin, ev_neg, negK_i, ev_not, notK_b, ev_and, andK_b, ev_or, orK_b, ev_ite, iteK_b, ev_chn, chnK_le, ev_list, ev_tup, ev_idx, ev_slc, ev_rev, revK_l, ev_blt, ev_isi, isiK_s, ev_call, ev_comp, ev_compC, evs_cons, evs_nil, getV, isiD, List.length_cons, List.length_nil, List.map_cons, List.map_nil, List.replicate, List.append_eq, List.nil_append, List.cons_append, List.append_nil, List.getElem?_cons_zero, List.getElem?_cons_succ, Rs.of_some, Rs.bind_ok, Rs.bind_stuck, if_true, Bool.false_eq_true, if_false, List.set_cons_zero, List.set_cons_succ, Nat.zero_add, Nat.reduceAdd, Nat.reduceSub, add_ii, sub_ii, mul_2i, lt_ii, le_ii, gt_ii, ge_ii, len_ix, sorted_ix, sum_ix, eq_ix, ne_ix, turnE_one, turnC_one, turnC_b, turnL_one, reduceIte, Bool.not_true, Bool.not_false, Bool.true_eq_false, is_tt, isnot_tt, loopK_s, len_lit0]
  rw [run_places (n := a.length) (p := fun i => decide (b.getD i 0 < a.getD i 0)) (by omega) (by simp only [exSs_cons, exSs_nil, seqK_next, seqK_ret, exS_set, exS_ret, exS_exp, exS_skip, exS_never, exS_iff, ifK_b, testM_eq, testK_b, exS_app, exS_par, exS_tset, tsetK_t, exS_loop, runK_next, runK_ret, evO, evF, freshX, esc, escs, frz, ev_var, ev_lit, ev_bin, ev_neg, negK_i, ev_not, notK_b, ev_and, andK_b, ev_or, orK_b, ev_ite, iteK_b, ev_chn, chnK_le, ev_list, ev_tup, ev_idx, ev_slc, ev_rev, revK_l, ev_blt, ev_isi, isiK_s, ev_call, ev_comp, ev_compC, evs_cons, evs_nil, getV, isiD, List.length_cons, List.length_nil, List.map_cons, List.map_nil, List.replicate, List.append_eq, List.nil_append, List.cons_append, List.append_nil, List.getElem?_cons_zero, List.getElem?_cons_succ, Rs.of_some, Rs.bind_ok, Rs.bind_stuck, if_true, Bool.false_eq_true, if_false, List.set_cons_zero, List.set_cons_succ, Nat.zero_add, Nat.reduceAdd, Nat.reduceSub, add_ii, sub_ii, mul_2i, lt_ii, le_ii, gt_ii, ge_ii, len_ix, sorted_ix, sum_ix, eq_ix, ne_ix, turnE_one, turnC_one, turnC_b, turnL_one, reduceIte, Bool.not_true, Bool.not_false, Bool.true_eq_false, is_tt, isnot_tt, loopK_s, len_lit0]) ?_]
  · simp only [len_lit0, exSs_cons, exSs_nil, seqK_next, seqK_ret, exS_set, exS_ret, exS_exp, exS_skip, exS_never, exS_iff, ifK_b, testM_eq, testK_b, exS_app, exS_par, exS_tset, tsetK_t, exS_loop, runK_next, runK_ret, evO, evF, freshX, esc, escs, frz, ev_var, ev_lit, ev_bin, ev_neg, negK_i, ev_not, notK_b, ev_and, andK_b, ev_or, orK_b, ev_ite, iteK_b, ev_chn, chnK_le, ev_list, ev_tup, ev_idx, ev_slc, ev_rev, revK_l, ev_blt, ev_isi, isiK_s, ev_call, ev_comp, ev_compC, evs_cons, evs_nil, getV, isiD, List.length_cons, List.length_nil, List.map_cons, List.map_nil, List.replicate, List.append_eq, List.nil_append, List.cons_append, List.append_nil, List.getElem?_cons_zero, List.getElem?_cons_succ, Rs.of_some, Rs.bind_ok, Rs.bind_stuck, if_true, Bool.false_eq_true, if_false, List.set_cons_zero, List.set_cons_succ, Nat.zero_add, Nat.reduceAdd, Nat.reduceSub, add_ii, sub_ii, mul_2i, lt_ii, le_ii, gt_ii, ge_ii, len_ix, sorted_ix, sum_ix, eq_ix, ne_ix, turnE_one, turnC_one, turnC_b, turnL_one, reduceIte, Bool.not_true, Bool.not_false, Bool.true_eq_false, is_tt, isnot_tt, loopK_s, len_lit0]
    rw [show ([] : List D) = ix [] from rfl, eq_ix, filter_none a.length _ (fun i => decide (a.getD i 0 ≤ b.getD i 0)) fun i _ => ?_]
    · simp only [exSs_cons, exSs_nil, seqK_next, seqK_ret, exS_set, exS_ret, exS_exp, exS_skip, exS_never, exS_iff, ifK_b, testM_eq, testK_b, exS_app, exS_par, exS_tset, tsetK_t, exS_loop, runK_next, runK_ret, evO, evF, freshX, esc, escs, frz, ev_var, ev_lit, ev_bin, ev_neg, negK_i, ev_not, notK_b, ev_and, andK_b, ev_or, orK_b, ev_ite, iteK_b, ev_chn, chnK_le, ev_list, ev_tup, ev_idx, ev_slc, ev_rev, revK_l, ev_blt, ev_isi, isiK_s, ev_call, ev_comp, ev_compC, evs_cons, evs_nil, getV, isiD, List.length_cons, List.length_nil, List.map_cons, List.map_nil, List.replicate, List.append_eq, List.nil_append, List.cons_append, List.append_nil, List.getElem?_cons_zero, List.getElem?_cons_succ, Rs.of_some, Rs.bind_ok, Rs.bind_stuck, if_true, Bool.false_eq_true, if_false, List.set_cons_zero, List.set_cons_succ, Nat.zero_add, Nat.reduceAdd, Nat.reduceSub, add_ii, sub_ii, mul_2i, lt_ii, le_ii, gt_ii, ge_ii, len_ix, sorted_ix, sum_ix, eq_ix, ne_ix, turnE_one, turnC_one, turnC_b, turnL_one, reduceIte, Bool.not_true, Bool.not_false, Bool.true_eq_false, is_tt, isnot_tt, loopK_s, len_lit0]
      rfl
    · by_cases q : b.getD i 0 < a.getD i 0
      · rw [decide_eq_true q, decide_eq_false (by omega)]; rfl
      · rw [decide_eq_false q, decide_eq_true (by omega)]; rfl
  · intro i hi
    have e0 : (0 : Int) + (i : Int) = (i : Int) := by omega
    simp only [e0, exSs_cons, exSs_nil, seqK_next, seqK_ret, exS_set, exS_ret, exS_exp, exS_skip, exS_never, exS_iff, ifK_b, testM_eq, testK_b, exS_app, exS_par, exS_tset, tsetK_t, exS_loop, runK_next, runK_ret, evO, evF, freshX, esc, escs, frz, ev_var, ev_lit, ev_bin, ev_neg, negK_i, ev_not, notK_b, ev_and, andK_b, ev_or, orK_b, ev_ite, iteK_b, ev_chn, chnK_le, ev_list, ev_tup, ev_idx, ev_slc, ev_rev, revK_l, ev_blt, ev_isi, isiK_s, ev_call, ev_comp, ev_compC, evs_cons, evs_nil, getV, isiD, List.length_cons, List.length_nil, List.map_cons, List.map_nil, List.replicate, List.append_eq, List.nil_append, List.cons_append, List.append_nil, List.getElem?_cons_zero, List.getElem?_cons_succ, Rs.of_some, Rs.bind_ok, Rs.bind_stuck, if_true, Bool.false_eq_true, if_false, List.set_cons_zero, List.set_cons_succ, Nat.zero_add, Nat.reduceAdd, Nat.reduceSub, add_ii, sub_ii, mul_2i, lt_ii, le_ii, gt_ii, ge_ii, len_ix, sorted_ix, sum_ix, eq_ix, ne_ix, turnE_one, turnC_one, turnC_b, turnL_one, reduceIte, Bool.not_true, Bool.not_false, Bool.true_eq_false, is_tt, isnot_tt, loopK_s, len_lit0]
    rw [idx_ix hi, idx_ix (by omega)]
    simp only [exSs_cons, exSs_nil, seqK_next, seqK_ret, exS_set, exS_ret, exS_exp, exS_skip, exS_never, exS_iff, ifK_b, testM_eq, testK_b, exS_app, exS_par, exS_tset, tsetK_t, exS_loop, runK_next, runK_ret, evO, evF, freshX, esc, escs, frz, ev_var, ev_lit, ev_bin, ev_neg, negK_i, ev_not, notK_b, ev_and, andK_b, ev_or, orK_b, ev_ite, iteK_b, ev_chn, chnK_le, ev_list, ev_tup, ev_idx, ev_slc, ev_rev, revK_l, ev_blt, ev_isi, isiK_s, ev_call, ev_comp, ev_compC, evs_cons, evs_nil, getV, isiD, List.length_cons, List.length_nil, List.map_cons, List.map_nil, List.replicate, List.append_eq, List.nil_append, List.cons_append, List.append_nil, List.getElem?_cons_zero, List.getElem?_cons_succ, Rs.of_some, Rs.bind_ok, Rs.bind_stuck, if_true, Bool.false_eq_true, if_false, List.set_cons_zero, List.set_cons_succ, Nat.zero_add, Nat.reduceAdd, Nat.reduceSub, add_ii, sub_ii, mul_2i, lt_ii, le_ii, gt_ii, ge_ii, len_ix, sorted_ix, sum_ix, eq_ix, ne_ix, turnE_one, turnC_one, turnC_b, turnL_one, reduceIte, Bool.not_true, Bool.not_false, Bool.true_eq_false, is_tt, isnot_tt, loopK_s, len_lit0]
    generalize decide (b.getD i 0 < a.getD i 0) = q
    cases q <;> rfl
end
theorem under_rows {a b : List Int} (hl : a.length = b.length) (h : ∀ i, near a i ≤ near b i) : underB a b = true := by
  unfold underB
  rw [List.all_eq_true]
  intro i hi
  have hi := List.mem_range.mp hi
  have := h (i : Int)
  rw [near_nat hi, near_nat (by omega)] at this
  exact decide_eq_true this
theorem near_le {a b : List Int} (hl : a.length = b.length) (h : ∀ i, i < a.length → a.getD i 0 ≤ b.getD i 0) (i : Int) : near a i ≤ near b i := by
  by_cases q : a.length = 0
  · have e1 := List.eq_nil_of_length_eq_zero q
    have e2 := List.eq_nil_of_length_eq_zero (hl.symm.trans q)
    rw [e1, e2]
    exact Int.le_refl _
  · unfold near
    rw [← hl]
    exact h _ (by omega)
theorem rec_mono {f g : Int → Int} (h : ∀ j, f j ≤ g j) (k : Nat) : ∀ (n : Nat) (i : Int), recG f k n i ≤ recG g k n i
  | 0, i => h i
  | n + 1, i => by
    show (if i = (n : Int) then _ else _) ≤ (if i = (n : Int) then _ else _)
    split
    · exact rk_mono (rec_mono h k n) (by omega) _
    · exact rec_mono h k n i
theorem pas_mono {f g : Int → Int} (h : ∀ j, f j ≤ g j) (k : Nat) : ∀ (n : Nat) (i : Int), pasF f k n i ≤ pasF g k n i
  | 0, i => h i
  | n + 1, i => rk_mono (pas_mono h k n) (by omega) i
theorem near_root {row : List Int} (h : isRow row) (k : Nat) : near (rootM row k) = pasF (near row) k 6 := by
  rw [rootM_pass h.ne k (t := 6) (by have := h.2.1; omega), near_passM h.ne]
theorem rootM_length (row : List Int) (k : Nat) : (rootM row k).length = row.length := passM_length _ _ _
theorem near_rankM {row : List Int} {k t i : Nat} (hi : i < row.length) : near (rankM row k t) (i : Int) = rkF (near row) k t (i : Int) := by
  rw [near_nat (by rw [rankM_length]; exact hi), rankM_eq, rowOf_getD hi]
theorem rank_le {a b : List Int} {k t u : Nat} (hl : a.length = b.length) (h : ∀ i, rkF (near a) k t i ≤ rkF (near b) k u i) : underB (rankM a k t) (rankM b k u) = true := by
  refine under_rows (by rw [rankM_length, rankM_length]; exact hl) (near_le (by rw [rankM_length, rankM_length]; exact hl) fun i hi => ?_)
  rw [rankM_length] at hi
  rw [rankM_eq, rankM_eq, rowOf_getD hi, rowOf_getD (by omega)]
  exact h _
end MR

namespace MR
/-! ### a value hangs on its neighbours alone -/
theorem rk_congr {f g : Int → Int} {k t : Nat} {i : Int} (h : ∀ j, i - (k : Int) ≤ j → j ≤ i + (k : Int) → f j = g j) : rkF f k t i = rkF g k t i := by
  unfold rkF
  congr 1
  refine List.map_congr_left fun j hj => h _ (by omega) ?_
  have := List.mem_range.mp hj
  omega
theorem lo_congr {f g : Int → Int} {k : Nat} {i : Int} (h : ∀ j, i - (k : Int) ≤ j → j ≤ i + (k : Int) → f j = g j) : loF f k i = loF g k i := by
  unfold loF
  congr 1
  refine List.map_congr_left fun q hq => ?_
  congr 1
  refine List.map_congr_left fun j hj => h _ (by omega) ?_
  have h1 := List.mem_range.mp hj
  have h2 := List.mem_range.mp hq
  omega
theorem up_congr {f g : Int → Int} {k : Nat} {i : Int} (h : ∀ j, i - (k : Int) ≤ j → j ≤ i + (k : Int) → f j = g j) : upF f k i = upF g k i := by
  unfold upF
  congr 1
  refine List.map_congr_left fun q hq => ?_
  congr 1
  refine List.map_congr_left fun j hj => h _ (by omega) ?_
  have h1 := List.mem_range.mp hj
  have h2 := List.mem_range.mp hq
  omega
theorem rec_congr {f g : Int → Int} {k : Nat} : ∀ (n : Nat) (i : Int), (∀ j, j ≤ i + (k : Int) → f j = g j) → recG f k n i = recG g k n i
  | 0, i, h => h i (by omega)
  | n + 1, i, h => by
    show (if i = (n : Int) then _ else _) = (if i = (n : Int) then _ else _)
    split
    · rename_i e
      subst e
      refine rk_congr fun j h1 h2 => ?_
      by_cases q : j < (n : Int)
      · exact rec_congr n j fun l hl => h l (by omega)
      · rw [recG_out (.inr (by omega)), recG_out (.inr (by omega))]
        exact h j h2
    · exact rec_congr n i h
theorem near_set {row : List Int} {a : Nat} {v j : Int} (h : (min (max j 0) ((row.length : Int) - 1)).toNat ≠ a) : near (row.set a v) j = near row j := by
  unfold near
  rw [List.length_set, List.getD_eq_getElem?_getD, List.getElem?_set_ne (by omega), List.getD_eq_getElem?_getD]
theorem set_far {row : List Int} {a i : Nat} {v : Int} {k : Nat} (ha : a < row.length) (hi : i < row.length) (h : (a : Int) + (k : Int) < (i : Int) ∨ (i : Int) + (k : Int) < (a : Int)) : ∀ j, (i : Int) - (k : Int) ≤ j → j ≤ (i : Int) + (k : Int) → near row j = near (row.set a v) j := by
  intro j h1 h2
  exact (near_set (by omega)).symm
theorem set_ahead {row : List Int} {a i : Nat} {v : Int} {k : Nat} (ha : a < row.length) (h : (i : Int) + (k : Int) < (a : Int)) : ∀ j, j ≤ (i : Int) + (k : Int) → near row j = near (row.set a v) j := by
  intro j h2
  exact (near_set (by omega)).symm
/-! ### an even stretch parts a row -/
theorem med_const {f : Int → Int} {k : Nat} {c x i : Int} (h : ∀ j, c ≤ j → j ≤ c + (k : Int) → f j = x) (h1 : c ≤ i) (h2 : i ≤ c + (k : Int)) : rkF f k k i = x := by
  have : CalmAt k f i := fun v => ⟨c, by omega, h1, fun j a b => by rw [h j a b, h i h1 h2]⟩
  rw [calmAt_med this, h i h1 h2]
theorem lo_const {f : Int → Int} {k : Nat} {c x i : Int} (h : ∀ j, c ≤ j → j ≤ c + (k : Int) → f j = x) (h1 : c ≤ i) (h2 : i ≤ c + (k : Int)) : loF f k i = x := by
  refine eq_of_le fun v => ⟨fun z => ?_, fun z => ?_⟩
  · have := Int.le_trans z (lo_le f k i)
    rw [h i h1 h2] at this
    exact this
  · exact (le_loF i v).mpr ⟨c, by omega, h1, fun j a b => by rw [h j a b]; exact z⟩
theorem up_const {f : Int → Int} {k : Nat} {c x i : Int} (h : ∀ j, c ≤ j → j ≤ c + (k : Int) → f j = x) (h1 : c ≤ i) (h2 : i ≤ c + (k : Int)) : upF f k i = x := by
  refine eq_of_le fun v => ⟨fun z => ?_, fun z => ?_⟩
  · obtain ⟨j, a, b, e⟩ := (le_upF i v).mp z c (by omega) h1
    rw [h j a b] at e
    exact e
  · have := le_up f k i
    rw [h i h1 h2] at this
    exact Int.le_trans z this
theorem rec_str {f g : Int → Int} {k : Nat} (h : RecAt f g k) {c v : Int} (hc : ∀ j, c ≤ j → j ≤ c + (k : Int) → v ≤ f j) : ∀ d : Nat, d ≤ k → v ≤ g (c + (d : Int)) := by
  intro d
  induction d using Nat.strongRecOn with
  | ind d ih =>
    intro hd
    rw [h]
    have c1 : d ≤ cnt (thr g v) (c + (d : Int) - (k : Int)) k := by
      rw [show k = (k - d) + d by omega, cnt_add]
      rw [cnt_full (n := d) fun j a b => decide_eq_true (by
        have := ih (j - c).toNat (by omega) (by omega)
        rw [show c + ((j - c).toNat : Int) = j by omega] at this
        exact this)]
      omega
    have c2 : k + 1 - d ≤ cnt (thr f v) (c + (d : Int)) (k + 1) := by
      rw [show k + 1 = (k + 1 - d) + d by omega, cnt_add, cnt_full (n := k + 1 - d) fun j a b => decide_eq_true (hc j (by omega) (by omega))]
      omega
    omega
theorem rec_const {f g : Int → Int} {k : Nat} (h : RecAt f g k) {c x i : Int} (hc : ∀ j, c ≤ j → j ≤ c + (k : Int) → f j = x) (h1 : c ≤ i) (h2 : i ≤ c + (k : Int)) : g i = x := by
  have a := rec_str h (c := c) (v := x) (fun j y z => by rw [hc j y z]; exact Int.le_refl _) (i - c).toNat (by omega)
  have b := rec_str (neg_rec h) (c := c) (v := -x) (fun j y z => by rw [hc j y z]; exact Int.le_refl _) (i - c).toNat (by omega)
  have b' : -x ≤ - g (c + ((i - c).toNat : Int)) := b
  rw [show c + ((i - c).toNat : Int) = i by omega] at a b'
  omega
/-- f: the whole; l: the part ahead, w: the part behind, from h on; from h to h + k all are x -/
structure Parts (f l w : Int → Int) (h : Int) (k : Nat) (x : Int) : Prop where
  left : ∀ j, j ≤ h + (k : Int) → f j = l j
  right : ∀ j, h ≤ j → f j = w (j - h)
  even : ∀ j, h ≤ j → j ≤ h + (k : Int) → f j = x
theorem Parts.evenL {f l w : Int → Int} {h x : Int} {k : Nat} (P : Parts f l w h k x) : ∀ j, h ≤ j → j ≤ h + (k : Int) → l j = x := fun j a b => by rw [← P.left j b]; exact P.even j a b
theorem Parts.evenR {f l w : Int → Int} {h x : Int} {k : Nat} (P : Parts f l w h k x) : ∀ j, 0 ≤ j → j ≤ 0 + (k : Int) → w j = x := fun j a b => by
  have := P.right (j + h) (by omega)
  rw [show j + h - h = j by omega] at this
  rw [← this]
  exact P.even _ (by omega) (by omega)
theorem rk_shift (f : Int → Int) (c : Int) {k t : Nat} (ht : t ≤ 2 * k) (i : Int) : rkF (fun j => f (j + c)) k t i = rkF f k t (i + c) := by
  refine eq_of_le fun v => ?_
  rw [le_rkF ht, le_rkF ht]
  rw [show thr (fun j => f (j + c)) v = fun j => thr f v (j + c) from rfl, cnt_shift, show i - (k : Int) + c = i + c - (k : Int) by omega]
theorem lo_shift (f : Int → Int) (c : Int) (k : Nat) (i : Int) : loF (fun j => f (j + c)) k i = loF f k (i + c) := by
  unfold loF
  congr 1
  refine List.map_congr_left fun q _ => ?_
  congr 1
  refine List.map_congr_left fun j _ => ?_
  show f _ = f _
  congr 1
  omega
theorem up_shift (f : Int → Int) (c : Int) (k : Nat) (i : Int) : upF (fun j => f (j + c)) k i = upF f k (i + c) := by
  unfold upF
  congr 1
  refine List.map_congr_left fun q _ => ?_
  congr 1
  refine List.map_congr_left fun j _ => ?_
  show f _ = f _
  congr 1
  omega
theorem Parts.med {f l w : Int → Int} {h x : Int} {k : Nat} (P : Parts f l w h k x) : Parts (rkF f k k) (rkF l k k) (rkF w k k) h k x where
  left := fun j hj => by
    by_cases q : j < h
    · exact rk_congr fun m a b => P.left m (by omega)
    · rw [med_const P.even (by omega) hj, med_const P.evenL (by omega) hj]
  right := fun j hj => by
    by_cases q : j ≤ h + (k : Int)
    · rw [med_const P.even hj q, med_const P.evenR (by omega) (by omega)]
    · have := rk_shift w (-h) (k := k) (t := k) (by omega) j
      rw [show j + -h = j - h by omega] at this
      rw [← this]
      exact rk_congr fun m a b => by rw [P.right m (by omega)]; rfl
  even := fun j a b => med_const P.even a b
theorem Parts.lo {f l w : Int → Int} {h x : Int} {k : Nat} (P : Parts f l w h k x) : Parts (loF f k) (loF l k) (loF w k) h k x where
  left := fun j hj => by
    by_cases q : j < h
    · exact lo_congr fun m a b => P.left m (by omega)
    · rw [lo_const P.even (by omega) hj, lo_const P.evenL (by omega) hj]
  right := fun j hj => by
    by_cases q : j ≤ h + (k : Int)
    · rw [lo_const P.even hj q, lo_const P.evenR (by omega) (by omega)]
    · have := lo_shift w (-h) k j
      rw [show j + -h = j - h by omega] at this
      rw [← this]
      exact lo_congr fun m a b => by rw [P.right m (by omega)]; rfl
  even := fun j a b => lo_const P.even a b
theorem Parts.up {f l w : Int → Int} {h x : Int} {k : Nat} (P : Parts f l w h k x) : Parts (upF f k) (upF l k) (upF w k) h k x where
  left := fun j hj => by
    by_cases q : j < h
    · exact up_congr fun m a b => P.left m (by omega)
    · rw [up_const P.even (by omega) hj, up_const P.evenL (by omega) hj]
  right := fun j hj => by
    by_cases q : j ≤ h + (k : Int)
    · rw [up_const P.even hj q, up_const P.evenR (by omega) (by omega)]
    · have := up_shift w (-h) k j
      rw [show j + -h = j - h by omega] at this
      rw [← this]
      exact up_congr fun m a b => by rw [P.right m (by omega)]; rfl
  even := fun j a b => up_const P.even a b
theorem Parts.pas {f l w : Int → Int} {h x : Int} {k : Nat} (P : Parts f l w h k x) : ∀ m, Parts (pasF f k m) (pasF l k m) (pasF w k m) h k x
  | 0 => P
  | m + 1 => (Parts.pas P m).med
/-- the recursive rows, given by their thresholds -/
theorem Parts.recR {f l w gf gw : Int → Int} {h x : Int} {k : Nat} (P : Parts f l w h k x) (Hf : RecAt f gf k) (Hw : RecAt w gw k) : ∀ j, h ≤ j → gf j = gw (j - h) := by
  have key : ∀ d : Nat, gf (h + (d : Int)) = gw (d : Int) := by
    intro d
    induction d using Nat.strongRecOn with
    | ind d ih =>
      by_cases q : d ≤ k
      · rw [rec_const Hf P.even (by omega) (by omega), rec_const Hw P.evenR (by omega) (by omega)]
      · refine eq_of_le fun v => ?_
        rw [Hf, Hw]
        have e1 : cnt (thr gf v) (h + (d : Int) - (k : Int)) k = cnt (thr gw v) ((d : Int) - (k : Int)) k := by
          have := cnt_shift (thr gw v) (-h) (h + (d : Int) - (k : Int)) k
          rw [show h + (d : Int) - (k : Int) + -h = (d : Int) - (k : Int) by omega] at this
          rw [← this]
          refine cnt_congr fun j a b => ?_
          show decide _ = decide _
          have := ih (j - h).toNat (by omega)
          rw [show h + ((j - h).toNat : Int) = j by omega] at this
          rw [this, show ((j - h).toNat : Int) = j + -h by omega]
        have e2 : cnt (thr f v) (h + (d : Int)) (k + 1) = cnt (thr w v) (d : Int) (k + 1) := by
          have := cnt_shift (thr w v) (-h) (h + (d : Int)) (k + 1)
          rw [show h + (d : Int) + -h = (d : Int) by omega] at this
          rw [← this]
          refine cnt_congr fun j a b => ?_
          show decide _ = decide _
          rw [P.right j (by omega)]
          rfl
        rw [e1, e2]
  intro j hj
  have := key (j - h).toNat
  rw [show h + ((j - h).toNat : Int) = j by omega, show ((j - h).toNat : Int) = j - h by omega] at this
  exact this
/-! ### rows joined at an even stretch -/
theorem near_app_left {a b : List Int} {j : Int} (ha : a ≠ []) (h : j < (a.length : Int)) : near (a ++ b) j = near a j := by
  have hl : 0 < a.length := List.length_pos_iff.mpr ha
  unfold near
  rw [List.length_append]
  have e : (min (max j 0) (((a.length + b.length : Nat) : Int) - 1)).toNat = (min (max j 0) ((a.length : Int) - 1)).toNat := by omega
  rw [e, List.getD_eq_getElem?_getD, List.getElem?_append_left (by omega), List.getD_eq_getElem?_getD]
theorem near_app_right {a b : List Int} {j : Int} (hb : b ≠ []) (h : (a.length : Int) ≤ j) : near (a ++ b) j = near b (j - (a.length : Int)) := by
  have hl : 0 < b.length := List.length_pos_iff.mpr hb
  unfold near
  rw [List.length_append]
  rw [List.getD_eq_getElem?_getD, List.getElem?_append_right (by omega), List.getD_eq_getElem?_getD]
  congr 2
  omega
theorem near_rep {m : Nat} {x j : Int} (h : 0 < m) : near (List.replicate m x) j = x := by
  unfold near
  rw [List.length_replicate, List.getD_eq_getElem?_getD, List.getElem?_replicate, if_pos (by omega)]
  rfl
theorem parts_of {head tail : List Int} {x : Int} {k : Nat} (hh : head ≠ []) (ht : tail ≠ []) : Parts (near (head ++ List.replicate (k + 1) x ++ tail)) (near (head ++ List.replicate (k + 1) x)) (near (List.replicate (k + 1) x ++ tail)) (head.length : Int) k x := by
  have he : List.replicate (k + 1) x ≠ [] := by simp
  have hl : ∀ j, j ≤ (head.length : Int) + (k : Int) → near (head ++ List.replicate (k + 1) x ++ tail) j = near (head ++ List.replicate (k + 1) x) j := fun j hj => near_app_left (by simp) (by rw [List.length_append, List.length_replicate]; omega)
  refine ⟨hl, fun j hj => ?_, fun j h1 h2 => ?_⟩
  · rw [List.append_assoc]
    exact near_app_right (by simp) hj
  · rw [hl j h2, near_app_right he h1, near_rep (by omega)]
end MR

namespace MR
open PySem L2
theorem flat_pas {n k : Nat} {f : Int → Int} (h : Flat n f) : ∀ m, Flat n (pasF f k m)
  | 0 => h
  | m + 1 => flat_med (flat_pas h m) k
/-- the m-th pass stays -/
def Still (row : List Int) (k m : Nat) : Prop := ∀ i, pasF (near row) k (m + 1) i = pasF (near row) k m i
theorem still_iff {row : List Int} (h0 : row ≠ []) (k m : Nat) : medianM (passM row k m) k = passM row k m ↔ Still row k m := by
  constructor
  · intro h i
    rw [← near_passM h0 k (m + 1), ← near_passM h0 k m]
    show near (medianM (passM row k m) k) i = _
    rw [h]
  · intro h
    refine near_inj (medianM_length _ _) fun i => ?_
    rw [show medianM (passM row k m) k = passM row k (m + 1) from rfl, near_passM h0, near_passM h0]
    exact h i
theorem need_le {row : List Int} (h0 : row ≠ []) {k m : Nat} (h : Still row k m) : needM row k ≤ m := by
  by_cases q : needM row k ≤ m
  · exact q
  · exact absurd ((still_iff h0 k m).mpr h) ((needM_spec h0 k).2.1 m (by omega))
theorem still_need {row : List Int} (h0 : row ≠ []) {k m : Nat} (h : needM row k ≤ m) : Still row k m := by
  refine (still_iff h0 k m).mp ?_
  have a := (needM_spec h0 k).1
  have e1 := pass_stay a (m - needM row k)
  have e2 := pass_stay a (m + 1 - needM row k)
  rw [show needM row k + (m - needM row k) = m by omega] at e1
  rw [show needM row k + (m + 1 - needM row k) = m + 1 by omega] at e2
  rw [show medianM (passM row k m) k = passM row k (m + 1) from rfl, e1, e2]
theorem need_parts {head tail : List Int} {x : Int} {k : Nat} (hh : head ≠ []) (ht : tail ≠ []) : needM (head ++ List.replicate (k + 1) x ++ tail) k = max (needM (head ++ List.replicate (k + 1) x) k) (needM (List.replicate (k + 1) x ++ tail) k) := by
  have P := parts_of (x := x) (k := k) hh ht
  have hb : head ++ List.replicate (k + 1) x ++ tail ≠ [] := by simp
  have hl : head ++ List.replicate (k + 1) x ≠ [] := by simp
  have hr : List.replicate (k + 1) x ++ tail ≠ [] := by simp
  have FL := flat_near (head ++ List.replicate (k + 1) x)
  have FR := flat_near (List.replicate (k + 1) x ++ tail)
  have e : (((head ++ List.replicate (k + 1) x).length : Nat) : Int) - 1 = (head.length : Int) + (k : Int) := by rw [List.length_append, List.length_replicate]; omega
  have iff : ∀ m, Still (head ++ List.replicate (k + 1) x ++ tail) k m ↔ Still (head ++ List.replicate (k + 1) x) k m ∧ Still (List.replicate (k + 1) x ++ tail) k m := by
    intro m
    have P0 := P.pas m
    have P1 := P.pas (m + 1)
    constructor
    · intro h
      have hL : ∀ i, i ≤ (head.length : Int) + (k : Int) → pasF (near (head ++ List.replicate (k + 1) x)) k (m + 1) i = pasF (near (head ++ List.replicate (k + 1) x)) k m i := fun i hi => by rw [← P1.left i hi, ← P0.left i hi]; exact h i
      have hR : ∀ i, 0 ≤ i → pasF (near (List.replicate (k + 1) x ++ tail)) k (m + 1) i = pasF (near (List.replicate (k + 1) x ++ tail)) k m i := fun i hi => by
        have a := P1.right (i + (head.length : Int)) (by omega)
        have b := P0.right (i + (head.length : Int)) (by omega)
        rw [show i + (head.length : Int) - (head.length : Int) = i by omega] at a b
        rw [← a, ← b]
        exact h _
      refine ⟨fun i => ?_, fun i => ?_⟩
      · by_cases q : i ≤ (head.length : Int) + (k : Int)
        · exact hL i q
        · have a := (flat_pas (k := k) FL (m + 1)).2 i (by omega)
          have b := (flat_pas (k := k) FL m).2 i (by omega)
          rw [e] at a b
          rw [a, b]
          exact hL _ (by omega)
      · by_cases q : 0 ≤ i
        · exact hR i q
        · rw [(flat_pas (k := k) FR (m + 1)).1 i (by omega), (flat_pas (k := k) FR m).1 i (by omega)]
          exact hR 0 (by omega)
    · rintro ⟨h1, h2⟩ i
      by_cases q : i ≤ (head.length : Int) + (k : Int)
      · rw [P1.left i q, P0.left i q]
        exact h1 i
      · rw [P1.right i (by omega), P0.right i (by omega)]
        exact h2 _
  refine Nat.le_antisymm (need_le hb ((iff _).mpr ⟨still_need hl (Nat.le_max_left _ _), still_need hr (Nat.le_max_right _ _)⟩)) ?_
  have := (iff _).mp (still_need hb (Nat.le_refl (needM (head ++ List.replicate (k + 1) x ++ tail) k)))
  exact Nat.max_le.mpr ⟨need_le hl this.1, need_le hr this.2⟩
/-! ### cuts of rows -/
theorem rowOf_take {n m : Nat} (F : Int → Int) (h : m ≤ n) : (rowOf n F).take m = rowOf m F := by
  unfold rowOf
  rw [← List.map_take, List.take_range, Nat.min_eq_left h]
theorem rowOf_cut {n a w : Nat} (F : Int → Int) (h : a + w ≤ n) : ((rowOf n F).drop a).take w = rowOf w fun i => F (i + (a : Int)) := by
  unfold rowOf
  rw [range_cut _ h]
  refine List.map_congr_left fun q _ => ?_
  show F _ = F _
  congr 1
  omega
theorem rowOf_drop {n a : Nat} (F : Int → Int) (h : a ≤ n) : (rowOf n F).drop a = rowOf (n - a) fun i => F (i + (a : Int)) := by
  have := rowOf_cut F (n := n) (a := a) (w := n - a) (by omega)
  rw [← this, List.take_of_length_le]
  rw [List.length_drop, rowOf_length]
  exact Nat.le_refl _
/-- what the parts of a joined row show -/
theorem parts_rows {f l w : Int → Int} {h n m : Nat} {x : Int} {k : Nat} (P : Parts f l w (h : Int) k x) (hn : h + (k + 1) ≤ n) (hm : n = h + m) : (rowOf n f).take h = (rowOf (h + (k + 1)) l).take h ∧ (rowOf n f).drop (h + (k + 1)) = (rowOf m w).drop (k + 1) ∧ ((rowOf n f).drop h).take (k + 1) = List.replicate (k + 1) x := by
  refine ⟨?_, ?_, ?_⟩
  · rw [rowOf_take f (by omega), rowOf_take l (by omega)]
    exact rowOf_congr fun i a b => P.left i (by omega)
  · rw [rowOf_drop f hn, rowOf_drop w (by omega), show n - (h + (k + 1)) = m - (k + 1) by omega]
    refine rowOf_congr fun i a b => ?_
    rw [P.right _ (by omega)]
    congr 1
    omega
  · rw [rowOf_cut f hn]
    rw [rowOf_congr (G := fun _ => x) fun i a b => P.even _ (by omega) (by omega)]
    unfold rowOf
    refine List.ext_getElem? fun j => ?_
    rw [List.getElem?_map, List.getElem?_replicate]
    by_cases q : j < k + 1
    · rw [List.getElem?_range q, if_pos q]; rfl
    · rw [List.getElem?_eq_none (by simp; omega), if_neg q]; rfl
end MR

namespace MR
open PySem L2
/-! ### rows led through a table, raised, turned, made wider -/
theorem isort_map {g : Int → Int} (hg : ∀ a b, a ≤ b → g a ≤ g b) (w : List Int) : isort (w.map g) = (isort w).map g := by
  refine (isort_eq ((isort_perm w).map g) ?_).symm
  rw [List.pairwise_map]
  exact (isort_sorted w).imp fun {a b} h => hg a b h
theorem rk_map {g : Int → Int} (hg : ∀ a b, a ≤ b → g a ≤ g b) (f : Int → Int) {k t : Nat} (ht : t ≤ 2 * k) (i : Int) : rkF (fun j => g (f j)) k t i = g (rkF f k t i) := by
  unfold rkF medAt
  rw [show ((List.range (2 * k + 1)).map fun (j : Nat) => g (f (i - (k : Int) + (j : Int)))) = ((List.range (2 * k + 1)).map fun (j : Nat) => f (i - (k : Int) + (j : Int))).map g by rw [List.map_map]; rfl, isort_map hg]
  have hl : t < (isort ((List.range (2 * k + 1)).map fun (j : Nat) => f (i - (k : Int) + (j : Int)))).length := by rw [isort_length]; simp; omega
  rw [List.getD_eq_getElem?_getD, List.getElem?_map, List.getElem?_eq_getElem hl, List.getD_eq_getElem?_getD, List.getElem?_eq_getElem hl]
  rfl
theorem lo_map {g : Int → Int} (hg : ∀ a b, a ≤ b → g a ≤ g b) (f : Int → Int) (k : Nat) (i : Int) : loF (fun j => g (f j)) k i = g (loF f k i) := by
  refine eq_of_le fun z => ?_
  constructor
  · intro h
    obtain ⟨b, h1, h2, hb⟩ := (le_loF i z).mp h
    obtain ⟨q, hq, e⟩ := List.mem_map.mp (minL_mem (range_ne (n := k) fun (j : Nat) => f (b + (j : Int))))
    have hm : minL ((List.range (k + 1)).map fun (j : Nat) => f (b + (j : Int))) ≤ loF f k i := (le_loF i _).mpr ⟨b, h1, h2, fun j a c => by
      refine minL_le (List.mem_map.mpr ⟨(j - b).toNat, by simp; omega, ?_⟩)
      rw [show b + ((j - b).toNat : Int) = j by omega]⟩
    have hq' : q ≤ k := by simp at hq; omega
    have := hb (b + (q : Int)) (by omega) (by omega)
    have h3 := hg _ _ hm
    rw [← e] at h3
    exact Int.le_trans this h3
  · intro h
    obtain ⟨b, h1, h2, hb⟩ := (le_loF (f := f) (k := k) i _).mp (Int.le_refl _)
    exact (le_loF i z).mpr ⟨b, h1, h2, fun j a c => Int.le_trans h (hg _ _ (hb j a c))⟩
theorem pas_map {g : Int → Int} (hg : ∀ a b, a ≤ b → g a ≤ g b) (f : Int → Int) (k : Nat) : ∀ (m : Nat), pasF (fun j => g (f j)) k m = fun i => g (pasF f k m i)
  | 0 => rfl
  | m + 1 => funext fun i => by
    show rkF (pasF (fun j => g (f j)) k m) k k i = g (rkF (pasF f k m) k k i)
    rw [pas_map hg f k m, rk_map hg _ (by omega)]
theorem rk_over (f : Int → Int) (k : Nat) (c i : Int) : rkF (fun j => c - f j) k k i = c - rkF f k k i := by
  refine eq_of_le fun v => ?_
  rw [le_rkF (by omega), show 2 * k + 1 - k = k + 1 by omega]
  have e := cnt_not (thr f (c + 1 - v)) (i - (k : Int)) (2 * k + 1)
  rw [show (fun j => !thr f (c + 1 - v) j) = thr (fun j => c - f j) v from funext fun j => by
    show (!decide _) = decide _
    by_cases z : v ≤ c - f j
    · rw [decide_eq_true z, decide_eq_false (by omega)]; rfl
    · rw [decide_eq_false z, decide_eq_true (by omega)]; rfl] at e
  have H := le_rkF (f := f) (k := k) (t := k) (by omega) i (c + 1 - v)
  rw [show 2 * k + 1 - k = k + 1 by omega] at H
  constructor
  · intro h
    have : ¬ c + 1 - v ≤ rkF f k k i := by rw [H]; omega
    omega
  · intro h
    have : ¬ c + 1 - v ≤ rkF f k k i := by omega
    rw [H] at this
    omega
theorem pas_over (f : Int → Int) (k : Nat) (c : Int) : ∀ (m : Nat), pasF (fun j => c - f j) k m = fun i => c - pasF f k m i
  | 0 => rfl
  | m + 1 => funext fun i => by
    show rkF (pasF (fun j => c - f j) k m) k k i = c - rkF (pasF f k m) k k i
    rw [pas_over f k c m, rk_over]
theorem pas_flip (f : Int → Int) (k : Nat) (c : Int) : ∀ (m : Nat), pasF (fun j => f (c - j)) k m = fun i => pasF f k m (c - i)
  | 0 => rfl
  | m + 1 => funext fun i => by
    show rkF (pasF (fun j => f (c - j)) k m) k k i = rkF (pasF f k m) k k (c - i)
    rw [pas_flip f k c m, rk_flip _ _ (by omega)]
theorem pas_shift (f : Int → Int) (k : Nat) (c : Int) : ∀ (m : Nat), pasF (fun j => f (j + c)) k m = fun i => pasF f k m (i + c)
  | 0 => rfl
  | m + 1 => funext fun i => by
    show rkF (pasF (fun j => f (j + c)) k m) k k i = rkF (pasF f k m) k k (i + c)
    rw [pas_shift f k c m, rk_shift _ _ (by omega)]
theorem need_of_still {a b : List Int} (ha : a ≠ []) (hb : b ≠ []) {k : Nat} (h : ∀ m, Still a k m → Still b k m) : needM b k ≤ needM a k := need_le hb (h _ (still_need ha (Nat.le_refl _)))
theorem need_map {row : List Int} (h0 : row ≠ []) {g : Int → Int} (hg : ∀ a b, a ≤ b → g a ≤ g b) (k : Nat) : needM (row.map g) k ≤ needM row k := by
  refine need_of_still h0 (by simpa using h0) fun m h i => ?_
  rw [show near (row.map g) = fun j => g (near row j) from funext fun j => near_map h0 g j, pas_map hg, pas_map hg]
  show g _ = g _
  rw [h i]
theorem need_over {row : List Int} (h0 : row ≠ []) (k : Nat) : needM (overM row) k = needM row k := by
  have h1 : overM row ≠ [] := by unfold overM; simpa using h0
  have e : near (overM row) = fun j => 9 - near row j := funext fun j => near_map h0 (fun x => 9 - x) j
  refine Nat.le_antisymm (need_of_still h0 h1 fun m h i => ?_) (need_of_still h1 h0 fun m h i => ?_)
  · rw [e, pas_over, pas_over]
    show 9 - _ = 9 - _
    rw [h i]
  · have := h i
    rw [e, pas_over, pas_over] at this
    have this : 9 - pasF (near row) k (m + 1) i = 9 - pasF (near row) k m i := this
    omega
theorem need_rev {row : List Int} (h0 : row ≠ []) (k : Nat) : needM row.reverse k = needM row k := by
  have h1 : row.reverse ≠ [] := by simpa using h0
  have e : near row.reverse = fun j => near row ((row.length : Int) - 1 - j) := funext fun j => near_rev h0 j
  refine Nat.le_antisymm (need_of_still h0 h1 fun m h i => ?_) (need_of_still h1 h0 fun m h i => ?_)
  · rw [e, pas_flip, pas_flip]
    exact h _
  · have := h ((row.length : Int) - 1 - i)
    rw [e, pas_flip, pas_flip] at this
    have this : pasF (near row) k (m + 1) ((row.length : Int) - 1 - ((row.length : Int) - 1 - i)) = pasF (near row) k m ((row.length : Int) - 1 - ((row.length : Int) - 1 - i)) := this
    rw [show (row.length : Int) - 1 - ((row.length : Int) - 1 - i) = i by omega] at this
    exact this
theorem longerM_ne {row : List Int} (h0 : row ≠ []) (c : Nat) : longerM row c ≠ [] := fun z => h0 (List.eq_nil_of_length_eq_zero (by have := longerM_length row c; rw [z] at this; simp at this; omega))
theorem near_longer {row : List Int} (h0 : row ≠ []) (c : Nat) (j : Int) : near (longerM row c) j = near row (j + -(c : Int)) := by
  have hl : 0 < row.length := List.length_pos_iff.mpr h0
  have inr : ∀ i : Nat, i < row.length + 2 * c → near (longerM row c) (i : Int) = near row ((i : Int) + -(c : Int)) := fun i hi => by
    have := longerM_get (k := c) h0 hi
    rw [near_nat (by rw [longerM_length]; exact hi), List.getD_eq_getElem?_getD, this]
    rfl
  by_cases h1 : j < 0
  · have := inr 0 (by omega)
    rw [near_low (i := j) (by omega), near_low (row := row) (i := j + -(c : Int)) (by omega)]
    rw [near_low (row := row) (i := ((0 : Nat) : Int) + -(c : Int)) (by omega)] at this
    exact this
  · by_cases h2 : j < ((row.length + 2 * c : Nat) : Int)
    · have := inr j.toNat (by omega)
      rw [Int.toNat_of_nonneg (by omega)] at this
      exact this
    · have := inr (row.length + 2 * c - 1) (by omega)
      have e1 : ((row.length + 2 * c - 1 : Nat) : Int) = ((longerM row c).length : Int) - 1 := by rw [longerM_length]; omega
      rw [near_high (row := longerM row c) (i := j) (by rw [longerM_length]; omega), ← e1, this]
      rw [near_high (row := row) (i := j + -(c : Int)) (by omega), near_high (row := row) (i := ((row.length + 2 * c - 1 : Nat) : Int) + -(c : Int)) (by omega)]
theorem median_longer {row : List Int} (h0 : row ≠ []) (c k : Nat) : medianM (longerM row c) k = longerM (medianM row k) c := by
  have h1 : medianM row k ≠ [] := fun z => h0 (List.eq_nil_of_length_eq_zero (by rw [← medianM_length row k, z]; rfl))
  refine near_inj (by rw [medianM_length, longerM_length, longerM_length, medianM_length]) fun i => ?_
  rw [near_median (longerM_ne h0 c), near_longer h1, near_median h0, ← rk_shift _ _ (by omega)]
  congr 1
  exact funext fun j => near_longer h0 c j
theorem need_longer {row : List Int} (h0 : row ≠ []) (c k : Nat) : needM (longerM row c) k = needM row k := by
  have h1 := longerM_ne h0 c
  have e : near (longerM row c) = fun j => near row (j + -(c : Int)) := funext fun j => near_longer h0 c j
  refine Nat.le_antisymm (need_of_still h0 h1 fun m h i => ?_) (need_of_still h1 h0 fun m h i => ?_)
  · rw [e, pas_shift, pas_shift]
    exact h _
  · have := h (i + (c : Int))
    rw [e, pas_shift, pas_shift] at this
    have this : pasF (near row) k (m + 1) (i + (c : Int) + -(c : Int)) = pasF (near row) k m (i + (c : Int) + -(c : Int)) := this
    rw [show i + (c : Int) + -(c : Int) = i by omega] at this
    exact this
theorem median_map {row : List Int} (h0 : row ≠ []) {g : Int → Int} (hg : ∀ a b, a ≤ b → g a ≤ g b) (k : Nat) : medianM (row.map g) k = (medianM row k).map g := by
  rw [medianM_eq, medianM_eq, map_rowOf, List.length_map]
  refine rowOf_congr fun i _ _ => ?_
  rw [show near (row.map g) = fun j => g (near row j) from funext fun j => near_map h0 g j, rk_map hg _ (by omega)]
theorem lower_map {row : List Int} (h0 : row ≠ []) {g : Int → Int} (hg : ∀ a b, a ≤ b → g a ≤ g b) (k : Nat) : lowerM (row.map g) k = (lowerM row k).map g := by
  unfold lowerM
  rw [map_rowOf, List.length_map]
  refine rowOf_congr fun i _ _ => ?_
  rw [show near (row.map g) = fun j => g (near row j) from funext fun j => near_map h0 g j, lo_map hg]
theorem median_over {row : List Int} (h0 : row ≠ []) (k : Nat) : medianM (overM row) k = overM (medianM row k) := by
  rw [medianM_eq, medianM_eq]
  unfold overM
  rw [map_rowOf, List.length_map]
  refine rowOf_congr fun i _ _ => ?_
  rw [show near (row.map fun x => 9 - x) = fun j => 9 - near row j from funext fun j => near_map h0 (fun x => 9 - x) j, rk_over]
theorem root_map {row : List Int} (h : isRow row) {g : Int → Int} (hg : ∀ a b, a ≤ b → g a ≤ g b) (hm : isRow (row.map g)) (k : Nat) : rootM (row.map g) k = (rootM row k).map g := by
  have hr : rootM row k ≠ [] := passM_ne h.ne k _
  refine near_inj (by rw [rootM_length, List.length_map, List.length_map, rootM_length]) fun i => ?_
  rw [near_root hm, near_map hr, near_root h, show near (row.map g) = fun j => g (near row j) from funext fun j => near_map h.ne g j, pas_map hg]
end MR

namespace MR
open PySem L2
/-- a def of a row and an int -/
def onRI {T : Type} (P : List Int → Int → Prop) [∀ r i, Decidable (P r i)] (f : List Int → Int → D) : List D → T → Rs T D
  | [.list ds, .int i], s => match intsOf ds with
    | some row => if P row i then .ok (f row i) s else .stuck
    | none => .stuck
  | _, _ => .stuck
theorem onRI_inv {T : Type} {P : List Int → Int → Prop} [∀ r i, Decidable (P r i)] {f : List Int → Int → D} {ds : List D} {s : T} (h : onRI P f ds s ≠ .stuck) : ∃ row i, ds = [.list (ix row), .int i] ∧ P row i ∧ onRI P f ds s = .ok (f row i) s := by
  unfold onRI at h
  split at h
  · rename_i ds i
    split at h
    · rename_i row hr
      split at h
      · rename_i hc
        refine ⟨row, i, ?_, hc, ?_⟩
        · rw [of_intsOf hr]
          rfl
        · simp only [onRI, hr]
          rw [if_pos hc]
      · exact absurd rfl h
    · exact absurd rfl h
  · exact absurd rfl h
theorem onRI_eq {T : Type} {P : List Int → Int → Prop} [∀ r i, Decidable (P r i)] {f : List Int → Int → D} {row : List Int} {i : Int} {s : T} (hp : P row i) : onRI P f [.list (ix row), .int i] s = .ok (f row i) s := by
  simp only [onRI, intsOf_ix]
  rw [if_pos hp]
section
variable {T : Type} {TB : Tab T} {r : MRho} {s : T}
def checkedD {T : Type} : List D → T → Rs T D := onR isRow fun row => .list (ix row)
def code_checked : List Cm := [.iff (.not (.call 1 [.var 0])) [.never] [], .ret (.var 0)]
theorem run_checked (ha : TB.ar 1 = 1) (h1 : TB.F 1 = isRowD) : ∀ (ds : List D) (s : T), ds.length = 1 → checkedD ds s ≠ .stuck → runD TB 1 code_checked ds s = checkedD ds s := by
  intro ds s hlen h
  obtain ⟨row, rfl, hp, e⟩ := onR_inv h
  rw [show checkedD [.list (ix row)] s = _ from e, runD_eq]
  simp only [code_checked, ha, h1, isRowD_ix, decide_eq_true hp, exSs_cons, exSs_nil, seqK_next, seqK_ret, exS_set, exS_ret, exS_exp, exS_skip, exS_never, exS_iff, ifK_b, testM_eq, testK_b, exS_app, exS_par, exS_tset, tsetK_t, exS_loop, runK_next, runK_ret, evO, evF, freshX, esc, escs, frz, ev_var, ev_lit, ev_bin, ev_neg, negK_i, ev_not, notK_b, ev_and, andK_b, ev_or, orK_b, ev_ite, iteK_b, ev_chn, chnK_le, ev_list, ev_tup, ev_idx, ev_slc, ev_rev, revK_l, ev_blt, ev_isi, isiK_s, ev_call, ev_comp, ev_compC, evs_cons, evs_nil, getV, isiD, List.length_cons, List.length_nil, List.map_cons, List.map_nil, List.replicate, List.append_eq, List.nil_append, List.cons_append, List.append_nil, List.getElem?_cons_zero, List.getElem?_cons_succ, Rs.of_some, Rs.bind_ok, Rs.bind_stuck, if_true, Bool.false_eq_true, if_false, List.set_cons_zero, List.set_cons_succ, Nat.zero_add, Nat.reduceAdd, Nat.reduceSub, add_ii, sub_ii, mul_2i, lt_ii, le_ii, gt_ii, ge_ii, len_ix, sorted_ix, sum_ix, eq_ix, ne_ix, turnE_one, turnC_one, turnC_b, turnL_one, reduceIte, Bool.not_true, Bool.not_false, Bool.true_eq_false, is_tt, isnot_tt, loopK_s, len_lit0]
def backD {T : Type} : List D → T → Rs T D := onR isRow fun row => .list (ix row.reverse)
def code_backward : List Cm := [.exp (.call 2 [.var 0]), .ret (.rev (.var 0))]
theorem run_backward (h2a : TB.ar 2 = 1) (h2 : TB.F 2 = checkRowD) : ∀ (ds : List D) (s : T), ds.length = 1 → backD ds s ≠ .stuck → runD TB 1 code_backward ds s = backD ds s := by
  intro ds s hlen h
  obtain ⟨row, rfl, hp, e⟩ := onR_inv h
  rw [show backD [.list (ix row)] s = _ from e, runD_eq]
  simp only [code_backward, h2a, h2, checkRowD_ix hp, ix_rev, exSs_cons, exSs_nil, seqK_next, seqK_ret, exS_set, exS_ret, exS_exp, exS_skip, exS_never, exS_iff, ifK_b, testM_eq, testK_b, exS_app, exS_par, exS_tset, tsetK_t, exS_loop, runK_next, runK_ret, evO, evF, freshX, esc, escs, frz, ev_var, ev_lit, ev_bin, ev_neg, negK_i, ev_not, notK_b, ev_and, andK_b, ev_or, orK_b, ev_ite, iteK_b, ev_chn, chnK_le, ev_list, ev_tup, ev_idx, ev_slc, ev_rev, revK_l, ev_blt, ev_isi, isiK_s, ev_call, ev_comp, ev_compC, evs_cons, evs_nil, getV, isiD, List.length_cons, List.length_nil, List.map_cons, List.map_nil, List.replicate, List.append_eq, List.nil_append, List.cons_append, List.append_nil, List.getElem?_cons_zero, List.getElem?_cons_succ, Rs.of_some, Rs.bind_ok, Rs.bind_stuck, if_true, Bool.false_eq_true, if_false, List.set_cons_zero, List.set_cons_succ, Nat.zero_add, Nat.reduceAdd, Nat.reduceSub, add_ii, sub_ii, mul_2i, lt_ii, le_ii, gt_ii, ge_ii, len_ix, sorted_ix, sum_ix, eq_ix, ne_ix, turnE_one, turnC_one, turnC_b, turnL_one, reduceIte, Bool.not_true, Bool.not_false, Bool.true_eq_false, is_tt, isnot_tt, loopK_s, len_lit0]
def raisedD {T : Type} : List D → T → Rs T D := onRI (fun row i => isRow row ∧ -9 ≤ i ∧ i ≤ 9 ∧ isRow (row.map fun x => x + i)) fun row i => .list (ix (row.map fun x => x + i))
def code_raised : List Cm := [.exp (.call 2 [.var 0]), .iff (.not (.call 0 [.var 1, .neg (.lit (.int 9)), .lit (.int 9)])) [.never] [], .ret (.call 59 [.comp (.bin .add (.var 2) (.var 1)) (.one 2) .seq [.var 0] none])]
theorem run_raised (h0a : TB.ar 0 = 3) (h0 : TB.F 0 = isIntD) (h2a : TB.ar 2 = 1) (h2 : TB.F 2 = checkRowD) (h59a : TB.ar 59 = 1) (h59 : TB.F 59 = checkedD) : ∀ (ds : List D) (s : T), ds.length = 2 → raisedD ds s ≠ .stuck → runD TB 3 code_raised ds s = raisedD ds s := by
  intro ds s hlen h
  obtain ⟨row, i, rfl, ⟨hp, i1, i2, hq⟩, e⟩ := onRI_inv h
  rw [show raisedD [.list (ix row), .int i] s = _ from e, runD_eq]
  have h100 := hp.small.2
  have hck : checkedD [.list (ix (row.map fun x => x + i))] s = .ok (.list (ix (row.map fun x => x + i))) s := onR_eq hq
  simp only [code_raised, h0a, h0, h2a, h2, h59a, h59, checkRowD_ix hp, isIntD_i, i1, i2, decide_true, Bool.and_self, exSs_cons, exSs_nil, seqK_next, seqK_ret, exS_set, exS_ret, exS_exp, exS_skip, exS_never, exS_iff, ifK_b, testM_eq, testK_b, exS_app, exS_par, exS_tset, tsetK_t, exS_loop, runK_next, runK_ret, evO, evF, freshX, esc, escs, frz, ev_var, ev_lit, ev_bin, ev_neg, negK_i, ev_not, notK_b, ev_and, andK_b, ev_or, orK_b, ev_ite, iteK_b, ev_chn, chnK_le, ev_list, ev_tup, ev_idx, ev_slc, ev_rev, revK_l, ev_blt, ev_isi, isiK_s, ev_call, ev_comp, ev_compC, evs_cons, evs_nil, getV, isiD, List.length_cons, List.length_nil, List.map_cons, List.map_nil, List.replicate, List.append_eq, List.nil_append, List.cons_append, List.append_nil, List.getElem?_cons_zero, List.getElem?_cons_succ, Rs.of_some, Rs.bind_ok, Rs.bind_stuck, if_true, Bool.false_eq_true, if_false, List.set_cons_zero, List.set_cons_succ, Nat.zero_add, Nat.reduceAdd, Nat.reduceSub, add_ii, sub_ii, mul_2i, lt_ii, le_ii, gt_ii, ge_ii, len_ix, sorted_ix, sum_ix, eq_ix, ne_ix, turnE_one, turnC_one, turnC_b, turnL_one, reduceIte, Bool.not_true, Bool.not_false, Bool.true_eq_false, is_tt, isnot_tt, loopK_s, len_lit0]
  rw [run_seq (xs := row) (fun x => x + i) (by omega) (by simp only [exSs_cons, exSs_nil, seqK_next, seqK_ret, exS_set, exS_ret, exS_exp, exS_skip, exS_never, exS_iff, ifK_b, testM_eq, testK_b, exS_app, exS_par, exS_tset, tsetK_t, exS_loop, runK_next, runK_ret, evO, evF, freshX, esc, escs, frz, ev_var, ev_lit, ev_bin, ev_neg, negK_i, ev_not, notK_b, ev_and, andK_b, ev_or, orK_b, ev_ite, iteK_b, ev_chn, chnK_le, ev_list, ev_tup, ev_idx, ev_slc, ev_rev, revK_l, ev_blt, ev_isi, isiK_s, ev_call, ev_comp, ev_compC, evs_cons, evs_nil, getV, isiD, List.length_cons, List.length_nil, List.map_cons, List.map_nil, List.replicate, List.append_eq, List.nil_append, List.cons_append, List.append_nil, List.getElem?_cons_zero, List.getElem?_cons_succ, Rs.of_some, Rs.bind_ok, Rs.bind_stuck, if_true, Bool.false_eq_true, if_false, List.set_cons_zero, List.set_cons_succ, Nat.zero_add, Nat.reduceAdd, Nat.reduceSub, add_ii, sub_ii, mul_2i, lt_ii, le_ii, gt_ii, ge_ii, len_ix, sorted_ix, sum_ix, eq_ix, ne_ix, turnE_one, turnC_one, turnC_b, turnL_one, reduceIte, Bool.not_true, Bool.not_false, Bool.true_eq_false, is_tt, isnot_tt, loopK_s, len_lit0]) (fun x hx => by simp only [exSs_cons, exSs_nil, seqK_next, seqK_ret, exS_set, exS_ret, exS_exp, exS_skip, exS_never, exS_iff, ifK_b, testM_eq, testK_b, exS_app, exS_par, exS_tset, tsetK_t, exS_loop, runK_next, runK_ret, evO, evF, freshX, esc, escs, frz, ev_var, ev_lit, ev_bin, ev_neg, negK_i, ev_not, notK_b, ev_and, andK_b, ev_or, orK_b, ev_ite, iteK_b, ev_chn, chnK_le, ev_list, ev_tup, ev_idx, ev_slc, ev_rev, revK_l, ev_blt, ev_isi, isiK_s, ev_call, ev_comp, ev_compC, evs_cons, evs_nil, getV, isiD, List.length_cons, List.length_nil, List.map_cons, List.map_nil, List.replicate, List.append_eq, List.nil_append, List.cons_append, List.append_nil, List.getElem?_cons_zero, List.getElem?_cons_succ, Rs.of_some, Rs.bind_ok, Rs.bind_stuck, if_true, Bool.false_eq_true, if_false, List.set_cons_zero, List.set_cons_succ, Nat.zero_add, Nat.reduceAdd, Nat.reduceSub, add_ii, sub_ii, mul_2i, lt_ii, le_ii, gt_ii, ge_ii, len_ix, sorted_ix, sum_ix, eq_ix, ne_ix, turnE_one, turnC_one, turnC_b, turnL_one, reduceIte, Bool.not_true, Bool.not_false, Bool.true_eq_false, is_tt, isnot_tt, loopK_s, len_lit0])]
  simp only [hck, exSs_cons, exSs_nil, seqK_next, seqK_ret, exS_set, exS_ret, exS_exp, exS_skip, exS_never, exS_iff, ifK_b, testM_eq, testK_b, exS_app, exS_par, exS_tset, tsetK_t, exS_loop, runK_next, runK_ret, evO, evF, freshX, esc, escs, frz, ev_var, ev_lit, ev_bin, ev_neg, negK_i, ev_not, notK_b, ev_and, andK_b, ev_or, orK_b, ev_ite, iteK_b, ev_chn, chnK_le, ev_list, ev_tup, ev_idx, ev_slc, ev_rev, revK_l, ev_blt, ev_isi, isiK_s, ev_call, ev_comp, ev_compC, evs_cons, evs_nil, getV, isiD, List.length_cons, List.length_nil, List.map_cons, List.map_nil, List.replicate, List.append_eq, List.nil_append, List.cons_append, List.append_nil, List.getElem?_cons_zero, List.getElem?_cons_succ, Rs.of_some, Rs.bind_ok, Rs.bind_stuck, if_true, Bool.false_eq_true, if_false, List.set_cons_zero, List.set_cons_succ, Nat.zero_add, Nat.reduceAdd, Nat.reduceSub, add_ii, sub_ii, mul_2i, lt_ii, le_ii, gt_ii, ge_ii, len_ix, sorted_ix, sum_ix, eq_ix, ne_ix, turnE_one, turnC_one, turnC_b, turnL_one, reduceIte, Bool.not_true, Bool.not_false, Bool.true_eq_false, is_tt, isnot_tt, loopK_s, len_lit0]
def wideD {T : Type} : List D → T → Rs T D := onRI (fun row i => isRow row ∧ 0 ≤ i ∧ i ≤ 11 ∧ (row.length : Int) + 2 * i ≤ 12) fun row i => .list (ix (longerM row i.toNat))
theorem isRow_longer {row : List Int} (h : isRow row) {c : Nat} (hc : row.length + 2 * c ≤ 12) : isRow (longerM row c) := by
  refine ⟨by rw [longerM_length]; have := h.1; omega, by rw [longerM_length]; exact hc, fun x hx => ?_⟩
  unfold longerM at hx
  rcases List.mem_append.mp hx with hx | hx
  · rcases List.mem_append.mp hx with hx | hx
    · rw [List.eq_of_mem_replicate hx]; exact isRow_near h _
    · exact h.2.2 x hx
  · rw [List.eq_of_mem_replicate hx]; exact isRow_near h _
theorem longer_ops {row : List Int} (h0 : row ≠ []) (h100 : row.length ≤ 100) {c : Nat} (hc : c ≤ 100) : opD .add (.list (ix (List.replicate c (near row 0)))) (.list (ix row)) = some (.list (ix (List.replicate c (near row 0) ++ row))) ∧ opD .add (.list (ix (List.replicate c (near row 0) ++ row))) (.list (ix (List.replicate c (near row ((row.length : Int) - 1))))) = some (.list (ix (longerM row c))) := by
  constructor
  · exact cat_ix (by rw [List.length_replicate]; omega)
  · rw [cat_ix (by rw [List.length_append, List.length_replicate, List.length_replicate]; omega)]
    rfl
def code_with_ends : List Cm := [.exp (.call 2 [.var 0]), .iff (.not (.call 0 [.var 1, .lit (.int 0), .lit (.int 11)])) [.never] [], .ret (.call 59 [.bin .add (.bin .add (.bin .mul (.list [.idx (.var 0) (.lit (.int 0))]) (.var 1)) (.var 0)) (.bin .mul (.list [.idx (.var 0) (.neg (.lit (.int 1)))]) (.var 1))])]
theorem run_with_ends (h0a : TB.ar 0 = 3) (h0 : TB.F 0 = isIntD) (h2a : TB.ar 2 = 1) (h2 : TB.F 2 = checkRowD) (h59a : TB.ar 59 = 1) (h59 : TB.F 59 = checkedD) : ∀ (ds : List D) (s : T), ds.length = 2 → wideD ds s ≠ .stuck → runD TB 2 code_with_ends ds s = wideD ds s := by
  intro ds s hlen h
  obtain ⟨row, i, rfl, ⟨hp, i1, i2, i3⟩, e⟩ := onRI_inv h
  rw [show wideD [.list (ix row), .int i] s = _ from e, runD_eq]
  obtain ⟨c, rfl⟩ : ∃ c : Nat, i = (c : Int) := ⟨i.toNat, by omega⟩
  rw [Int.toNat_natCast]
  have h00 := hp.ne
  have h100 := hp.small.2
  have hck : checkedD [.list (ix (longerM row c))] s = .ok (.list (ix (longerM row c))) s := onR_eq (isRow_longer hp (by omega))
  obtain ⟨o1, o2⟩ := longer_ops h00 h100 (c := c) (by omega)
  simp only [code_with_ends, h0a, h0, h2a, h2, h59a, h59, checkRowD_ix hp, isIntD_i, i1, i2, decide_true, Bool.and_self, idx_first h00, idx_last h00, one_lim, rep_one _ c (by omega), o1, o2, hck, exSs_cons, exSs_nil, seqK_next, seqK_ret, exS_set, exS_ret, exS_exp, exS_skip, exS_never, exS_iff, ifK_b, testM_eq, testK_b, exS_app, exS_par, exS_tset, tsetK_t, exS_loop, runK_next, runK_ret, evO, evF, freshX, esc, escs, frz, ev_var, ev_lit, ev_bin, ev_neg, negK_i, ev_not, notK_b, ev_and, andK_b, ev_or, orK_b, ev_ite, iteK_b, ev_chn, chnK_le, ev_list, ev_tup, ev_idx, ev_slc, ev_rev, revK_l, ev_blt, ev_isi, isiK_s, ev_call, ev_comp, ev_compC, evs_cons, evs_nil, getV, isiD, List.length_cons, List.length_nil, List.map_cons, List.map_nil, List.replicate, List.append_eq, List.nil_append, List.cons_append, List.append_nil, List.getElem?_cons_zero, List.getElem?_cons_succ, Rs.of_some, Rs.bind_ok, Rs.bind_stuck, if_true, Bool.false_eq_true, if_false, List.set_cons_zero, List.set_cons_succ, Nat.zero_add, Nat.reduceAdd, Nat.reduceSub, add_ii, sub_ii, mul_2i, lt_ii, le_ii, gt_ii, ge_ii, len_ix, sorted_ix, sum_ix, eq_ix, ne_ix, turnE_one, turnC_one, turnC_b, turnL_one, reduceIte, Bool.not_true, Bool.not_false, Bool.true_eq_false, is_tt, isnot_tt, loopK_s, len_lit0]
/-! ### a table -/
def isTab (tb : List Int) : Prop := tb.length = 10 ∧ (∀ x ∈ tb, 0 ≤ x ∧ x ≤ 9) ∧ tb.Pairwise (· ≤ ·)
instance (tb : List Int) : Decidable (isTab tb) := by unfold isTab; infer_instance
def ledD {T : Type} : List D → T → Rs T D
  | [.list ds, .tuple es], s => match intsOf ds, intsOf es with
    | some row, some tb => if isRow row ∧ isTab tb then .ok (.list (ix (row.map (near tb)))) s else .stuck
    | _, _ => .stuck
  | _, _ => .stuck
theorem ledD_eq {row tb : List Int} (h1 : isRow row) (h2 : isTab tb) : ledD [.list (ix row), .tuple (ix tb)] s = .ok (.list (ix (row.map (near tb)))) s := by
  simp only [ledD, intsOf_ix]
  rw [if_pos ⟨h1, h2⟩]
theorem ledD_inv {ds : List D} {s : T} (h : ledD ds s ≠ .stuck) : ∃ row tb, ds = [.list (ix row), .tuple (ix tb)] ∧ isRow row ∧ isTab tb ∧ ledD ds s = .ok (.list (ix (row.map (near tb)))) s := by
  unfold ledD at h
  split at h
  · rename_i ds es
    split at h
    · rename_i a b ha hb
      split at h
      · rename_i hc
        refine ⟨a, b, ?_, hc.1, hc.2, ?_⟩
        · rw [of_intsOf ha, of_intsOf hb]
          rfl
        · simp only [ledD, ha, hb]
          rw [if_pos hc]
      · exact absurd rfl h
    · exact absurd rfl h
  · exact absurd rfl h
theorem idx_tix {xs : List Int} {j : Nat} (h : j < xs.length) : idxD (.tuple (ix xs)) (.int (j : Int)) = some (.int (xs.getD j 0)) := idx_ix h
theorem isTab_mono {tb : List Int} (h : isTab tb) : ∀ a b, a ≤ b → near tb a ≤ near tb b := by
  intro a b hab
  have hl := h.1
  unfold near
  rw [hl]
  have e1 : (min (max a 0) (((10 : Nat) : Int) - 1)).toNat < tb.length := by omega
  have e2 : (min (max b 0) (((10 : Nat) : Int) - 1)).toNat < tb.length := by omega
  rw [List.getD_eq_getElem?_getD, List.getElem?_eq_getElem e1, List.getD_eq_getElem?_getD, List.getElem?_eq_getElem e2]
  show tb[_] ≤ tb[_]
  by_cases q : (min (max a 0) (((10 : Nat) : Int) - 1)).toNat = (min (max b 0) (((10 : Nat) : Int) - 1)).toNat
  · simp only [q]; exact Int.le_refl _
  · exact List.pairwise_iff_getElem.mp h.2.2 _ _ e1 e2 (by omega)
theorem isTab_val {tb : List Int} (h : isTab tb) (i : Int) : 0 ≤ near tb i ∧ near tb i ≤ 9 := by
  have hl := h.1
  unfold near
  rw [hl]
  have e1 : (min (max i 0) (((10 : Nat) : Int) - 1)).toNat < tb.length := by omega
  rw [List.getD_eq_getElem?_getD, List.getElem?_eq_getElem e1]
  exact h.2.1 _ (List.getElem_mem _)
theorem isRow_led {row tb : List Int} (h : isRow row) (h2 : isTab tb) : isRow (row.map (near tb)) := by
  refine ⟨by rw [List.length_map]; exact h.1, by rw [List.length_map]; exact h.2.1, fun x hx => ?_⟩
  obtain ⟨y, _, rfl⟩ := List.mem_map.mp hx
  exact isTab_val h2 y
/-- [table[value] for value in row] -/
theorem run_led_comp {elt : Xp} {tg : Tg} {src : List Xp} {row tb : List Int} (h1 : isRow row) (h2 : isTab tb) (hs : evs TB true r src s = .ok [.list (ix row)] s) (he : ∀ x, turnE TB r tg elt (.int x) s = (Rs.of (idxD (.tuple (ix tb)) (.int x)) s).bind fun y s2 => .ok (some y) s2) : compF TB .seq src r (turnE TB r tg elt) s = .ok (ix (row.map (near tb))) s := by
  have h100 := h1.small.2
  refine run_seq (near tb) (by omega) hs fun x hx => ?_
  have hx := h1.2.2 x hx
  obtain ⟨n, rfl⟩ : ∃ n : Nat, x = (n : Int) := ⟨x.toNat, by omega⟩
  rw [he, idx_tix (by rw [h2.1]; omega), ← near_nat (by rw [h2.1]; omega)]
  rfl
theorem all_true (n : Nat) : bltD .all [.list ((List.range n).map fun _ => PyData.bool true)] = some (.bool true) := by
  have : boolsOf ((List.range n).map fun _ => PyData.bool true) = some ((List.range n).map fun _ => true) := by
    induction n with
    | zero => rfl
    | succ n ih =>
      rw [show (List.range (n + 1)).map (fun _ => PyData.bool true) = PyData.bool true :: (List.range n).map (fun _ => PyData.bool true) by
        rw [List.range_succ_eq_map, List.map_cons, List.map_map]; rfl]
      rw [show (List.range (n + 1)).map (fun _ => true) = true :: (List.range n).map (fun _ => true) by
        rw [List.range_succ_eq_map, List.map_cons, List.map_map]; rfl]
      simp only [boolsOf, ih]
      rfl
  simp only [bltD, this]
  simp
def code_led : List Cm := [.exp (.call 2 [.var 0]), .iff (.or (.not (.isi .tuple (.var 1))) (.bin .ne (.blt .len [.var 1]) (.bin .add (.lit (.int 9)) (.lit (.int 1))))) [.never] [], .iff (.not (.blt .all [.comp (.call 0 [.var 2, .lit (.int 0), .lit (.int 9)]) (.one 2) .seq [.var 1] none])) [.never] [], .iff (.not (.blt .all [.comp (.bin .le (.idx (.var 1) (.var 3)) (.idx (.var 1) (.bin .add (.var 3) (.lit (.int 1))))) (.one 3) .rng [.lit (.int 9)] none])) [.never] [], .ret (.comp (.idx (.var 1) (.var 2)) (.one 2) .seq [.var 0] none)]
theorem run_led (h0a : TB.ar 0 = 3) (h0 : TB.F 0 = isIntD) (h2a : TB.ar 2 = 1) (h2 : TB.F 2 = checkRowD) : ∀ (ds : List D) (s : T), ds.length = 2 → ledD ds s ≠ .stuck → runD TB 4 code_led ds s = ledD ds s := by
  intro ds s hlen h
  obtain ⟨row, tb, rfl, hp, ht, e⟩ := ledD_inv h
  rw [e, runD_eq]
  have hl := ht.1
  have elen : bltD .len [.tuple (ix tb)] = some (.int 10) := by
    simp only [bltD, ix_length, hl]
    rfl
  simp only [code_led, h0a, h0, h2a, h2, checkRowD_ix hp, elen, ne_ii, show decide ((10 : Int) = 9 + 1) = true from rfl, exSs_cons, exSs_nil, seqK_next, seqK_ret, exS_set, exS_ret, exS_exp, exS_skip, exS_never, exS_iff, ifK_b, testM_eq, testK_b, exS_app, exS_par, exS_tset, tsetK_t, exS_loop, runK_next, runK_ret, evO, evF, freshX, esc, escs, frz, ev_var, ev_lit, ev_bin, ev_neg, negK_i, ev_not, notK_b, ev_and, andK_b, ev_or, orK_b, ev_ite, iteK_b, ev_chn, chnK_le, ev_list, ev_tup, ev_idx, ev_slc, ev_rev, revK_l, ev_blt, ev_isi, isiK_s, ev_call, ev_comp, ev_compC, evs_cons, evs_nil, getV, isiD, List.length_cons, List.length_nil, List.map_cons, List.map_nil, List.replicate, List.append_eq, List.nil_append, List.cons_append, List.append_nil, List.getElem?_cons_zero, List.getElem?_cons_succ, Rs.of_some, Rs.bind_ok, Rs.bind_stuck, if_true, Bool.false_eq_true, if_false, List.set_cons_zero, List.set_cons_succ, Nat.zero_add, Nat.reduceAdd, Nat.reduceSub, add_ii, sub_ii, mul_2i, lt_ii, le_ii, gt_ii, ge_ii, len_ix, sorted_ix, sum_ix, eq_ix, ne_ix, turnE_one, turnC_one, turnC_b, turnL_one, reduceIte, Bool.not_true, Bool.not_false, Bool.true_eq_false, is_tt, isnot_tt, loopK_s, len_lit0]
  have c1 : ∀ r2 : MRho, r2 = [.val (.list (ix row)), .val (.tuple (ix tb)), .un, .un] → compF TB .seq [.var 1] r2 (turnE TB r2 (.one 2) (.call 0 [.var 2, .lit (.int 0), .lit (.int 9)])) s = .ok ((List.range 10).map fun _ => PyData.bool true) s := by
    intro r2 er
    subst er
    refine compF_of (ss := [.tuple (ix tb)]) (by simp only [exSs_cons, exSs_nil, seqK_next, seqK_ret, exS_set, exS_ret, exS_exp, exS_skip, exS_never, exS_iff, ifK_b, testM_eq, testK_b, exS_app, exS_par, exS_tset, tsetK_t, exS_loop, runK_next, runK_ret, evO, evF, freshX, esc, escs, frz, ev_var, ev_lit, ev_bin, ev_neg, negK_i, ev_not, notK_b, ev_and, andK_b, ev_or, orK_b, ev_ite, iteK_b, ev_chn, chnK_le, ev_list, ev_tup, ev_idx, ev_slc, ev_rev, revK_l, ev_blt, ev_isi, isiK_s, ev_call, ev_comp, ev_compC, evs_cons, evs_nil, getV, isiD, List.length_cons, List.length_nil, List.map_cons, List.map_nil, List.replicate, List.append_eq, List.nil_append, List.cons_append, List.append_nil, List.getElem?_cons_zero, List.getElem?_cons_succ, Rs.of_some, Rs.bind_ok, Rs.bind_stuck, if_true, Bool.false_eq_true, if_false, List.set_cons_zero, List.set_cons_succ, Nat.zero_add, Nat.reduceAdd, Nat.reduceSub, add_ii, sub_ii, mul_2i, lt_ii, le_ii, gt_ii, ge_ii, len_ix, sorted_ix, sum_ix, eq_ix, ne_ix, turnE_one, turnC_one, turnC_b, turnL_one, reduceIte, Bool.not_true, Bool.not_false, Bool.true_eq_false, is_tt, isnot_tt, loopK_s, len_lit0]) rfl (by rw [ix_length, hl]; exact lim_ok (by omega)) ?_
    show compM _ (tb.map PyData.int) _ = _
    rw [compM_map (g := fun _ => PyData.bool true) fun x hx => ?_]
    · rw [show (List.range 10) = List.range tb.length by rw [hl]]
      congr 1
      refine List.ext_getElem? fun j => ?_
      rw [List.getElem?_map, List.getElem?_map]
      by_cases q : j < tb.length
      · rw [List.getElem?_eq_getElem q, List.getElem?_range q]; rfl
      · rw [List.getElem?_eq_none (by omega), List.getElem?_eq_none (by simp; omega)]; rfl
    · have hx := ht.2.1 x hx
      simp only [h0a, h0, isIntD_i, hx.1, hx.2, decide_true, Bool.and_self, exSs_cons, exSs_nil, seqK_next, seqK_ret, exS_set, exS_ret, exS_exp, exS_skip, exS_never, exS_iff, ifK_b, testM_eq, testK_b, exS_app, exS_par, exS_tset, tsetK_t, exS_loop, runK_next, runK_ret, evO, evF, freshX, esc, escs, frz, ev_var, ev_lit, ev_bin, ev_neg, negK_i, ev_not, notK_b, ev_and, andK_b, ev_or, orK_b, ev_ite, iteK_b, ev_chn, chnK_le, ev_list, ev_tup, ev_idx, ev_slc, ev_rev, revK_l, ev_blt, ev_isi, isiK_s, ev_call, ev_comp, ev_compC, evs_cons, evs_nil, getV, isiD, List.length_cons, List.length_nil, List.map_cons, List.map_nil, List.replicate, List.append_eq, List.nil_append, List.cons_append, List.append_nil, List.getElem?_cons_zero, List.getElem?_cons_succ, Rs.of_some, Rs.bind_ok, Rs.bind_stuck, if_true, Bool.false_eq_true, if_false, List.set_cons_zero, List.set_cons_succ, Nat.zero_add, Nat.reduceAdd, Nat.reduceSub, add_ii, sub_ii, mul_2i, lt_ii, le_ii, gt_ii, ge_ii, len_ix, sorted_ix, sum_ix, eq_ix, ne_ix, turnE_one, turnC_one, turnC_b, turnL_one, reduceIte, Bool.not_true, Bool.not_false, Bool.true_eq_false, is_tt, isnot_tt, loopK_s, len_lit0]
  rw [c1 _ rfl]
  simp only [all_true, exSs_cons, exSs_nil, seqK_next, seqK_ret, exS_set, exS_ret, exS_exp, exS_skip, exS_never, exS_iff, ifK_b, testM_eq, testK_b, exS_app, exS_par, exS_tset, tsetK_t, exS_loop, runK_next, runK_ret, evO, evF, freshX, esc, escs, frz, ev_var, ev_lit, ev_bin, ev_neg, negK_i, ev_not, notK_b, ev_and, andK_b, ev_or, orK_b, ev_ite, iteK_b, ev_chn, chnK_le, ev_list, ev_tup, ev_idx, ev_slc, ev_rev, revK_l, ev_blt, ev_isi, isiK_s, ev_call, ev_comp, ev_compC, evs_cons, evs_nil, getV, isiD, List.length_cons, List.length_nil, List.map_cons, List.map_nil, List.replicate, List.append_eq, List.nil_append, List.cons_append, List.append_nil, List.getElem?_cons_zero, List.getElem?_cons_succ, Rs.of_some, Rs.bind_ok, Rs.bind_stuck, if_true, Bool.false_eq_true, if_false, List.set_cons_zero, List.set_cons_succ, Nat.zero_add, Nat.reduceAdd, Nat.reduceSub, add_ii, sub_ii, mul_2i, lt_ii, le_ii, gt_ii, ge_ii, len_ix, sorted_ix, sum_ix, eq_ix, ne_ix, turnE_one, turnC_one, turnC_b, turnL_one, reduceIte, Bool.not_true, Bool.not_false, Bool.true_eq_false, is_tt, isnot_tt, loopK_s, len_lit0]
  rw [run_rngD (n := 9) (m := 9) (fun _ => PyData.bool true) (by omega) (by simp only [exSs_cons, exSs_nil, seqK_next, seqK_ret, exS_set, exS_ret, exS_exp, exS_skip, exS_never, exS_iff, ifK_b, testM_eq, testK_b, exS_app, exS_par, exS_tset, tsetK_t, exS_loop, runK_next, runK_ret, evO, evF, freshX, esc, escs, frz, ev_var, ev_lit, ev_bin, ev_neg, negK_i, ev_not, notK_b, ev_and, andK_b, ev_or, orK_b, ev_ite, iteK_b, ev_chn, chnK_le, ev_list, ev_tup, ev_idx, ev_slc, ev_rev, revK_l, ev_blt, ev_isi, isiK_s, ev_call, ev_comp, ev_compC, evs_cons, evs_nil, getV, isiD, List.length_cons, List.length_nil, List.map_cons, List.map_nil, List.replicate, List.append_eq, List.nil_append, List.cons_append, List.append_nil, List.getElem?_cons_zero, List.getElem?_cons_succ, Rs.of_some, Rs.bind_ok, Rs.bind_stuck, if_true, Bool.false_eq_true, if_false, List.set_cons_zero, List.set_cons_succ, Nat.zero_add, Nat.reduceAdd, Nat.reduceSub, add_ii, sub_ii, mul_2i, lt_ii, le_ii, gt_ii, ge_ii, len_ix, sorted_ix, sum_ix, eq_ix, ne_ix, turnE_one, turnC_one, turnC_b, turnL_one, reduceIte, Bool.not_true, Bool.not_false, Bool.true_eq_false, is_tt, isnot_tt, loopK_s, len_lit0]) rfl (fun i hi => ?_)]
  · simp only [all_true, exSs_cons, exSs_nil, seqK_next, seqK_ret, exS_set, exS_ret, exS_exp, exS_skip, exS_never, exS_iff, ifK_b, testM_eq, testK_b, exS_app, exS_par, exS_tset, tsetK_t, exS_loop, runK_next, runK_ret, evO, evF, freshX, esc, escs, frz, ev_var, ev_lit, ev_bin, ev_neg, negK_i, ev_not, notK_b, ev_and, andK_b, ev_or, orK_b, ev_ite, iteK_b, ev_chn, chnK_le, ev_list, ev_tup, ev_idx, ev_slc, ev_rev, revK_l, ev_blt, ev_isi, isiK_s, ev_call, ev_comp, ev_compC, evs_cons, evs_nil, getV, isiD, List.length_cons, List.length_nil, List.map_cons, List.map_nil, List.replicate, List.append_eq, List.nil_append, List.cons_append, List.append_nil, List.getElem?_cons_zero, List.getElem?_cons_succ, Rs.of_some, Rs.bind_ok, Rs.bind_stuck, if_true, Bool.false_eq_true, if_false, List.set_cons_zero, List.set_cons_succ, Nat.zero_add, Nat.reduceAdd, Nat.reduceSub, add_ii, sub_ii, mul_2i, lt_ii, le_ii, gt_ii, ge_ii, len_ix, sorted_ix, sum_ix, eq_ix, ne_ix, turnE_one, turnC_one, turnC_b, turnL_one, reduceIte, Bool.not_true, Bool.not_false, Bool.true_eq_false, is_tt, isnot_tt, loopK_s, len_lit0]
    rw [run_led_comp hp ht (by simp only [exSs_cons, exSs_nil, seqK_next, seqK_ret, exS_set, exS_ret, exS_exp, exS_skip, exS_never, exS_iff, ifK_b, testM_eq, testK_b, exS_app, exS_par, exS_tset, tsetK_t, exS_loop, runK_next, runK_ret, evO, evF, freshX, esc, escs, frz, ev_var, ev_lit, ev_bin, ev_neg, negK_i, ev_not, notK_b, ev_and, andK_b, ev_or, orK_b, ev_ite, iteK_b, ev_chn, chnK_le, ev_list, ev_tup, ev_idx, ev_slc, ev_rev, revK_l, ev_blt, ev_isi, isiK_s, ev_call, ev_comp, ev_compC, evs_cons, evs_nil, getV, isiD, List.length_cons, List.length_nil, List.map_cons, List.map_nil, List.replicate, List.append_eq, List.nil_append, List.cons_append, List.append_nil, List.getElem?_cons_zero, List.getElem?_cons_succ, Rs.of_some, Rs.bind_ok, Rs.bind_stuck, if_true, Bool.false_eq_true, if_false, List.set_cons_zero, List.set_cons_succ, Nat.zero_add, Nat.reduceAdd, Nat.reduceSub, add_ii, sub_ii, mul_2i, lt_ii, le_ii, gt_ii, ge_ii, len_ix, sorted_ix, sum_ix, eq_ix, ne_ix, turnE_one, turnC_one, turnC_b, turnL_one, reduceIte, Bool.not_true, Bool.not_false, Bool.true_eq_false, is_tt, isnot_tt, loopK_s, len_lit0]) (fun x => by simp only [exSs_cons, exSs_nil, seqK_next, seqK_ret, exS_set, exS_ret, exS_exp, exS_skip, exS_never, exS_iff, ifK_b, testM_eq, testK_b, exS_app, exS_par, exS_tset, tsetK_t, exS_loop, runK_next, runK_ret, evO, evF, freshX, esc, escs, frz, ev_var, ev_lit, ev_bin, ev_neg, negK_i, ev_not, notK_b, ev_and, andK_b, ev_or, orK_b, ev_ite, iteK_b, ev_chn, chnK_le, ev_list, ev_tup, ev_idx, ev_slc, ev_rev, revK_l, ev_blt, ev_isi, isiK_s, ev_call, ev_comp, ev_compC, evs_cons, evs_nil, getV, isiD, List.length_cons, List.length_nil, List.map_cons, List.map_nil, List.replicate, List.append_eq, List.nil_append, List.cons_append, List.append_nil, List.getElem?_cons_zero, List.getElem?_cons_succ, Rs.of_some, Rs.bind_ok, Rs.bind_stuck, if_true, Bool.false_eq_true, if_false, List.set_cons_zero, List.set_cons_succ, Nat.zero_add, Nat.reduceAdd, Nat.reduceSub, add_ii, sub_ii, mul_2i, lt_ii, le_ii, gt_ii, ge_ii, len_ix, sorted_ix, sum_ix, eq_ix, ne_ix, turnE_one, turnC_one, turnC_b, turnL_one, reduceIte, Bool.not_true, Bool.not_false, Bool.true_eq_false, is_tt, isnot_tt, loopK_s, len_lit0])]
    simp only [exSs_cons, exSs_nil, seqK_next, seqK_ret, exS_set, exS_ret, exS_exp, exS_skip, exS_never, exS_iff, ifK_b, testM_eq, testK_b, exS_app, exS_par, exS_tset, tsetK_t, exS_loop, runK_next, runK_ret, evO, evF, freshX, esc, escs, frz, ev_var, ev_lit, ev_bin, ev_neg, negK_i, ev_not, notK_b, ev_and, andK_b, ev_or, orK_b, ev_ite, iteK_b, ev_chn, chnK_le, ev_list, ev_tup, ev_idx, ev_slc, ev_rev, revK_l, ev_blt, ev_isi, isiK_s, ev_call, ev_comp, ev_compC, evs_cons, evs_nil, getV, isiD, List.length_cons, List.length_nil, List.map_cons, List.map_nil, List.replicate, List.append_eq, List.nil_append, List.cons_append, List.append_nil, List.getElem?_cons_zero, List.getElem?_cons_succ, Rs.of_some, Rs.bind_ok, Rs.bind_stuck, if_true, Bool.false_eq_true, if_false, List.set_cons_zero, List.set_cons_succ, Nat.zero_add, Nat.reduceAdd, Nat.reduceSub, add_ii, sub_ii, mul_2i, lt_ii, le_ii, gt_ii, ge_ii, len_ix, sorted_ix, sum_ix, eq_ix, ne_ix, turnE_one, turnC_one, turnC_b, turnL_one, reduceIte, Bool.not_true, Bool.not_false, Bool.true_eq_false, is_tt, isnot_tt, loopK_s, len_lit0]
  · have e0 : (0 : Int) + (i : Int) = (i : Int) := by omega
    have e1 : (i : Int) + 1 = ((i + 1 : Nat) : Int) := by omega
    have hm := isTab_mono ht (i : Int) ((i + 1 : Nat) : Int) (by omega)
    rw [near_nat (by omega), near_nat (by omega)] at hm
    simp only [e0, e1, idx_tix (show i < tb.length by omega), idx_tix (show i + 1 < tb.length by omega), decide_eq_true hm, exSs_cons, exSs_nil, seqK_next, seqK_ret, exS_set, exS_ret, exS_exp, exS_skip, exS_never, exS_iff, ifK_b, testM_eq, testK_b, exS_app, exS_par, exS_tset, tsetK_t, exS_loop, runK_next, runK_ret, evO, evF, freshX, esc, escs, frz, ev_var, ev_lit, ev_bin, ev_neg, negK_i, ev_not, notK_b, ev_and, andK_b, ev_or, orK_b, ev_ite, iteK_b, ev_chn, chnK_le, ev_list, ev_tup, ev_idx, ev_slc, ev_rev, revK_l, ev_blt, ev_isi, isiK_s, ev_call, ev_comp, ev_compC, evs_cons, evs_nil, getV, isiD, List.length_cons, List.length_nil, List.map_cons, List.map_nil, List.replicate, List.append_eq, List.nil_append, List.cons_append, List.append_nil, List.getElem?_cons_zero, List.getElem?_cons_succ, Rs.of_some, Rs.bind_ok, Rs.bind_stuck, if_true, Bool.false_eq_true, if_false, List.set_cons_zero, List.set_cons_succ, Nat.zero_add, Nat.reduceAdd, Nat.reduceSub, add_ii, sub_ii, mul_2i, lt_ii, le_ii, gt_ii, ge_ii, len_ix, sorted_ix, sum_ix, eq_ix, ne_ix, turnE_one, turnC_one, turnC_b, turnL_one, reduceIte, Bool.not_true, Bool.not_false, Bool.true_eq_false, is_tt, isnot_tt, loopK_s, len_lit0]
end
end MR

namespace MR
/-! ### levels -/
def ind (t x : Int) : Int := if t ≤ x then 1 else 0
theorem ind_mono (t a b : Int) (h : a ≤ b) : ind t a ≤ ind t b := by
  unfold ind
  split <;> split <;> omega
theorem ind_bd (t x : Int) : 0 ≤ ind t x ∧ ind t x ≤ 1 := by
  unfold ind
  split <;> omega
theorem ind_le (t u x : Int) (h : t ≤ u) : ind u x ≤ ind t x := by
  unfold ind
  split <;> split <;> omega
theorem ind_eq {t x y : Int} : ind t x = ind t y ↔ (t ≤ x ↔ t ≤ y) := by
  unfold ind
  split <;> split <;> omega
def levM (row : List Int) (t : Int) : List Int := row.map (ind t)
theorem levM_length (row : List Int) (t : Int) : (levM row t).length = row.length := List.length_map _
theorem isRow_lev {row : List Int} (h : isRow row) (t : Int) : isRow (levM row t) := by
  refine ⟨by rw [levM_length]; exact h.1, by rw [levM_length]; exact h.2.1, fun x hx => ?_⟩
  obtain ⟨y, _, rfl⟩ := List.mem_map.mp hx
  have := ind_bd t y
  omega
theorem up_map {g : Int → Int} (hg : ∀ a b, a ≤ b → g a ≤ g b) (f : Int → Int) (k : Nat) (i : Int) : upF (fun j => g (f j)) k i = g (upF f k i) := by
  have h := lo_map (g := fun x => - g (-x)) (fun a b hab => by have := hg (-b) (-a) (by omega); omega) (fun j => - f j) k i
  have e : (fun j => (fun x => - g (-x)) ((fun j => - f j) j)) = fun j => - g (f j) := funext fun j => by
    show - g (- - f j) = - g (f j)
    rw [Int.neg_neg]
  rw [e, neg_lo, neg_lo] at h
  have h : - upF (fun j => g (f j)) k i = - g (- - upF f k i) := h
  rw [Int.neg_neg] at h
  omega
theorem rec_map {g : Int → Int} (hg : ∀ a b, a ≤ b → g a ≤ g b) (f : Int → Int) (k : Nat) : ∀ n, recG (fun j => g (f j)) k n = fun i => g (recG f k n i)
  | 0 => rfl
  | n + 1 => funext fun i => by
    show (if i = (n : Int) then _ else _) = g (if i = (n : Int) then _ else _)
    rw [rec_map hg f k n]
    split
    · exact rk_map hg _ (by omega) _
    · rfl
theorem lev_median {row : List Int} (h0 : row ≠ []) (t : Int) (k : Nat) : medianM (levM row t) k = levM (medianM row k) t := median_map h0 (ind_mono t) k
theorem lev_lower {row : List Int} (h0 : row ≠ []) (t : Int) (k : Nat) : lowerM (levM row t) k = levM (lowerM row k) t := lower_map h0 (ind_mono t) k
theorem lev_upper {row : List Int} (h0 : row ≠ []) (t : Int) (k : Nat) : upperM (levM row t) k = levM (upperM row k) t := by
  unfold upperM levM
  rw [map_rowOf, List.length_map]
  refine rowOf_congr fun i _ _ => ?_
  rw [show near (row.map (ind t)) = fun j => ind t (near row j) from funext fun j => near_map h0 _ j, up_map (ind_mono t)]
theorem lev_rec {row : List Int} (h0 : row ≠ []) (t : Int) (k : Nat) : recM (levM row t) k = levM (recM row k) t := by
  unfold recM levM
  rw [map_rowOf, List.length_map]
  refine rowOf_congr fun i _ _ => ?_
  rw [show near (row.map (ind t)) = fun j => ind t (near row j) from funext fun j => near_map h0 _ j, rec_map (ind_mono t)]
/-- the rows of the levels 1 .. m -/
def levsM (row : List Int) (m : Nat) : List (List Int) := (List.range m).map fun (q : Nat) => levM row (1 + (q : Int))
theorem ind_sum (x : Int) (h0 : 0 ≤ x) : ∀ m : Nat, ((List.range m).map fun (q : Nat) => ind (1 + (q : Int)) x).sum = min x (m : Int)
  | 0 => by simp; omega
  | m + 1 => by
    rw [List.range_succ, List.map_append, List.sum_append, ind_sum x h0 m]
    unfold ind
    simp only [List.map_cons, List.map_nil, List.sum_cons, List.sum_nil]
    split <;> omega
/-! ### short stretches -/
def shS (b : List Int) (k : Nat) : Nat → List (Int × Int) × Int
  | 0 => ([], 0)
  | j + 1 => if b.getD (j + 1) 0 = b.getD j 0 then shS b k j else
      (if 0 < (shS b k j).2 ∧ ((j + 1 : Nat) : Int) - (shS b k j).2 ≤ (k : Int) then (shS b k j).1 ++ [((shS b k j).2, ((j + 1 : Nat) : Int) - (shS b k j).2)] else (shS b k j).1, ((j + 1 : Nat) : Int))
def shortM (b : List Int) (k : Nat) : List (Int × Int) := (shS b k (b.length - 1)).1
theorem sh_grow (b : List Int) (k : Nat) : ∀ {j m : Nat}, j ≤ m → (shS b k j).1 ≠ [] → (shS b k m).1 ≠ []
  | j, 0, h, z => by rw [show j = 0 by omega] at z; exact z
  | j, m + 1, h, z => by
    by_cases e : j = m + 1
    · rw [← e]; exact z
    · have ih := sh_grow b k (j := j) (m := m) (by omega) z
      unfold shS
      split
      · exact ih
      · show (if _ then _ else _) ≠ []
        split
        · simp
        · exact ih
/-- the run at j began at the first place -/
theorem sh_run (b : List Int) (k : Nat) : ∀ j : Nat, 0 ≤ (shS b k j).2 ∧ (shS b k j).2 ≤ (j : Int) ∧ (∀ l : Nat, (shS b k j).2 ≤ (l : Int) → l ≤ j → b.getD l 0 = b.getD j 0) ∧ (0 < (shS b k j).2 → b.getD ((shS b k j).2 - 1).toNat 0 ≠ b.getD j 0)
  | 0 => ⟨Int.le_refl 0, Int.le_refl 0, fun l _ h => by rw [show l = 0 by omega], fun h => absurd h (by show ¬ (0 : Int) < 0; omega)⟩
  | j + 1 => by
    obtain ⟨h1, h2, h3, h4⟩ := sh_run b k j
    unfold shS
    split
    · rename_i e
      refine ⟨h1, by omega, fun l x y => ?_, fun z => by rw [e]; exact h4 z⟩
      by_cases q : l = j + 1
      · rw [q]
      · rw [e]; exact h3 l x (by omega)
    · rename_i e
      refine ⟨by show (0 : Int) ≤ ((j + 1 : Nat) : Int); omega, by show ((j + 1 : Nat) : Int) ≤ _; omega, fun l x y => ?_, fun _ => ?_⟩
      · have x : ((j + 1 : Nat) : Int) ≤ (l : Int) := x
        rw [show l = j + 1 by omega]
      · show b.getD (((j + 1 : Nat) : Int) - 1).toNat 0 ≠ _
        rw [show (((j + 1 : Nat) : Int) - 1).toNat = j by omega]
        exact fun z => e z.symm
theorem sh_first (b : List Int) (k : Nat) {s : Nat} (hs : 0 < s) (hc : b.getD s 0 ≠ b.getD (s - 1) 0) : ∀ d : Nat, (∀ l : Nat, s ≤ l → l ≤ s + d → b.getD l 0 = b.getD s 0) → (shS b k (s + d)).2 = (s : Int)
  | 0, _ => by
    obtain ⟨s', rfl⟩ : ∃ s', s = s' + 1 := ⟨s - 1, by omega⟩
    rw [Nat.add_zero]
    unfold shS
    rw [Nat.add_sub_cancel] at hc
    rw [if_neg hc]
  | d + 1, h => by
    have ih := sh_first b k hs hc d fun l x y => h l x (by omega)
    rw [show s + (d + 1) = (s + d) + 1 by omega]
    unfold shS
    rw [if_pos (by rw [h (s + d + 1) (by omega) (by omega), h (s + d) (by omega) (by omega)])]
    exact ih
/-- no short stretch: calm at this threshold -/
theorem short_calm {b : List Int} (h0 : b ≠ []) {k : Nat} : shortM b k = [] ↔ ∀ i, ∃ c, i - (k : Int) ≤ c ∧ c ≤ i ∧ ∀ j, c ≤ j → j ≤ c + (k : Int) → near b j = near b i := by
  have hl : 0 < b.length := List.length_pos_iff.mpr h0
  have F := flat_near b
  have nn : ∀ j : Nat, j < b.length → near b (j : Int) = b.getD j 0 := fun j hj => near_nat hj
  constructor
  · intro hE
    have step : ∀ m : Nat, ∃ c, (m : Int) - (k : Int) ≤ c ∧ c ≤ (m : Int) ∧ ∀ j, c ≤ j → j ≤ c + (k : Int) → near b j = near b (m : Int) := by
      intro m
      induction m with
      | zero => exact ⟨0 - (k : Int), by omega, by omega, fun j x y => by rw [F.1 j (by omega)]; rfl⟩
      | succ m ih =>
        obtain ⟨c, h1, h2, hc⟩ := ih
        by_cases e : near b ((m + 1 : Nat) : Int) = near b (m : Int)
        · by_cases q : ((m + 1 : Nat) : Int) - (k : Int) ≤ c
          · exact ⟨c, q, by omega, fun j x y => by rw [e]; exact hc j x y⟩
          · refine ⟨((m + 1 : Nat) : Int) - (k : Int), by omega, by omega, fun j x y => ?_⟩
            by_cases z : j = ((m + 1 : Nat) : Int)
            · rw [z]
            · rw [e]; exact hc j (by omega) (by omega)
        · -- a change: the run from m + 1 on is long
          have hm : m + 1 < b.length := by
            by_cases z : m + 1 < b.length
            · exact z
            · exact absurd ((F.2 ((m + 1 : Nat) : Int) (by omega)).trans (F.2 (m : Int) (by omega)).symm) e
          refine ⟨((m + 1 : Nat) : Int), by omega, by omega, ?_⟩
          have run : ∀ d : Nat, d ≤ k → ∀ l : Nat, m + 1 ≤ l → l ≤ m + 1 + d → near b (l : Int) = near b ((m + 1 : Nat) : Int) := by
            intro d
            induction d with
            | zero => intro _ l x y; rw [show l = m + 1 by omega]
            | succ d ihd =>
              intro hd l x y
              by_cases q : l ≤ m + 1 + d
              · exact ihd (by omega) l x q
              · have el : l = m + 1 + d + 1 := by omega
                subst el
                by_cases z : m + 1 + d + 1 < b.length
                · by_cases w : near b ((m + 1 + d + 1 : Nat) : Int) = near b ((m + 1 : Nat) : Int)
                  · exact w
                  · exfalso
                    have fi := sh_first b k (s := m + 1) (by omega) (by rw [Nat.add_sub_cancel, ← nn (m + 1) hm, ← nn m (by omega)]; exact e) d (fun l x y => by
                      rw [← nn l (by omega), ← nn (m + 1) hm]
                      exact ihd (by omega) l x y)
                    have hne : b.getD (m + 1 + d + 1) 0 ≠ b.getD (m + 1 + d) 0 := by
                      rw [← nn _ z, ← nn (m + 1 + d) (by omega), ihd (by omega) (m + 1 + d) (by omega) (by omega)]
                      exact w
                    have : (shS b k (m + 1 + d + 1)).1 ≠ [] := by
                      unfold shS
                      rw [if_neg hne]
                      show (if _ then _ else _) ≠ []
                      rw [if_pos ⟨by rw [fi]; omega, by rw [fi]; omega⟩]
                      simp
                    exact sh_grow b k (m := b.length - 1) (by omega) this hE
                · have a1 := F.2 ((m + 1 + d + 1 : Nat) : Int) (by omega)
                  have a2 := F.2 ((m + 1 + d : Nat) : Int) (by omega)
                  rw [a1, ← a2]
                  exact ihd (by omega) (m + 1 + d) (by omega) (by omega)
          intro j x y
          have := run k (Nat.le_refl k) j.toNat (by omega) (by omega)
          rw [Int.toNat_of_nonneg (by omega)] at this
          exact this
    intro i
    by_cases hi : i ≤ 0
    · exact ⟨i - (k : Int), by omega, by omega, fun j x y => by rw [F.1 j (by omega), F.1 i hi]⟩
    · have := step i.toNat
      rw [Int.toNat_of_nonneg (by omega)] at this
      exact this
  · intro H
    have : ∀ j : Nat, j ≤ b.length - 1 → (shS b k j).1 = [] := by
      intro j
      induction j with
      | zero => intro _; rfl
      | succ j ih =>
        intro hj
        unfold shS
        split
        · exact ih (by omega)
        · rename_i e
          show (if _ then _ else _) = []
          split
          · rename_i hc
            exfalso
            obtain ⟨h1, h2, h3, h4⟩ := sh_run b k j
            generalize (shS b k j).2 = fi at *
            obtain ⟨f, rfl⟩ : ∃ f : Nat, fi = (f : Int) := ⟨fi.toNat, by omega⟩
            obtain ⟨c, x, y, hcc⟩ := H (f : Int)
            have hfj : near b (f : Int) = b.getD j 0 := by rw [nn f (by omega)]; exact h3 f (by omega) (by omega)
            have hf1 : near b (((f : Int) - 1).toNat : Int) ≠ b.getD j 0 := by rw [nn _ (by omega)]; exact h4 hc.1
            rw [show (((f : Int) - 1).toNat : Int) = (f : Int) - 1 by omega] at hf1
            by_cases q : c ≤ (f : Int) - 1
            · exact hf1 ((hcc _ q (by omega)).trans hfj)
            · have := (hcc ((j + 1 : Nat) : Int) (by omega) (by omega)).trans hfj
              rw [nn (j + 1) (by omega)] at this
              exact e this
          · exact ih (by omega)
    exact this _ (Nat.le_refl _)
/-- no level has a short stretch: a root -/
theorem short_root {row : List Int} (h : isRow row) {k : Nat} : (∀ q : Nat, q < 9 → shortM (levM row (1 + (q : Int))) k = []) ↔ medianM row k = row := by
  have h0 := h.ne
  have hn : ∀ t, levM row t ≠ [] := fun t => (isRow_lev h t).ne
  have nl : ∀ t j, near (levM row t) j = ind t (near row j) := fun t j => near_map h0 (ind t) j
  constructor
  · intro H
    refine median_calm fun i v => ?_
    by_cases a : v ≤ 0
    · exact ⟨i, by omega, by omega, fun j _ _ => ⟨fun _ => by have := (isRow_near h i).1; omega, fun _ => by have := (isRow_near h j).1; omega⟩⟩
    · by_cases c : v ≤ 9
      · have := (short_calm (hn v) (k := k)).mp (by
          have := H (v - 1).toNat (by omega)
          rw [show 1 + ((v - 1).toNat : Int) = v by omega] at this
          exact this) i
        obtain ⟨c, x, y, hc⟩ := this
        refine ⟨c, x, y, fun j p q => ?_⟩
        have := hc j p q
        rw [nl, nl] at this
        exact ind_eq.mp this
      · exact ⟨i, by omega, by omega, fun j _ _ => ⟨fun z => by have := (isRow_near h j).2; omega, fun z => by have := (isRow_near h i).2; omega⟩⟩
  · intro H q _
    refine (short_calm (hn _) (k := k)).mpr fun i => ?_
    obtain ⟨c, x, y, hc⟩ := row_calm h0 H i (1 + (q : Int))
    refine ⟨c, x, y, fun j p r => ?_⟩
    rw [nl, nl]
    exact ind_eq.mpr (hc j p r)
end MR

namespace MR
open PySem L2
section
variable {T : Type} {TB : Tab T} {r : MRho} {s : T}
/-- lists of bools -/
def bx (bs : List Bool) : List D := bs.map PyData.bool
theorem boolsOf_bx : ∀ bs : List Bool, boolsOf (bx bs) = some bs
  | [] => rfl
  | b :: bs => by
    show (boolsOf (bx bs)).map (b :: ·) = _
    rw [boolsOf_bx bs]
    rfl
theorem all_bx (bs : List Bool) : bltD .all [.list (bx bs)] = some (.bool (bs.all id)) := by simp only [bltD, boolsOf_bx]
theorem any_bx (bs : List Bool) : bltD .any [.list (bx bs)] = some (.bool (bs.any id)) := by simp only [bltD, boolsOf_bx]
theorem turnE_two (i j : Nat) (elt : Xp) (x y : D) : turnE TB r (.two i j) elt (.tuple [x, y]) s = (ev TB false ((((r.set j .un).set i .un).set i (.val x)).set j (.val y)) elt s).bind fun x s2 => .ok (some x) s2 := Eq.trans rfl rfl
theorem zip_ix : ∀ (xs ys : List Int), zipD (ix xs) (ix ys) = (xs.zip ys).map fun p => PyData.tuple [.int p.1, .int p.2]
  | [], _ => by simp [ix, zipD]
  | _ :: _, [] => by simp [ix, zipD]
  | x :: xs, y :: ys => by
    rw [ix_cons, ix_cons, zipD, zip_ix xs ys]
    rfl
/-- [.. for a, b in zip(xs, ys)] -/
theorem run_zip {elt : Xp} {tg : Tg} {src : List Xp} {xs ys : List Int} (F : Int → Int → D) (hl : xs.length ≤ 1000) (hs : evs TB true r src s = .ok [.list (ix xs), .list (ix ys)] s) (he : ∀ a b, turnE TB r tg elt (.tuple [.int a, .int b]) s = .ok (some (F a b)) s) : compF TB .zip src r (turnE TB r tg elt) s = .ok ((xs.zip ys).map fun p => F p.1 p.2) s := by
  refine compF_of hs rfl ?_ ?_
  · rw [zip_ix, List.length_map, List.length_zip]
    exact lim_ok (by omega)
  · rw [zip_ix, compM_map (g := fun (p : Int × Int) => F p.1 p.2) fun p _ => he p.1 p.2]
/-- [.. for q in range(1, n + 1)] of any values -/
theorem run_rng1D {elt : Xp} {tg : Tg} {src : List Xp} {n : Nat} {m : Int} (F : Nat → D) (hl : n ≤ 1000) (hs : evs TB true r src s = .ok [.int 1, .int m] s) (hm : m = (n : Int) + 1) (he : ∀ i, i < n → turnE TB r tg elt (.int (1 + (i : Int))) s = .ok (some (F i)) s) : compF TB .rng src r (turnE TB r tg elt) s = .ok ((List.range n).map F) s := by
  subst hm
  refine compF_of hs (src_rng2' (by omega) (by omega) (by omega) (by omega)) (by rw [upto_length]; exact lim_ok (by omega)) ?_
  rw [show ((n : Int) + 1 - 1).toNat = n by omega, upto_map, compM_map (g := F) fun i hi => he i (by simpa using hi)]
/-- [.. for x in rows] -/
theorem run_rows {elt : Xp} {tg : Tg} {src : List Xp} {xs : List (List Int)} (F : List Int → D) (hl : xs.length ≤ 1000) (hs : evs TB true r src s = .ok [.list (lx xs)] s) (he : ∀ x, x ∈ xs → turnE TB r tg elt (.list (ix x)) s = .ok (some (F x)) s) : compF TB .seq src r (turnE TB r tg elt) s = .ok (xs.map F) s := by
  refine compF_of hs rfl (by rw [lx_length]; exact lim_ok hl) ?_
  show compM _ (xs.map fun x => PyData.list (ix x)) _ = _
  rw [compM_map (g := F) fun x hx => he x hx]
theorem lx_map (xs : List (List Int)) (F : List Int → List Int) : (xs.map fun x => PyData.list (ix (F x))) = lx (xs.map F) := by
  unfold lx
  rw [List.map_map]
  rfl
theorem lx_rng (n : Nat) (F : Nat → List Int) : ((List.range n).map fun x => PyData.list (ix (F x))) = lx ((List.range n).map F) := by
  unfold lx
  rw [List.map_map]
  rfl
/-! ### levels -/
theorem ite_ind {x t : Int} : (if decide (t ≤ x) = true then Rs.ok (PyData.int 1) s else Rs.ok (PyData.int 0) s) = Rs.ok (PyData.int (ind t x)) s := by
  unfold ind
  by_cases q : t ≤ x
  · rw [decide_eq_true q, if_pos q]; rfl
  · rw [decide_eq_false q, if_neg q]; rfl
def levelD {T : Type} : List D → T → Rs T D := onRI (fun row _ => row.length ≤ 100) fun row t => .list (ix (levM row t))
def code_level : List Cm := [.ret (.comp (.ite (.bin .ge (.var 2) (.var 1)) (.lit (.int 1)) (.lit (.int 0))) (.one 2) .seq [.var 0] none)]
theorem run_level : ∀ (ds : List D) (s : T), ds.length = 2 → levelD ds s ≠ .stuck → runD TB 3 code_level ds s = levelD ds s := by
  intro ds s hlen h
  obtain ⟨row, t, rfl, hp, e⟩ := onRI_inv h
  rw [show levelD [.list (ix row), .int t] s = _ from e, runD_eq]
  simp only [code_level, exSs_cons, exSs_nil, seqK_next, seqK_ret, exS_set, exS_ret, exS_exp, exS_skip, exS_never, exS_iff, ifK_b, testM_eq, testK_b, exS_app, exS_par, exS_tset, tsetK_t, exS_loop, runK_next, runK_ret, evO, evF, freshX, esc, escs, frz, ev_var, ev_lit, ev_bin, ev_neg, negK_i, ev_not, notK_b, ev_and, andK_b, ev_or, orK_b, ev_ite, iteK_b, ev_chn, chnK_le, ev_list, ev_tup, ev_idx, ev_slc, ev_rev, revK_l, ev_blt, ev_isi, isiK_s, ev_call, ev_comp, ev_compC, evs_cons, evs_nil, getV, isiD, List.length_cons, List.length_nil, List.map_cons, List.map_nil, List.replicate, List.append_eq, List.nil_append, List.cons_append, List.append_nil, List.getElem?_cons_zero, List.getElem?_cons_succ, Rs.of_some, Rs.bind_ok, Rs.bind_stuck, if_true, Bool.false_eq_true, if_false, List.set_cons_zero, List.set_cons_succ, Nat.zero_add, Nat.reduceAdd, Nat.reduceSub, add_ii, sub_ii, mul_2i, lt_ii, le_ii, gt_ii, ge_ii, len_ix, sorted_ix, sum_ix, eq_ix, ne_ix, turnE_one, turnC_one, turnC_b, turnL_one, reduceIte, Bool.not_true, Bool.not_false, Bool.true_eq_false, is_tt, isnot_tt, loopK_s, len_lit0]
  rw [run_seq (xs := row) (ind t) (by omega) (by simp only [exSs_cons, exSs_nil, seqK_next, seqK_ret, exS_set, exS_ret, exS_exp, exS_skip, exS_never, exS_iff, ifK_b, testM_eq, testK_b, exS_app, exS_par, exS_tset, tsetK_t, exS_loop, runK_next, runK_ret, evO, evF, freshX, esc, escs, frz, ev_var, ev_lit, ev_bin, ev_neg, negK_i, ev_not, notK_b, ev_and, andK_b, ev_or, orK_b, ev_ite, iteK_b, ev_chn, chnK_le, ev_list, ev_tup, ev_idx, ev_slc, ev_rev, revK_l, ev_blt, ev_isi, isiK_s, ev_call, ev_comp, ev_compC, evs_cons, evs_nil, getV, isiD, List.length_cons, List.length_nil, List.map_cons, List.map_nil, List.replicate, List.append_eq, List.nil_append, List.cons_append, List.append_nil, List.getElem?_cons_zero, List.getElem?_cons_succ, Rs.of_some, Rs.bind_ok, Rs.bind_stuck, if_true, Bool.false_eq_true, if_false, List.set_cons_zero, List.set_cons_succ, Nat.zero_add, Nat.reduceAdd, Nat.reduceSub, add_ii, sub_ii, mul_2i, lt_ii, le_ii, gt_ii, ge_ii, len_ix, sorted_ix, sum_ix, eq_ix, ne_ix, turnE_one, turnC_one, turnC_b, turnL_one, reduceIte, Bool.not_true, Bool.not_false, Bool.true_eq_false, is_tt, isnot_tt, loopK_s, len_lit0]) (fun x hx => by simp only [ite_ind, exSs_cons, exSs_nil, seqK_next, seqK_ret, exS_set, exS_ret, exS_exp, exS_skip, exS_never, exS_iff, ifK_b, testM_eq, testK_b, exS_app, exS_par, exS_tset, tsetK_t, exS_loop, runK_next, runK_ret, evO, evF, freshX, esc, escs, frz, ev_var, ev_lit, ev_bin, ev_neg, negK_i, ev_not, notK_b, ev_and, andK_b, ev_or, orK_b, ev_ite, iteK_b, ev_chn, chnK_le, ev_list, ev_tup, ev_idx, ev_slc, ev_rev, revK_l, ev_blt, ev_isi, isiK_s, ev_call, ev_comp, ev_compC, evs_cons, evs_nil, getV, isiD, List.length_cons, List.length_nil, List.map_cons, List.map_nil, List.replicate, List.append_eq, List.nil_append, List.cons_append, List.append_nil, List.getElem?_cons_zero, List.getElem?_cons_succ, Rs.of_some, Rs.bind_ok, Rs.bind_stuck, if_true, Bool.false_eq_true, if_false, List.set_cons_zero, List.set_cons_succ, Nat.zero_add, Nat.reduceAdd, Nat.reduceSub, add_ii, sub_ii, mul_2i, lt_ii, le_ii, gt_ii, ge_ii, len_ix, sorted_ix, sum_ix, eq_ix, ne_ix, turnE_one, turnC_one, turnC_b, turnL_one, reduceIte, Bool.not_true, Bool.not_false, Bool.true_eq_false, is_tt, isnot_tt, loopK_s, len_lit0])]
  simp only [exSs_cons, exSs_nil, seqK_next, seqK_ret, exS_set, exS_ret, exS_exp, exS_skip, exS_never, exS_iff, ifK_b, testM_eq, testK_b, exS_app, exS_par, exS_tset, tsetK_t, exS_loop, runK_next, runK_ret, evO, evF, freshX, esc, escs, frz, ev_var, ev_lit, ev_bin, ev_neg, negK_i, ev_not, notK_b, ev_and, andK_b, ev_or, orK_b, ev_ite, iteK_b, ev_chn, chnK_le, ev_list, ev_tup, ev_idx, ev_slc, ev_rev, revK_l, ev_blt, ev_isi, isiK_s, ev_call, ev_comp, ev_compC, evs_cons, evs_nil, getV, isiD, List.length_cons, List.length_nil, List.map_cons, List.map_nil, List.replicate, List.append_eq, List.nil_append, List.cons_append, List.append_nil, List.getElem?_cons_zero, List.getElem?_cons_succ, Rs.of_some, Rs.bind_ok, Rs.bind_stuck, if_true, Bool.false_eq_true, if_false, List.set_cons_zero, List.set_cons_succ, Nat.zero_add, Nat.reduceAdd, Nat.reduceSub, add_ii, sub_ii, mul_2i, lt_ii, le_ii, gt_ii, ge_ii, len_ix, sorted_ix, sum_ix, eq_ix, ne_ix, turnE_one, turnC_one, turnC_b, turnL_one, reduceIte, Bool.not_true, Bool.not_false, Bool.true_eq_false, is_tt, isnot_tt, loopK_s, len_lit0]
  rfl
theorem levelD_eq {row : List Int} {t : Int} (h : isRow row) : levelD [.list (ix row), .int t] s = .ok (.list (ix (levM row t))) s := onRI_eq (by have := h.2.1; omega)
def atLevelD {T : Type} : List D → T → Rs T D := onRI (fun row t => isRow row ∧ 1 ≤ t ∧ t ≤ 9) fun row t => .list (ix (levM row t))
def code_at_level : List Cm := [.exp (.call 2 [.var 0]), .iff (.not (.call 0 [.var 1, .lit (.int 1), .lit (.int 9)])) [.never] [], .ret (.call 34 [.var 0, .var 1])]
theorem run_at_level (h0a : TB.ar 0 = 3) (h0 : TB.F 0 = isIntD) (h2a : TB.ar 2 = 1) (h2 : TB.F 2 = checkRowD) (h34a : TB.ar 34 = 2) (h34 : TB.F 34 = levelD) : ∀ (ds : List D) (s : T), ds.length = 2 → atLevelD ds s ≠ .stuck → runD TB 2 code_at_level ds s = atLevelD ds s := by
  intro ds s hlen h
  obtain ⟨row, t, rfl, ⟨hp, t1, t2⟩, e⟩ := onRI_inv h
  rw [show atLevelD [.list (ix row), .int t] s = _ from e, runD_eq]
  simp only [code_at_level, h0a, h0, h2a, h2, h34a, h34, checkRowD_ix hp, isIntD_i, t1, t2, decide_true, Bool.and_self, levelD_eq hp, exSs_cons, exSs_nil, seqK_next, seqK_ret, exS_set, exS_ret, exS_exp, exS_skip, exS_never, exS_iff, ifK_b, testM_eq, testK_b, exS_app, exS_par, exS_tset, tsetK_t, exS_loop, runK_next, runK_ret, evO, evF, freshX, esc, escs, frz, ev_var, ev_lit, ev_bin, ev_neg, negK_i, ev_not, notK_b, ev_and, andK_b, ev_or, orK_b, ev_ite, iteK_b, ev_chn, chnK_le, ev_list, ev_tup, ev_idx, ev_slc, ev_rev, revK_l, ev_blt, ev_isi, isiK_s, ev_call, ev_comp, ev_compC, evs_cons, evs_nil, getV, isiD, List.length_cons, List.length_nil, List.map_cons, List.map_nil, List.replicate, List.append_eq, List.nil_append, List.cons_append, List.append_nil, List.getElem?_cons_zero, List.getElem?_cons_succ, Rs.of_some, Rs.bind_ok, Rs.bind_stuck, if_true, Bool.false_eq_true, if_false, List.set_cons_zero, List.set_cons_succ, Nat.zero_add, Nat.reduceAdd, Nat.reduceSub, add_ii, sub_ii, mul_2i, lt_ii, le_ii, gt_ii, ge_ii, len_ix, sorted_ix, sum_ix, eq_ix, ne_ix, turnE_one, turnC_one, turnC_b, turnL_one, reduceIte, Bool.not_true, Bool.not_false, Bool.true_eq_false, is_tt, isnot_tt, loopK_s, len_lit0]
def allLevD {T : Type} : List D → T → Rs T D := onR isRow fun row => .list (lx (levsM row (maxL row).toNat))
def code_all_levels : List Cm := [.exp (.call 2 [.var 0]), .ret (.comp (.call 34 [.var 0, .var 1]) (.one 1) .rng [.lit (.int 1), .bin .add (.blt .max [.var 0]) (.lit (.int 1))] none)]
theorem run_all_levels (h2a : TB.ar 2 = 1) (h2 : TB.F 2 = checkRowD) (h34a : TB.ar 34 = 2) (h34 : TB.F 34 = levelD) : ∀ (ds : List D) (s : T), ds.length = 1 → allLevD ds s ≠ .stuck → runD TB 2 code_all_levels ds s = allLevD ds s := by
  intro ds s hlen h
  obtain ⟨row, rfl, hp, e⟩ := onR_inv h
  rw [show allLevD [.list (ix row)] s = _ from e, runD_eq]
  have hM := hp.2.2 _ (maxL_mem hp.ne)
  simp only [code_all_levels, h2a, h2, checkRowD_ix hp, exSs_cons, exSs_nil, seqK_next, seqK_ret, exS_set, exS_ret, exS_exp, exS_skip, exS_never, exS_iff, ifK_b, testM_eq, testK_b, exS_app, exS_par, exS_tset, tsetK_t, exS_loop, runK_next, runK_ret, evO, evF, freshX, esc, escs, frz, ev_var, ev_lit, ev_bin, ev_neg, negK_i, ev_not, notK_b, ev_and, andK_b, ev_or, orK_b, ev_ite, iteK_b, ev_chn, chnK_le, ev_list, ev_tup, ev_idx, ev_slc, ev_rev, revK_l, ev_blt, ev_isi, isiK_s, ev_call, ev_comp, ev_compC, evs_cons, evs_nil, getV, isiD, List.length_cons, List.length_nil, List.map_cons, List.map_nil, List.replicate, List.append_eq, List.nil_append, List.cons_append, List.append_nil, List.getElem?_cons_zero, List.getElem?_cons_succ, Rs.of_some, Rs.bind_ok, Rs.bind_stuck, if_true, Bool.false_eq_true, if_false, List.set_cons_zero, List.set_cons_succ, Nat.zero_add, Nat.reduceAdd, Nat.reduceSub, add_ii, sub_ii, mul_2i, lt_ii, le_ii, gt_ii, ge_ii, len_ix, sorted_ix, sum_ix, eq_ix, ne_ix, turnE_one, turnC_one, turnC_b, turnL_one, reduceIte, Bool.not_true, Bool.not_false, Bool.true_eq_false, is_tt, isnot_tt, loopK_s, len_lit0]
  rw [run_rng1D (n := (maxL row).toNat) (m := maxL row + 1) (fun q => .list (ix (levM row (1 + (q : Int))))) (by omega) (by simp only [max_ix hp.ne, exSs_cons, exSs_nil, seqK_next, seqK_ret, exS_set, exS_ret, exS_exp, exS_skip, exS_never, exS_iff, ifK_b, testM_eq, testK_b, exS_app, exS_par, exS_tset, tsetK_t, exS_loop, runK_next, runK_ret, evO, evF, freshX, esc, escs, frz, ev_var, ev_lit, ev_bin, ev_neg, negK_i, ev_not, notK_b, ev_and, andK_b, ev_or, orK_b, ev_ite, iteK_b, ev_chn, chnK_le, ev_list, ev_tup, ev_idx, ev_slc, ev_rev, revK_l, ev_blt, ev_isi, isiK_s, ev_call, ev_comp, ev_compC, evs_cons, evs_nil, getV, isiD, List.length_cons, List.length_nil, List.map_cons, List.map_nil, List.replicate, List.append_eq, List.nil_append, List.cons_append, List.append_nil, List.getElem?_cons_zero, List.getElem?_cons_succ, Rs.of_some, Rs.bind_ok, Rs.bind_stuck, if_true, Bool.false_eq_true, if_false, List.set_cons_zero, List.set_cons_succ, Nat.zero_add, Nat.reduceAdd, Nat.reduceSub, add_ii, sub_ii, mul_2i, lt_ii, le_ii, gt_ii, ge_ii, len_ix, sorted_ix, sum_ix, eq_ix, ne_ix, turnE_one, turnC_one, turnC_b, turnL_one, reduceIte, Bool.not_true, Bool.not_false, Bool.true_eq_false, is_tt, isnot_tt, loopK_s, len_lit0]) (by omega) (fun q hq => by simp only [h34a, h34, levelD_eq hp, exSs_cons, exSs_nil, seqK_next, seqK_ret, exS_set, exS_ret, exS_exp, exS_skip, exS_never, exS_iff, ifK_b, testM_eq, testK_b, exS_app, exS_par, exS_tset, tsetK_t, exS_loop, runK_next, runK_ret, evO, evF, freshX, esc, escs, frz, ev_var, ev_lit, ev_bin, ev_neg, negK_i, ev_not, notK_b, ev_and, andK_b, ev_or, orK_b, ev_ite, iteK_b, ev_chn, chnK_le, ev_list, ev_tup, ev_idx, ev_slc, ev_rev, revK_l, ev_blt, ev_isi, isiK_s, ev_call, ev_comp, ev_compC, evs_cons, evs_nil, getV, isiD, List.length_cons, List.length_nil, List.map_cons, List.map_nil, List.replicate, List.append_eq, List.nil_append, List.cons_append, List.append_nil, List.getElem?_cons_zero, List.getElem?_cons_succ, Rs.of_some, Rs.bind_ok, Rs.bind_stuck, if_true, Bool.false_eq_true, if_false, List.set_cons_zero, List.set_cons_succ, Nat.zero_add, Nat.reduceAdd, Nat.reduceSub, add_ii, sub_ii, mul_2i, lt_ii, le_ii, gt_ii, ge_ii, len_ix, sorted_ix, sum_ix, eq_ix, ne_ix, turnE_one, turnC_one, turnC_b, turnL_one, reduceIte, Bool.not_true, Bool.not_false, Bool.true_eq_false, is_tt, isnot_tt, loopK_s, len_lit0])]
  rw [lx_rng]
  simp only [exSs_cons, exSs_nil, seqK_next, seqK_ret, exS_set, exS_ret, exS_exp, exS_skip, exS_never, exS_iff, ifK_b, testM_eq, testK_b, exS_app, exS_par, exS_tset, tsetK_t, exS_loop, runK_next, runK_ret, evO, evF, freshX, esc, escs, frz, ev_var, ev_lit, ev_bin, ev_neg, negK_i, ev_not, notK_b, ev_and, andK_b, ev_or, orK_b, ev_ite, iteK_b, ev_chn, chnK_le, ev_list, ev_tup, ev_idx, ev_slc, ev_rev, revK_l, ev_blt, ev_isi, isiK_s, ev_call, ev_comp, ev_compC, evs_cons, evs_nil, getV, isiD, List.length_cons, List.length_nil, List.map_cons, List.map_nil, List.replicate, List.append_eq, List.nil_append, List.cons_append, List.append_nil, List.getElem?_cons_zero, List.getElem?_cons_succ, Rs.of_some, Rs.bind_ok, Rs.bind_stuck, if_true, Bool.false_eq_true, if_false, List.set_cons_zero, List.set_cons_succ, Nat.zero_add, Nat.reduceAdd, Nat.reduceSub, add_ii, sub_ii, mul_2i, lt_ii, le_ii, gt_ii, ge_ii, len_ix, sorted_ix, sum_ix, eq_ix, ne_ix, turnE_one, turnC_one, turnC_b, turnL_one, reduceIte, Bool.not_true, Bool.not_false, Bool.true_eq_false, is_tt, isnot_tt, loopK_s, len_lit0]
  rfl
/-! ### below -/
def belowD {T : Type} : List D → T → Rs T D
  | [.list ds, .list es], s => match intsOf ds, intsOf es with
    | some a, some b => if a.length = b.length ∧ a.length ≤ 1000 then .ok (.bool (underB a b)) s else .stuck
    | _, _ => .stuck
  | _, _ => .stuck
theorem belowD_eq {a b : List Int} (h1 : a.length = b.length) (h2 : a.length ≤ 1000) : belowD [.list (ix a), .list (ix b)] s = .ok (.bool (underB a b)) s := by
  simp only [belowD, intsOf_ix]
  rw [if_pos ⟨h1, h2⟩]
theorem belowD_inv {ds : List D} {s : T} (h : belowD ds s ≠ .stuck) : ∃ a b, ds = [.list (ix a), .list (ix b)] ∧ a.length = b.length ∧ a.length ≤ 1000 ∧ belowD ds s = .ok (.bool (underB a b)) s := by
  unfold belowD at h
  split at h
  · rename_i ds es
    split at h
    · rename_i a b ha hb
      split at h
      · rename_i hc
        refine ⟨a, b, ?_, hc.1, hc.2, ?_⟩
        · rw [of_intsOf ha, of_intsOf hb]
          rfl
        · simp only [belowD, ha, hb]
          rw [if_pos hc]
      · exact absurd rfl h
    · exact absurd rfl h
  · exact absurd rfl h
theorem under_zip : ∀ (a b : List Int), a.length = b.length → ((a.zip b).map fun p => decide (p.1 ≤ p.2)).all id = underB a b
  | [], [], _ => rfl
  | x :: a, y :: b, h => by
    have ih := under_zip a b (by simpa using h)
    unfold underB at ih ⊢
    rw [List.zip_cons_cons, List.map_cons, List.all_cons, ih, List.length_cons, List.range_succ_eq_map, List.all_cons, List.all_map]
    rfl
def code_below : List Cm := [.ret (.blt .all [.comp (.bin .le (.var 2) (.var 3)) (.two 2 3) .zip [.var 0, .var 1] none])]
theorem run_below : ∀ (ds : List D) (s : T), ds.length = 2 → belowD ds s ≠ .stuck → runD TB 4 code_below ds s = belowD ds s := by
  intro ds s hlen h
  obtain ⟨a, b, rfl, h1, h2, e⟩ := belowD_inv h
  rw [e, runD_eq]
  simp only [code_below, exSs_cons, exSs_nil, seqK_next, seqK_ret, exS_set, exS_ret, exS_exp, exS_skip, exS_never, exS_iff, ifK_b, testM_eq, testK_b, exS_app, exS_par, exS_tset, tsetK_t, exS_loop, runK_next, runK_ret, evO, evF, freshX, esc, escs, frz, ev_var, ev_lit, ev_bin, ev_neg, negK_i, ev_not, notK_b, ev_and, andK_b, ev_or, orK_b, ev_ite, iteK_b, ev_chn, chnK_le, ev_list, ev_tup, ev_idx, ev_slc, ev_rev, revK_l, ev_blt, ev_isi, isiK_s, ev_call, ev_comp, ev_compC, evs_cons, evs_nil, getV, isiD, List.length_cons, List.length_nil, List.map_cons, List.map_nil, List.replicate, List.append_eq, List.nil_append, List.cons_append, List.append_nil, List.getElem?_cons_zero, List.getElem?_cons_succ, Rs.of_some, Rs.bind_ok, Rs.bind_stuck, if_true, Bool.false_eq_true, if_false, List.set_cons_zero, List.set_cons_succ, Nat.zero_add, Nat.reduceAdd, Nat.reduceSub, add_ii, sub_ii, mul_2i, lt_ii, le_ii, gt_ii, ge_ii, len_ix, sorted_ix, sum_ix, eq_ix, ne_ix, turnE_one, turnC_one, turnC_b, turnL_one, reduceIte, Bool.not_true, Bool.not_false, Bool.true_eq_false, is_tt, isnot_tt, loopK_s, len_lit0]
  rw [run_zip (xs := a) (ys := b) (fun x y => PyData.bool (decide (x ≤ y))) h2 (by simp only [exSs_cons, exSs_nil, seqK_next, seqK_ret, exS_set, exS_ret, exS_exp, exS_skip, exS_never, exS_iff, ifK_b, testM_eq, testK_b, exS_app, exS_par, exS_tset, tsetK_t, exS_loop, runK_next, runK_ret, evO, evF, freshX, esc, escs, frz, ev_var, ev_lit, ev_bin, ev_neg, negK_i, ev_not, notK_b, ev_and, andK_b, ev_or, orK_b, ev_ite, iteK_b, ev_chn, chnK_le, ev_list, ev_tup, ev_idx, ev_slc, ev_rev, revK_l, ev_blt, ev_isi, isiK_s, ev_call, ev_comp, ev_compC, evs_cons, evs_nil, getV, isiD, List.length_cons, List.length_nil, List.map_cons, List.map_nil, List.replicate, List.append_eq, List.nil_append, List.cons_append, List.append_nil, List.getElem?_cons_zero, List.getElem?_cons_succ, Rs.of_some, Rs.bind_ok, Rs.bind_stuck, if_true, Bool.false_eq_true, if_false, List.set_cons_zero, List.set_cons_succ, Nat.zero_add, Nat.reduceAdd, Nat.reduceSub, add_ii, sub_ii, mul_2i, lt_ii, le_ii, gt_ii, ge_ii, len_ix, sorted_ix, sum_ix, eq_ix, ne_ix, turnE_one, turnC_one, turnC_b, turnL_one, reduceIte, Bool.not_true, Bool.not_false, Bool.true_eq_false, is_tt, isnot_tt, loopK_s, len_lit0]) (fun x y => by simp only [turnE_two, exSs_cons, exSs_nil, seqK_next, seqK_ret, exS_set, exS_ret, exS_exp, exS_skip, exS_never, exS_iff, ifK_b, testM_eq, testK_b, exS_app, exS_par, exS_tset, tsetK_t, exS_loop, runK_next, runK_ret, evO, evF, freshX, esc, escs, frz, ev_var, ev_lit, ev_bin, ev_neg, negK_i, ev_not, notK_b, ev_and, andK_b, ev_or, orK_b, ev_ite, iteK_b, ev_chn, chnK_le, ev_list, ev_tup, ev_idx, ev_slc, ev_rev, revK_l, ev_blt, ev_isi, isiK_s, ev_call, ev_comp, ev_compC, evs_cons, evs_nil, getV, isiD, List.length_cons, List.length_nil, List.map_cons, List.map_nil, List.replicate, List.append_eq, List.nil_append, List.cons_append, List.append_nil, List.getElem?_cons_zero, List.getElem?_cons_succ, Rs.of_some, Rs.bind_ok, Rs.bind_stuck, if_true, Bool.false_eq_true, if_false, List.set_cons_zero, List.set_cons_succ, Nat.zero_add, Nat.reduceAdd, Nat.reduceSub, add_ii, sub_ii, mul_2i, lt_ii, le_ii, gt_ii, ge_ii, len_ix, sorted_ix, sum_ix, eq_ix, ne_ix, turnE_one, turnC_one, turnC_b, turnL_one, reduceIte, Bool.not_true, Bool.not_false, Bool.true_eq_false, is_tt, isnot_tt, loopK_s, len_lit0])]
  rw [show ((a.zip b).map fun p => PyData.bool (decide (p.1 ≤ p.2))) = bx ((a.zip b).map fun p => decide (p.1 ≤ p.2)) by unfold bx; rw [List.map_map]; rfl]
  simp only [all_bx, under_zip a b h1, exSs_cons, exSs_nil, seqK_next, seqK_ret, exS_set, exS_ret, exS_exp, exS_skip, exS_never, exS_iff, ifK_b, testM_eq, testK_b, exS_app, exS_par, exS_tset, tsetK_t, exS_loop, runK_next, runK_ret, evO, evF, freshX, esc, escs, frz, ev_var, ev_lit, ev_bin, ev_neg, negK_i, ev_not, notK_b, ev_and, andK_b, ev_or, orK_b, ev_ite, iteK_b, ev_chn, chnK_le, ev_list, ev_tup, ev_idx, ev_slc, ev_rev, revK_l, ev_blt, ev_isi, isiK_s, ev_call, ev_comp, ev_compC, evs_cons, evs_nil, getV, isiD, List.length_cons, List.length_nil, List.map_cons, List.map_nil, List.replicate, List.append_eq, List.nil_append, List.cons_append, List.append_nil, List.getElem?_cons_zero, List.getElem?_cons_succ, Rs.of_some, Rs.bind_ok, Rs.bind_stuck, if_true, Bool.false_eq_true, if_false, List.set_cons_zero, List.set_cons_succ, Nat.zero_add, Nat.reduceAdd, Nat.reduceSub, add_ii, sub_ii, mul_2i, lt_ii, le_ii, gt_ii, ge_ii, len_ix, sorted_ix, sum_ix, eq_ix, ne_ix, turnE_one, turnC_one, turnC_b, turnL_one, reduceIte, Bool.not_true, Bool.not_false, Bool.true_eq_false, is_tt, isnot_tt, loopK_s, len_lit0]
end
end MR

namespace MR
open PySem L2
def rowsOf : List D → Option (List (List Int))
  | [] => some []
  | .list ds :: r => match intsOf ds, rowsOf r with
    | some x, some y => some (x :: y)
    | _, _ => none
  | _ => none
theorem rowsOf_lx : ∀ xs : List (List Int), rowsOf (lx xs) = some xs
  | [] => rfl
  | x :: xs => by
    show (match intsOf (ix x), rowsOf (lx xs) with | some x, some y => some (x :: y) | _, _ => none) = _
    rw [intsOf_ix, rowsOf_lx xs]
theorem of_rowsOf : ∀ {ds : List D} {xs : List (List Int)}, rowsOf ds = some xs → ds = lx xs
  | [], xs, h => by
    cases h
    rfl
  | .list es :: r, xs, h => by
    simp only [rowsOf] at h
    split at h
    · rename_i a b ha hb
      cases h
      rw [of_intsOf ha, of_rowsOf hb]
      rfl
    · cases h
  | .none :: _, _, h => nomatch h
  | .bool _ :: _, _, h => nomatch h
  | .str _ :: _, _, h => nomatch h
  | .int _ :: _, _, h => nomatch h
  | .tuple _ :: _, _, h => nomatch h
  | .dict _ :: _, _, h => nomatch h
/-- rows of 0 and 1, each nowhere above the one ahead -/
def levOk (rows : List (List Int)) : Prop := (1 ≤ rows.length ∧ rows.length ≤ 9) ∧ (∀ x ∈ rows, isRow x ∧ x.length = (rows.getD 0 []).length ∧ maxL x ≤ 1) ∧ (List.range (rows.length - 1)).all (fun q => underB (rows.getD (q + 1) []) (rows.getD q [])) = true
instance (rows : List (List Int)) : Decidable (levOk rows) := by unfold levOk; infer_instance
def onRows {T : Type} (P : List (List Int) → Prop) [DecidablePred P] (f : List (List Int) → D) : List D → T → Rs T D
  | [.list ds], s => match rowsOf ds with
    | some rows => if P rows then .ok (f rows) s else .stuck
    | none => .stuck
  | _, _ => .stuck
theorem onRows_inv {T : Type} {P : List (List Int) → Prop} [DecidablePred P] {f : List (List Int) → D} {ds : List D} {s : T} (h : onRows P f ds s ≠ .stuck) : ∃ rows, ds = [.list (lx rows)] ∧ P rows ∧ onRows P f ds s = .ok (f rows) s := by
  unfold onRows at h
  split at h
  · rename_i ds
    split at h
    · rename_i row hr
      split at h
      · rename_i hc
        refine ⟨row, ?_, hc, ?_⟩
        · rw [of_rowsOf hr]
        · simp only [onRows, hr]
          rw [if_pos hc]
      · exact absurd rfl h
    · exact absurd rfl h
  · exact absurd rfl h
theorem onRows_eq {T : Type} {P : List (List Int) → Prop} [DecidablePred P] {f : List (List Int) → D} {rows : List (List Int)} {s : T} (hp : P rows) : onRows P f [.list (lx rows)] s = .ok (f rows) s := by
  simp only [onRows, rowsOf_lx]
  rw [if_pos hp]
section
variable {T : Type} {TB : Tab T} {r : MRho} {s : T}
theorem bx_all (A : Type) (xs : List A) : bltD .all [.list (xs.map fun _ => PyData.bool true)] = some (.bool true) := by
  rw [show (xs.map fun _ => PyData.bool true) = bx (xs.map fun _ => true) by unfold bx; rw [List.map_map]; rfl, all_bx]
  congr 2
  rw [List.all_eq_true]
  intro b hb
  obtain ⟨_, _, rfl⟩ := List.mem_map.mp hb
  rfl
theorem bx_any (A : Type) (xs : List A) : bltD .any [.list (xs.map fun _ => PyData.bool false)] = some (.bool false) := by
  rw [show (xs.map fun _ => PyData.bool false) = bx (xs.map fun _ => false) by unfold bx; rw [List.map_map]; rfl, any_bx]
  congr 2
  rw [List.any_eq_false]
  intro b hb
  obtain ⟨_, _, rfl⟩ := List.mem_map.mp hb
  simp
/-- [.. for q in range(n)] of any values -/
theorem run_rng0D {elt : Xp} {tg : Tg} {src : List Xp} {n : Nat} {m : Int} (F : Nat → D) (hl : n ≤ 1000) (hs : evs TB true r src s = .ok [.int m] s) (hm : m = (n : Int)) (he : ∀ i, i < n → turnE TB r tg elt (.int (0 + (i : Int))) s = .ok (some (F i)) s) : compF TB .rng src r (turnE TB r tg elt) s = .ok ((List.range n).map F) s := by
  subst hm
  refine compF_of hs (src_rng1' (lim_ok hl)) (by rw [upto_length]; exact lim_ok (by omega)) ?_
  rw [upto_map, compM_map (g := F) fun i hi => he i (by simpa using hi)]
def areLevD {T : Type} : List D → T → Rs T D := onRows levOk fun _ => .bool true
theorem getD_mem {xs : List (List Int)} {q : Nat} (h : q < xs.length) : xs.getD q [] ∈ xs := by
  rw [List.getD_eq_getElem?_getD, List.getElem?_eq_getElem h]
  exact List.getElem_mem h
def code_are_levels : List Cm := [.iff (.or (.not (.isi .list (.var 0))) (.not (.chn .le .le (.lit (.int 1)) (.blt .len [.var 0]) (.lit (.int 9))))) [.ret (.lit (.bool false))] [], .iff (.not (.blt .all [.comp (.call 1 [.var 1]) (.one 1) .seq [.var 0] none])) [.ret (.lit (.bool false))] [], .iff (.blt .any [.comp (.or (.bin .ne (.blt .len [.var 1]) (.blt .len [.idx (.var 0) (.lit (.int 0))])) (.bin .gt (.blt .max [.var 1]) (.lit (.int 1)))) (.one 1) .seq [.var 0] none]) [.ret (.lit (.bool false))] [], .ret (.blt .all [.comp (.call 38 [.idx (.var 0) (.bin .add (.var 2) (.lit (.int 1))), .idx (.var 0) (.var 2)]) (.one 2) .rng [.bin .sub (.blt .len [.var 0]) (.lit (.int 1))] none])]
theorem run_are_levels (h1a : TB.ar 1 = 1) (h1 : TB.F 1 = isRowD) (h38a : TB.ar 38 = 2) (h38 : TB.F 38 = belowD) : ∀ (ds : List D) (s : T), ds.length = 1 → areLevD ds s ≠ .stuck → runD TB 3 code_are_levels ds s = areLevD ds s := by
  intro ds s hlen h
  obtain ⟨rows, rfl, ⟨⟨hl1, hl2⟩, hr, hb⟩, e⟩ := onRows_inv h
  rw [show areLevD [.list (lx rows)] s = _ from e, runD_eq]
  have i0 := idx_lx (xs := rows) (j := 0) (by omega)
  rw [show ((0 : Nat) : Int) = 0 from rfl] at i0
  simp only [code_are_levels, h1a, h1, h38a, h38, len_lx, show (1 : Int) ≤ (rows.length : Int) by omega, show (rows.length : Int) ≤ 9 by omega, decide_true, exSs_cons, exSs_nil, seqK_next, seqK_ret, exS_set, exS_ret, exS_exp, exS_skip, exS_never, exS_iff, ifK_b, testM_eq, testK_b, exS_app, exS_par, exS_tset, tsetK_t, exS_loop, runK_next, runK_ret, evO, evF, freshX, esc, escs, frz, ev_var, ev_lit, ev_bin, ev_neg, negK_i, ev_not, notK_b, ev_and, andK_b, ev_or, orK_b, ev_ite, iteK_b, ev_chn, chnK_le, ev_list, ev_tup, ev_idx, ev_slc, ev_rev, revK_l, ev_blt, ev_isi, isiK_s, ev_call, ev_comp, ev_compC, evs_cons, evs_nil, getV, isiD, List.length_cons, List.length_nil, List.map_cons, List.map_nil, List.replicate, List.append_eq, List.nil_append, List.cons_append, List.append_nil, List.getElem?_cons_zero, List.getElem?_cons_succ, Rs.of_some, Rs.bind_ok, Rs.bind_stuck, if_true, Bool.false_eq_true, if_false, List.set_cons_zero, List.set_cons_succ, Nat.zero_add, Nat.reduceAdd, Nat.reduceSub, add_ii, sub_ii, mul_2i, lt_ii, le_ii, gt_ii, ge_ii, len_ix, sorted_ix, sum_ix, eq_ix, ne_ix, turnE_one, turnC_one, turnC_b, turnL_one, reduceIte, Bool.not_true, Bool.not_false, Bool.true_eq_false, is_tt, isnot_tt, loopK_s, len_lit0]
  rw [run_rows (xs := rows) (fun _ => .bool true) (by omega) (by simp only [exSs_cons, exSs_nil, seqK_next, seqK_ret, exS_set, exS_ret, exS_exp, exS_skip, exS_never, exS_iff, ifK_b, testM_eq, testK_b, exS_app, exS_par, exS_tset, tsetK_t, exS_loop, runK_next, runK_ret, evO, evF, freshX, esc, escs, frz, ev_var, ev_lit, ev_bin, ev_neg, negK_i, ev_not, notK_b, ev_and, andK_b, ev_or, orK_b, ev_ite, iteK_b, ev_chn, chnK_le, ev_list, ev_tup, ev_idx, ev_slc, ev_rev, revK_l, ev_blt, ev_isi, isiK_s, ev_call, ev_comp, ev_compC, evs_cons, evs_nil, getV, isiD, List.length_cons, List.length_nil, List.map_cons, List.map_nil, List.replicate, List.append_eq, List.nil_append, List.cons_append, List.append_nil, List.getElem?_cons_zero, List.getElem?_cons_succ, Rs.of_some, Rs.bind_ok, Rs.bind_stuck, if_true, Bool.false_eq_true, if_false, List.set_cons_zero, List.set_cons_succ, Nat.zero_add, Nat.reduceAdd, Nat.reduceSub, add_ii, sub_ii, mul_2i, lt_ii, le_ii, gt_ii, ge_ii, len_ix, sorted_ix, sum_ix, eq_ix, ne_ix, turnE_one, turnC_one, turnC_b, turnL_one, reduceIte, Bool.not_true, Bool.not_false, Bool.true_eq_false, is_tt, isnot_tt, loopK_s, len_lit0]) (fun x hx => by simp only [h1a, h1, isRowD_ix, (hr x hx).1, decide_true, exSs_cons, exSs_nil, seqK_next, seqK_ret, exS_set, exS_ret, exS_exp, exS_skip, exS_never, exS_iff, ifK_b, testM_eq, testK_b, exS_app, exS_par, exS_tset, tsetK_t, exS_loop, runK_next, runK_ret, evO, evF, freshX, esc, escs, frz, ev_var, ev_lit, ev_bin, ev_neg, negK_i, ev_not, notK_b, ev_and, andK_b, ev_or, orK_b, ev_ite, iteK_b, ev_chn, chnK_le, ev_list, ev_tup, ev_idx, ev_slc, ev_rev, revK_l, ev_blt, ev_isi, isiK_s, ev_call, ev_comp, ev_compC, evs_cons, evs_nil, getV, isiD, List.length_cons, List.length_nil, List.map_cons, List.map_nil, List.replicate, List.append_eq, List.nil_append, List.cons_append, List.append_nil, List.getElem?_cons_zero, List.getElem?_cons_succ, Rs.of_some, Rs.bind_ok, Rs.bind_stuck, if_true, Bool.false_eq_true, if_false, List.set_cons_zero, List.set_cons_succ, Nat.zero_add, Nat.reduceAdd, Nat.reduceSub, add_ii, sub_ii, mul_2i, lt_ii, le_ii, gt_ii, ge_ii, len_ix, sorted_ix, sum_ix, eq_ix, ne_ix, turnE_one, turnC_one, turnC_b, turnL_one, reduceIte, Bool.not_true, Bool.not_false, Bool.true_eq_false, is_tt, isnot_tt, loopK_s, len_lit0])]
  simp only [bx_all, exSs_cons, exSs_nil, seqK_next, seqK_ret, exS_set, exS_ret, exS_exp, exS_skip, exS_never, exS_iff, ifK_b, testM_eq, testK_b, exS_app, exS_par, exS_tset, tsetK_t, exS_loop, runK_next, runK_ret, evO, evF, freshX, esc, escs, frz, ev_var, ev_lit, ev_bin, ev_neg, negK_i, ev_not, notK_b, ev_and, andK_b, ev_or, orK_b, ev_ite, iteK_b, ev_chn, chnK_le, ev_list, ev_tup, ev_idx, ev_slc, ev_rev, revK_l, ev_blt, ev_isi, isiK_s, ev_call, ev_comp, ev_compC, evs_cons, evs_nil, getV, isiD, List.length_cons, List.length_nil, List.map_cons, List.map_nil, List.replicate, List.append_eq, List.nil_append, List.cons_append, List.append_nil, List.getElem?_cons_zero, List.getElem?_cons_succ, Rs.of_some, Rs.bind_ok, Rs.bind_stuck, if_true, Bool.false_eq_true, if_false, List.set_cons_zero, List.set_cons_succ, Nat.zero_add, Nat.reduceAdd, Nat.reduceSub, add_ii, sub_ii, mul_2i, lt_ii, le_ii, gt_ii, ge_ii, len_ix, sorted_ix, sum_ix, eq_ix, ne_ix, turnE_one, turnC_one, turnC_b, turnL_one, reduceIte, Bool.not_true, Bool.not_false, Bool.true_eq_false, is_tt, isnot_tt, loopK_s, len_lit0]
  rw [run_rows (xs := rows) (fun _ => .bool false) (by omega) (by simp only [exSs_cons, exSs_nil, seqK_next, seqK_ret, exS_set, exS_ret, exS_exp, exS_skip, exS_never, exS_iff, ifK_b, testM_eq, testK_b, exS_app, exS_par, exS_tset, tsetK_t, exS_loop, runK_next, runK_ret, evO, evF, freshX, esc, escs, frz, ev_var, ev_lit, ev_bin, ev_neg, negK_i, ev_not, notK_b, ev_and, andK_b, ev_or, orK_b, ev_ite, iteK_b, ev_chn, chnK_le, ev_list, ev_tup, ev_idx, ev_slc, ev_rev, revK_l, ev_blt, ev_isi, isiK_s, ev_call, ev_comp, ev_compC, evs_cons, evs_nil, getV, isiD, List.length_cons, List.length_nil, List.map_cons, List.map_nil, List.replicate, List.append_eq, List.nil_append, List.cons_append, List.append_nil, List.getElem?_cons_zero, List.getElem?_cons_succ, Rs.of_some, Rs.bind_ok, Rs.bind_stuck, if_true, Bool.false_eq_true, if_false, List.set_cons_zero, List.set_cons_succ, Nat.zero_add, Nat.reduceAdd, Nat.reduceSub, add_ii, sub_ii, mul_2i, lt_ii, le_ii, gt_ii, ge_ii, len_ix, sorted_ix, sum_ix, eq_ix, ne_ix, turnE_one, turnC_one, turnC_b, turnL_one, reduceIte, Bool.not_true, Bool.not_false, Bool.true_eq_false, is_tt, isnot_tt, loopK_s, len_lit0]) (fun x hx => by
    have hM := (hr x hx).2.2
    simp only [i0, (hr x hx).2.1, ne_ii, max_ix (hr x hx).1.ne, show ¬ (1 < maxL x) by omega, decide_true, decide_false, exSs_cons, exSs_nil, seqK_next, seqK_ret, exS_set, exS_ret, exS_exp, exS_skip, exS_never, exS_iff, ifK_b, testM_eq, testK_b, exS_app, exS_par, exS_tset, tsetK_t, exS_loop, runK_next, runK_ret, evO, evF, freshX, esc, escs, frz, ev_var, ev_lit, ev_bin, ev_neg, negK_i, ev_not, notK_b, ev_and, andK_b, ev_or, orK_b, ev_ite, iteK_b, ev_chn, chnK_le, ev_list, ev_tup, ev_idx, ev_slc, ev_rev, revK_l, ev_blt, ev_isi, isiK_s, ev_call, ev_comp, ev_compC, evs_cons, evs_nil, getV, isiD, List.length_cons, List.length_nil, List.map_cons, List.map_nil, List.replicate, List.append_eq, List.nil_append, List.cons_append, List.append_nil, List.getElem?_cons_zero, List.getElem?_cons_succ, Rs.of_some, Rs.bind_ok, Rs.bind_stuck, if_true, Bool.false_eq_true, if_false, List.set_cons_zero, List.set_cons_succ, Nat.zero_add, Nat.reduceAdd, Nat.reduceSub, add_ii, sub_ii, mul_2i, lt_ii, le_ii, gt_ii, ge_ii, len_ix, sorted_ix, sum_ix, eq_ix, ne_ix, turnE_one, turnC_one, turnC_b, turnL_one, reduceIte, Bool.not_true, Bool.not_false, Bool.true_eq_false, is_tt, isnot_tt, loopK_s, len_lit0])]
  simp only [bx_any, exSs_cons, exSs_nil, seqK_next, seqK_ret, exS_set, exS_ret, exS_exp, exS_skip, exS_never, exS_iff, ifK_b, testM_eq, testK_b, exS_app, exS_par, exS_tset, tsetK_t, exS_loop, runK_next, runK_ret, evO, evF, freshX, esc, escs, frz, ev_var, ev_lit, ev_bin, ev_neg, negK_i, ev_not, notK_b, ev_and, andK_b, ev_or, orK_b, ev_ite, iteK_b, ev_chn, chnK_le, ev_list, ev_tup, ev_idx, ev_slc, ev_rev, revK_l, ev_blt, ev_isi, isiK_s, ev_call, ev_comp, ev_compC, evs_cons, evs_nil, getV, isiD, List.length_cons, List.length_nil, List.map_cons, List.map_nil, List.replicate, List.append_eq, List.nil_append, List.cons_append, List.append_nil, List.getElem?_cons_zero, List.getElem?_cons_succ, Rs.of_some, Rs.bind_ok, Rs.bind_stuck, if_true, Bool.false_eq_true, if_false, List.set_cons_zero, List.set_cons_succ, Nat.zero_add, Nat.reduceAdd, Nat.reduceSub, add_ii, sub_ii, mul_2i, lt_ii, le_ii, gt_ii, ge_ii, len_ix, sorted_ix, sum_ix, eq_ix, ne_ix, turnE_one, turnC_one, turnC_b, turnL_one, reduceIte, Bool.not_true, Bool.not_false, Bool.true_eq_false, is_tt, isnot_tt, loopK_s, len_lit0]
  rw [run_rng0D (n := rows.length - 1) (m := (rows.length : Int) - 1) (fun _ => .bool true) (by omega) (by simp only [len_lx, exSs_cons, exSs_nil, seqK_next, seqK_ret, exS_set, exS_ret, exS_exp, exS_skip, exS_never, exS_iff, ifK_b, testM_eq, testK_b, exS_app, exS_par, exS_tset, tsetK_t, exS_loop, runK_next, runK_ret, evO, evF, freshX, esc, escs, frz, ev_var, ev_lit, ev_bin, ev_neg, negK_i, ev_not, notK_b, ev_and, andK_b, ev_or, orK_b, ev_ite, iteK_b, ev_chn, chnK_le, ev_list, ev_tup, ev_idx, ev_slc, ev_rev, revK_l, ev_blt, ev_isi, isiK_s, ev_call, ev_comp, ev_compC, evs_cons, evs_nil, getV, isiD, List.length_cons, List.length_nil, List.map_cons, List.map_nil, List.replicate, List.append_eq, List.nil_append, List.cons_append, List.append_nil, List.getElem?_cons_zero, List.getElem?_cons_succ, Rs.of_some, Rs.bind_ok, Rs.bind_stuck, if_true, Bool.false_eq_true, if_false, List.set_cons_zero, List.set_cons_succ, Nat.zero_add, Nat.reduceAdd, Nat.reduceSub, add_ii, sub_ii, mul_2i, lt_ii, le_ii, gt_ii, ge_ii, len_ix, sorted_ix, sum_ix, eq_ix, ne_ix, turnE_one, turnC_one, turnC_b, turnL_one, reduceIte, Bool.not_true, Bool.not_false, Bool.true_eq_false, is_tt, isnot_tt, loopK_s, len_lit0]) (by omega) (fun q hq => by
    have e1 : (0 : Int) + (q : Int) = (q : Int) := by omega
    have e2 : (q : Int) + 1 = ((q + 1 : Nat) : Int) := by omega
    have hq1 := getD_mem (xs := rows) (q := q + 1) (by omega)
    have hq0 := getD_mem (xs := rows) (q := q) (by omega)
    have hB := List.all_eq_true.mp hb q (List.mem_range.mpr hq)
    have hu : belowD [.list (ix (rows.getD (q + 1) [])), .list (ix (rows.getD q []))] s = .ok (.bool (underB (rows.getD (q + 1) []) (rows.getD q []))) s := belowD_eq (by rw [(hr _ hq1).2.1, (hr _ hq0).2.1]) (by have := (hr _ hq1).1.2.1; omega)
    simp only [e1, h38a, h38, exSs_cons, exSs_nil, seqK_next, seqK_ret, exS_set, exS_ret, exS_exp, exS_skip, exS_never, exS_iff, ifK_b, testM_eq, testK_b, exS_app, exS_par, exS_tset, tsetK_t, exS_loop, runK_next, runK_ret, evO, evF, freshX, esc, escs, frz, ev_var, ev_lit, ev_bin, ev_neg, negK_i, ev_not, notK_b, ev_and, andK_b, ev_or, orK_b, ev_ite, iteK_b, ev_chn, chnK_le, ev_list, ev_tup, ev_idx, ev_slc, ev_rev, revK_l, ev_blt, ev_isi, isiK_s, ev_call, ev_comp, ev_compC, evs_cons, evs_nil, getV, isiD, List.length_cons, List.length_nil, List.map_cons, List.map_nil, List.replicate, List.append_eq, List.nil_append, List.cons_append, List.append_nil, List.getElem?_cons_zero, List.getElem?_cons_succ, Rs.of_some, Rs.bind_ok, Rs.bind_stuck, if_true, Bool.false_eq_true, if_false, List.set_cons_zero, List.set_cons_succ, Nat.zero_add, Nat.reduceAdd, Nat.reduceSub, add_ii, sub_ii, mul_2i, lt_ii, le_ii, gt_ii, ge_ii, len_ix, sorted_ix, sum_ix, eq_ix, ne_ix, turnE_one, turnC_one, turnC_b, turnL_one, reduceIte, Bool.not_true, Bool.not_false, Bool.true_eq_false, is_tt, isnot_tt, loopK_s, len_lit0]
    rw [e2, idx_lx (by omega), idx_lx (by omega)]
    simp only [hu, hB, exSs_cons, exSs_nil, seqK_next, seqK_ret, exS_set, exS_ret, exS_exp, exS_skip, exS_never, exS_iff, ifK_b, testM_eq, testK_b, exS_app, exS_par, exS_tset, tsetK_t, exS_loop, runK_next, runK_ret, evO, evF, freshX, esc, escs, frz, ev_var, ev_lit, ev_bin, ev_neg, negK_i, ev_not, notK_b, ev_and, andK_b, ev_or, orK_b, ev_ite, iteK_b, ev_chn, chnK_le, ev_list, ev_tup, ev_idx, ev_slc, ev_rev, revK_l, ev_blt, ev_isi, isiK_s, ev_call, ev_comp, ev_compC, evs_cons, evs_nil, getV, isiD, List.length_cons, List.length_nil, List.map_cons, List.map_nil, List.replicate, List.append_eq, List.nil_append, List.cons_append, List.append_nil, List.getElem?_cons_zero, List.getElem?_cons_succ, Rs.of_some, Rs.bind_ok, Rs.bind_stuck, if_true, Bool.false_eq_true, if_false, List.set_cons_zero, List.set_cons_succ, Nat.zero_add, Nat.reduceAdd, Nat.reduceSub, add_ii, sub_ii, mul_2i, lt_ii, le_ii, gt_ii, ge_ii, len_ix, sorted_ix, sum_ix, eq_ix, ne_ix, turnE_one, turnC_one, turnC_b, turnL_one, reduceIte, Bool.not_true, Bool.not_false, Bool.true_eq_false, is_tt, isnot_tt, loopK_s, len_lit0])]
  simp only [bx_all, exSs_cons, exSs_nil, seqK_next, seqK_ret, exS_set, exS_ret, exS_exp, exS_skip, exS_never, exS_iff, ifK_b, testM_eq, testK_b, exS_app, exS_par, exS_tset, tsetK_t, exS_loop, runK_next, runK_ret, evO, evF, freshX, esc, escs, frz, ev_var, ev_lit, ev_bin, ev_neg, negK_i, ev_not, notK_b, ev_and, andK_b, ev_or, orK_b, ev_ite, iteK_b, ev_chn, chnK_le, ev_list, ev_tup, ev_idx, ev_slc, ev_rev, revK_l, ev_blt, ev_isi, isiK_s, ev_call, ev_comp, ev_compC, evs_cons, evs_nil, getV, isiD, List.length_cons, List.length_nil, List.map_cons, List.map_nil, List.replicate, List.append_eq, List.nil_append, List.cons_append, List.append_nil, List.getElem?_cons_zero, List.getElem?_cons_succ, Rs.of_some, Rs.bind_ok, Rs.bind_stuck, if_true, Bool.false_eq_true, if_false, List.set_cons_zero, List.set_cons_succ, Nat.zero_add, Nat.reduceAdd, Nat.reduceSub, add_ii, sub_ii, mul_2i, lt_ii, le_ii, gt_ii, ge_ii, len_ix, sorted_ix, sum_ix, eq_ix, ne_ix, turnE_one, turnC_one, turnC_b, turnL_one, reduceIte, Bool.not_true, Bool.not_false, Bool.true_eq_false, is_tt, isnot_tt, loopK_s, len_lit0]
def sumRows (rows : List (List Int)) : List Int := (List.range (rows.getD 0 []).length).map fun i => (rows.map fun x => x.getD i 0).sum
def addedD {T : Type} : List D → T → Rs T D := onRows levOk fun rows => .list (ix (sumRows rows))
def code_added : List Cm := [.iff (.not (.call 37 [.var 0])) [.never] [], .ret (.comp (.blt .sum [.comp (.idx (.var 1) (.var 2)) (.one 1) .seq [.var 0] none]) (.one 2) .rng [.blt .len [.idx (.var 0) (.lit (.int 0))]] none)]
theorem run_added (h37a : TB.ar 37 = 1) (h37 : TB.F 37 = areLevD) : ∀ (ds : List D) (s : T), ds.length = 1 → addedD ds s ≠ .stuck → runD TB 3 code_added ds s = addedD ds s := by
  intro ds s hlen h
  obtain ⟨rows, rfl, hp, e⟩ := onRows_inv h
  have hA : areLevD [.list (lx rows)] s = .ok (.bool true) s := onRows_eq hp
  obtain ⟨⟨hl1, hl2⟩, hr, hb⟩ := hp
  rw [show addedD [.list (lx rows)] s = _ from e, runD_eq]
  have i0 := idx_lx (xs := rows) (j := 0) (by omega)
  rw [show ((0 : Nat) : Int) = 0 from rfl] at i0
  have hz := (hr _ (getD_mem (xs := rows) (q := 0) (by omega))).1.2.1
  simp only [code_added, h37a, h37, hA, exSs_cons, exSs_nil, seqK_next, seqK_ret, exS_set, exS_ret, exS_exp, exS_skip, exS_never, exS_iff, ifK_b, testM_eq, testK_b, exS_app, exS_par, exS_tset, tsetK_t, exS_loop, runK_next, runK_ret, evO, evF, freshX, esc, escs, frz, ev_var, ev_lit, ev_bin, ev_neg, negK_i, ev_not, notK_b, ev_and, andK_b, ev_or, orK_b, ev_ite, iteK_b, ev_chn, chnK_le, ev_list, ev_tup, ev_idx, ev_slc, ev_rev, revK_l, ev_blt, ev_isi, isiK_s, ev_call, ev_comp, ev_compC, evs_cons, evs_nil, getV, isiD, List.length_cons, List.length_nil, List.map_cons, List.map_nil, List.replicate, List.append_eq, List.nil_append, List.cons_append, List.append_nil, List.getElem?_cons_zero, List.getElem?_cons_succ, Rs.of_some, Rs.bind_ok, Rs.bind_stuck, if_true, Bool.false_eq_true, if_false, List.set_cons_zero, List.set_cons_succ, Nat.zero_add, Nat.reduceAdd, Nat.reduceSub, add_ii, sub_ii, mul_2i, lt_ii, le_ii, gt_ii, ge_ii, len_ix, sorted_ix, sum_ix, eq_ix, ne_ix, turnE_one, turnC_one, turnC_b, turnL_one, reduceIte, Bool.not_true, Bool.not_false, Bool.true_eq_false, is_tt, isnot_tt, loopK_s, len_lit0]
  rw [run_rng0D (n := (rows.getD 0 []).length) (m := ((rows.getD 0 []).length : Int)) (fun q => .int ((rows.map fun x => x.getD q 0).sum)) (by omega) (by simp only [i0, exSs_cons, exSs_nil, seqK_next, seqK_ret, exS_set, exS_ret, exS_exp, exS_skip, exS_never, exS_iff, ifK_b, testM_eq, testK_b, exS_app, exS_par, exS_tset, tsetK_t, exS_loop, runK_next, runK_ret, evO, evF, freshX, esc, escs, frz, ev_var, ev_lit, ev_bin, ev_neg, negK_i, ev_not, notK_b, ev_and, andK_b, ev_or, orK_b, ev_ite, iteK_b, ev_chn, chnK_le, ev_list, ev_tup, ev_idx, ev_slc, ev_rev, revK_l, ev_blt, ev_isi, isiK_s, ev_call, ev_comp, ev_compC, evs_cons, evs_nil, getV, isiD, List.length_cons, List.length_nil, List.map_cons, List.map_nil, List.replicate, List.append_eq, List.nil_append, List.cons_append, List.append_nil, List.getElem?_cons_zero, List.getElem?_cons_succ, Rs.of_some, Rs.bind_ok, Rs.bind_stuck, if_true, Bool.false_eq_true, if_false, List.set_cons_zero, List.set_cons_succ, Nat.zero_add, Nat.reduceAdd, Nat.reduceSub, add_ii, sub_ii, mul_2i, lt_ii, le_ii, gt_ii, ge_ii, len_ix, sorted_ix, sum_ix, eq_ix, ne_ix, turnE_one, turnC_one, turnC_b, turnL_one, reduceIte, Bool.not_true, Bool.not_false, Bool.true_eq_false, is_tt, isnot_tt, loopK_s, len_lit0]) rfl (fun q hq => by
    have e1 : (0 : Int) + (q : Int) = (q : Int) := by omega
    simp only [e1, exSs_cons, exSs_nil, seqK_next, seqK_ret, exS_set, exS_ret, exS_exp, exS_skip, exS_never, exS_iff, ifK_b, testM_eq, testK_b, exS_app, exS_par, exS_tset, tsetK_t, exS_loop, runK_next, runK_ret, evO, evF, freshX, esc, escs, frz, ev_var, ev_lit, ev_bin, ev_neg, negK_i, ev_not, notK_b, ev_and, andK_b, ev_or, orK_b, ev_ite, iteK_b, ev_chn, chnK_le, ev_list, ev_tup, ev_idx, ev_slc, ev_rev, revK_l, ev_blt, ev_isi, isiK_s, ev_call, ev_comp, ev_compC, evs_cons, evs_nil, getV, isiD, List.length_cons, List.length_nil, List.map_cons, List.map_nil, List.replicate, List.append_eq, List.nil_append, List.cons_append, List.append_nil, List.getElem?_cons_zero, List.getElem?_cons_succ, Rs.of_some, Rs.bind_ok, Rs.bind_stuck, if_true, Bool.false_eq_true, if_false, List.set_cons_zero, List.set_cons_succ, Nat.zero_add, Nat.reduceAdd, Nat.reduceSub, add_ii, sub_ii, mul_2i, lt_ii, le_ii, gt_ii, ge_ii, len_ix, sorted_ix, sum_ix, eq_ix, ne_ix, turnE_one, turnC_one, turnC_b, turnL_one, reduceIte, Bool.not_true, Bool.not_false, Bool.true_eq_false, is_tt, isnot_tt, loopK_s, len_lit0]
    rw [run_rows (xs := rows) (fun x => .int (x.getD q 0)) (by omega) (by simp only [exSs_cons, exSs_nil, seqK_next, seqK_ret, exS_set, exS_ret, exS_exp, exS_skip, exS_never, exS_iff, ifK_b, testM_eq, testK_b, exS_app, exS_par, exS_tset, tsetK_t, exS_loop, runK_next, runK_ret, evO, evF, freshX, esc, escs, frz, ev_var, ev_lit, ev_bin, ev_neg, negK_i, ev_not, notK_b, ev_and, andK_b, ev_or, orK_b, ev_ite, iteK_b, ev_chn, chnK_le, ev_list, ev_tup, ev_idx, ev_slc, ev_rev, revK_l, ev_blt, ev_isi, isiK_s, ev_call, ev_comp, ev_compC, evs_cons, evs_nil, getV, isiD, List.length_cons, List.length_nil, List.map_cons, List.map_nil, List.replicate, List.append_eq, List.nil_append, List.cons_append, List.append_nil, List.getElem?_cons_zero, List.getElem?_cons_succ, Rs.of_some, Rs.bind_ok, Rs.bind_stuck, if_true, Bool.false_eq_true, if_false, List.set_cons_zero, List.set_cons_succ, Nat.zero_add, Nat.reduceAdd, Nat.reduceSub, add_ii, sub_ii, mul_2i, lt_ii, le_ii, gt_ii, ge_ii, len_ix, sorted_ix, sum_ix, eq_ix, ne_ix, turnE_one, turnC_one, turnC_b, turnL_one, reduceIte, Bool.not_true, Bool.not_false, Bool.true_eq_false, is_tt, isnot_tt, loopK_s, len_lit0]) (fun x hx => by
      simp only [exSs_cons, exSs_nil, seqK_next, seqK_ret, exS_set, exS_ret, exS_exp, exS_skip, exS_never, exS_iff, ifK_b, testM_eq, testK_b, exS_app, exS_par, exS_tset, tsetK_t, exS_loop, runK_next, runK_ret, evO, evF, freshX, esc, escs, frz, ev_var, ev_lit, ev_bin, ev_neg, negK_i, ev_not, notK_b, ev_and, andK_b, ev_or, orK_b, ev_ite, iteK_b, ev_chn, chnK_le, ev_list, ev_tup, ev_idx, ev_slc, ev_rev, revK_l, ev_blt, ev_isi, isiK_s, ev_call, ev_comp, ev_compC, evs_cons, evs_nil, getV, isiD, List.length_cons, List.length_nil, List.map_cons, List.map_nil, List.replicate, List.append_eq, List.nil_append, List.cons_append, List.append_nil, List.getElem?_cons_zero, List.getElem?_cons_succ, Rs.of_some, Rs.bind_ok, Rs.bind_stuck, if_true, Bool.false_eq_true, if_false, List.set_cons_zero, List.set_cons_succ, Nat.zero_add, Nat.reduceAdd, Nat.reduceSub, add_ii, sub_ii, mul_2i, lt_ii, le_ii, gt_ii, ge_ii, len_ix, sorted_ix, sum_ix, eq_ix, ne_ix, turnE_one, turnC_one, turnC_b, turnL_one, reduceIte, Bool.not_true, Bool.not_false, Bool.true_eq_false, is_tt, isnot_tt, loopK_s, len_lit0]
      rw [idx_ix (by rw [(hr x hx).2.1]; exact hq)]
      simp only [exSs_cons, exSs_nil, seqK_next, seqK_ret, exS_set, exS_ret, exS_exp, exS_skip, exS_never, exS_iff, ifK_b, testM_eq, testK_b, exS_app, exS_par, exS_tset, tsetK_t, exS_loop, runK_next, runK_ret, evO, evF, freshX, esc, escs, frz, ev_var, ev_lit, ev_bin, ev_neg, negK_i, ev_not, notK_b, ev_and, andK_b, ev_or, orK_b, ev_ite, iteK_b, ev_chn, chnK_le, ev_list, ev_tup, ev_idx, ev_slc, ev_rev, revK_l, ev_blt, ev_isi, isiK_s, ev_call, ev_comp, ev_compC, evs_cons, evs_nil, getV, isiD, List.length_cons, List.length_nil, List.map_cons, List.map_nil, List.replicate, List.append_eq, List.nil_append, List.cons_append, List.append_nil, List.getElem?_cons_zero, List.getElem?_cons_succ, Rs.of_some, Rs.bind_ok, Rs.bind_stuck, if_true, Bool.false_eq_true, if_false, List.set_cons_zero, List.set_cons_succ, Nat.zero_add, Nat.reduceAdd, Nat.reduceSub, add_ii, sub_ii, mul_2i, lt_ii, le_ii, gt_ii, ge_ii, len_ix, sorted_ix, sum_ix, eq_ix, ne_ix, turnE_one, turnC_one, turnC_b, turnL_one, reduceIte, Bool.not_true, Bool.not_false, Bool.true_eq_false, is_tt, isnot_tt, loopK_s, len_lit0])]
    rw [ix_map]
    simp only [exSs_cons, exSs_nil, seqK_next, seqK_ret, exS_set, exS_ret, exS_exp, exS_skip, exS_never, exS_iff, ifK_b, testM_eq, testK_b, exS_app, exS_par, exS_tset, tsetK_t, exS_loop, runK_next, runK_ret, evO, evF, freshX, esc, escs, frz, ev_var, ev_lit, ev_bin, ev_neg, negK_i, ev_not, notK_b, ev_and, andK_b, ev_or, orK_b, ev_ite, iteK_b, ev_chn, chnK_le, ev_list, ev_tup, ev_idx, ev_slc, ev_rev, revK_l, ev_blt, ev_isi, isiK_s, ev_call, ev_comp, ev_compC, evs_cons, evs_nil, getV, isiD, List.length_cons, List.length_nil, List.map_cons, List.map_nil, List.replicate, List.append_eq, List.nil_append, List.cons_append, List.append_nil, List.getElem?_cons_zero, List.getElem?_cons_succ, Rs.of_some, Rs.bind_ok, Rs.bind_stuck, if_true, Bool.false_eq_true, if_false, List.set_cons_zero, List.set_cons_succ, Nat.zero_add, Nat.reduceAdd, Nat.reduceSub, add_ii, sub_ii, mul_2i, lt_ii, le_ii, gt_ii, ge_ii, len_ix, sorted_ix, sum_ix, eq_ix, ne_ix, turnE_one, turnC_one, turnC_b, turnL_one, reduceIte, Bool.not_true, Bool.not_false, Bool.true_eq_false, is_tt, isnot_tt, loopK_s, len_lit0])]
  rw [ix_range]
  simp only [exSs_cons, exSs_nil, seqK_next, seqK_ret, exS_set, exS_ret, exS_exp, exS_skip, exS_never, exS_iff, ifK_b, testM_eq, testK_b, exS_app, exS_par, exS_tset, tsetK_t, exS_loop, runK_next, runK_ret, evO, evF, freshX, esc, escs, frz, ev_var, ev_lit, ev_bin, ev_neg, negK_i, ev_not, notK_b, ev_and, andK_b, ev_or, orK_b, ev_ite, iteK_b, ev_chn, chnK_le, ev_list, ev_tup, ev_idx, ev_slc, ev_rev, revK_l, ev_blt, ev_isi, isiK_s, ev_call, ev_comp, ev_compC, evs_cons, evs_nil, getV, isiD, List.length_cons, List.length_nil, List.map_cons, List.map_nil, List.replicate, List.append_eq, List.nil_append, List.cons_append, List.append_nil, List.getElem?_cons_zero, List.getElem?_cons_succ, Rs.of_some, Rs.bind_ok, Rs.bind_stuck, if_true, Bool.false_eq_true, if_false, List.set_cons_zero, List.set_cons_succ, Nat.zero_add, Nat.reduceAdd, Nat.reduceSub, add_ii, sub_ii, mul_2i, lt_ii, le_ii, gt_ii, ge_ii, len_ix, sorted_ix, sum_ix, eq_ix, ne_ix, turnE_one, turnC_one, turnC_b, turnL_one, reduceIte, Bool.not_true, Bool.not_false, Bool.true_eq_false, is_tt, isnot_tt, loopK_s, len_lit0]
  rfl
/-! ### short stretches -/
def px (ps : List (Int × Int)) : List D := ps.map fun p => .tuple [.int p.1, .int p.2]
theorem px_length (ps : List (Int × Int)) : (px ps).length = ps.length := by unfold px; rw [List.length_map]
theorem px_snoc (ps : List (Int × Int)) (a b : Int) : px ps ++ [.tuple [.int a, .int b]] = px (ps ++ [(a, b)]) := by unfold px; rw [List.map_append]; rfl
theorem shS_len (b : List Int) (k : Nat) : ∀ j, (shS b k j).1.length ≤ j
  | 0 => Nat.le_refl _
  | j + 1 => by
    have ih := shS_len b k j
    unfold shS
    split
    · omega
    · simp only
      split
      · rw [List.length_append]; simp; omega
      · omega
/-- one turn's slots -/
def shPl (j : Nat) : Slt := if j = 0 then .un else .val (.int (j : Int))
theorem shS_stay {b : List Int} {k j : Nat} (h : b.getD (j + 1) 0 = b.getD j 0) : shS b k (j + 1) = shS b k j := by
  rw [shS, if_pos h]
theorem shS_add {b : List Int} {k j : Nat} (h : ¬ b.getD (j + 1) 0 = b.getD j 0) (h2 : 0 < (shS b k j).2 ∧ 1 + (j : Int) - (shS b k j).2 ≤ (k : Int)) : shS b k (j + 1) = ((shS b k j).1 ++ [((shS b k j).2, 1 + (j : Int) - (shS b k j).2)], 1 + (j : Int)) := by
  have e : ((j + 1 : Nat) : Int) = 1 + (j : Int) := by omega
  rw [shS, if_neg h, e, if_pos h2]
theorem shS_no {b : List Int} {k j : Nat} (h : ¬ b.getD (j + 1) 0 = b.getD j 0) (h2 : ¬ (0 < (shS b k j).2 ∧ 1 + (j : Int) - (shS b k j).2 ≤ (k : Int))) : shS b k (j + 1) = ((shS b k j).1, 1 + (j : Int)) := by
  have e : ((j + 1 : Nat) : Int) = 1 + (j : Int) := by omega
  rw [shS, if_neg h, e, if_neg h2]
def shortD {T : Type} : List D → T → Rs T D := onRK small fun row k => .list (px (shortM row k))
def code_short_ones : List Cm := [.set 2 (.list []), .set 3 (.lit (.int 0)), .loop (.one 4) .rng [.lit (.int 1), .blt .len [.var 0]] [.iff (.bin .ne (.idx (.var 0) (.var 4)) (.idx (.var 0) (.bin .sub (.var 4) (.lit (.int 1))))) [.iff (.and (.bin .gt (.var 3) (.lit (.int 0))) (.bin .le (.bin .sub (.var 4) (.var 3)) (.var 1))) [.app 2 (.tup [.var 3, .bin .sub (.var 4) (.var 3)])] [], .set 3 (.var 4)] []], .ret (.var 2)]
theorem run_short_ones : ∀ (ds : List D) (s : T), ds.length = 2 → shortD ds s ≠ .stuck → runD TB 5 code_short_ones ds s = shortD ds s := by
  intro ds s hlen h
  obtain ⟨row, k, rfl, hp, k1, k3, e⟩ := onRK_inv h
  rw [show shortD [.list (ix row), .int (k : Int)] s = _ from e, runD_eq]
  have h100 := hp.2
  have hpos : 1 ≤ row.length := List.length_pos_iff.mpr hp.1
  simp only [code_short_ones, len_lit0, src_rng2' (i := 1) (j := (row.length : Int)) (by omega) (by omega) (by omega) (by omega), exSs_cons, exSs_nil, seqK_next, seqK_ret, exS_set, exS_ret, exS_exp, exS_skip, exS_never, exS_iff, ifK_b, testM_eq, testK_b, exS_app, exS_par, exS_tset, tsetK_t, exS_loop, runK_next, runK_ret, evO, evF, freshX, esc, escs, frz, ev_var, ev_lit, ev_bin, ev_neg, negK_i, ev_not, notK_b, ev_and, andK_b, ev_or, orK_b, ev_ite, iteK_b, ev_chn, chnK_le, ev_list, ev_tup, ev_idx, ev_slc, ev_rev, revK_l, ev_blt, ev_isi, isiK_s, ev_call, ev_comp, ev_compC, evs_cons, evs_nil, getV, isiD, List.length_cons, List.length_nil, List.map_cons, List.map_nil, List.replicate, List.append_eq, List.nil_append, List.cons_append, List.append_nil, List.getElem?_cons_zero, List.getElem?_cons_succ, Rs.of_some, Rs.bind_ok, Rs.bind_stuck, if_true, Bool.false_eq_true, if_false, List.set_cons_zero, List.set_cons_succ, Nat.zero_add, Nat.reduceAdd, Nat.reduceSub, add_ii, sub_ii, mul_2i, lt_ii, le_ii, gt_ii, ge_ii, len_ix, sorted_ix, sum_ix, eq_ix, ne_ix, turnE_one, turnC_one, turnC_b, turnL_one, reduceIte, Bool.not_true, Bool.not_false, Bool.true_eq_false, is_tt, isnot_tt, loopK_s, len_lit0]
  rw [show ((row.length : Int) - 1).toNat = row.length - 1 by omega]
  have hb := forM_rng (f := turnL TB (.one 4) [.iff (.bin .ne (.idx (.var 0) (.var 4)) (.idx (.var 0) (.bin .sub (.var 4) (.lit (.int 1))))) [.iff (.and (.bin .gt (.var 3) (.lit (.int 0))) (.bin .le (.bin .sub (.var 4) (.var 3)) (.var 1))) [.app 2 (.tup [.var 3, .bin .sub (.var 4) (.var 3)])] [], .set 3 (.var 4)] []]) (lo := 1) (n := row.length - 1)
    (fun j => [.val (.list (ix row)), .val (.int (k : Int)), .own (px (shS row k j).1), .val (.int (shS row k j).2), shPl j]) (fun _ => s) (fun j hj => by
      have e1 : (1 : Int) + (j : Int) = ((j + 1 : Nat) : Int) := by omega
      have e2 : (1 : Int) + (j : Int) - 1 = (j : Nat) := by omega
      have es : shPl (j + 1) = .val (.int (1 + (j : Int))) := by rw [e1]; rfl
      have ia : idxD (.list (ix row)) (.int (1 + (j : Int))) = some (.int (row.getD (j + 1) 0)) := by rw [e1]; exact idx_ix (by omega)
      have ib : idxD (.list (ix row)) (.int (1 + (j : Int) - 1)) = some (.int (row.getD j 0)) := by rw [e2]; exact idx_ix (by omega)
      rw [es]
      simp only [ia, ib, ne_ii, exSs_cons, exSs_nil, seqK_next, seqK_ret, exS_set, exS_ret, exS_exp, exS_skip, exS_never, exS_iff, ifK_b, testM_eq, testK_b, exS_app, exS_par, exS_tset, tsetK_t, exS_loop, runK_next, runK_ret, evO, evF, freshX, esc, escs, frz, ev_var, ev_lit, ev_bin, ev_neg, negK_i, ev_not, notK_b, ev_and, andK_b, ev_or, orK_b, ev_ite, iteK_b, ev_chn, chnK_le, ev_list, ev_tup, ev_idx, ev_slc, ev_rev, revK_l, ev_blt, ev_isi, isiK_s, ev_call, ev_comp, ev_compC, evs_cons, evs_nil, getV, isiD, List.length_cons, List.length_nil, List.map_cons, List.map_nil, List.replicate, List.append_eq, List.nil_append, List.cons_append, List.append_nil, List.getElem?_cons_zero, List.getElem?_cons_succ, Rs.of_some, Rs.bind_ok, Rs.bind_stuck, if_true, Bool.false_eq_true, if_false, List.set_cons_zero, List.set_cons_succ, Nat.zero_add, Nat.reduceAdd, Nat.reduceSub, add_ii, sub_ii, mul_2i, lt_ii, le_ii, gt_ii, ge_ii, len_ix, sorted_ix, sum_ix, eq_ix, ne_ix, turnE_one, turnC_one, turnC_b, turnL_one, reduceIte, Bool.not_true, Bool.not_false, Bool.true_eq_false, is_tt, isnot_tt, loopK_s, len_lit0]
      by_cases q : row.getD (j + 1) 0 = row.getD j 0
      · rw [shS_stay q]
        simp only [q, decide_true, exSs_cons, exSs_nil, seqK_next, seqK_ret, exS_set, exS_ret, exS_exp, exS_skip, exS_never, exS_iff, ifK_b, testM_eq, testK_b, exS_app, exS_par, exS_tset, tsetK_t, exS_loop, runK_next, runK_ret, evO, evF, freshX, esc, escs, frz, ev_var, ev_lit, ev_bin, ev_neg, negK_i, ev_not, notK_b, ev_and, andK_b, ev_or, orK_b, ev_ite, iteK_b, ev_chn, chnK_le, ev_list, ev_tup, ev_idx, ev_slc, ev_rev, revK_l, ev_blt, ev_isi, isiK_s, ev_call, ev_comp, ev_compC, evs_cons, evs_nil, getV, isiD, List.length_cons, List.length_nil, List.map_cons, List.map_nil, List.replicate, List.append_eq, List.nil_append, List.cons_append, List.append_nil, List.getElem?_cons_zero, List.getElem?_cons_succ, Rs.of_some, Rs.bind_ok, Rs.bind_stuck, if_true, Bool.false_eq_true, if_false, List.set_cons_zero, List.set_cons_succ, Nat.zero_add, Nat.reduceAdd, Nat.reduceSub, add_ii, sub_ii, mul_2i, lt_ii, le_ii, gt_ii, ge_ii, len_ix, sorted_ix, sum_ix, eq_ix, ne_ix, turnE_one, turnC_one, turnC_b, turnL_one, reduceIte, Bool.not_true, Bool.not_false, Bool.true_eq_false, is_tt, isnot_tt, loopK_s, len_lit0]
      · simp only [q, decide_false, exSs_cons, exSs_nil, seqK_next, seqK_ret, exS_set, exS_ret, exS_exp, exS_skip, exS_never, exS_iff, ifK_b, testM_eq, testK_b, exS_app, exS_par, exS_tset, tsetK_t, exS_loop, runK_next, runK_ret, evO, evF, freshX, esc, escs, frz, ev_var, ev_lit, ev_bin, ev_neg, negK_i, ev_not, notK_b, ev_and, andK_b, ev_or, orK_b, ev_ite, iteK_b, ev_chn, chnK_le, ev_list, ev_tup, ev_idx, ev_slc, ev_rev, revK_l, ev_blt, ev_isi, isiK_s, ev_call, ev_comp, ev_compC, evs_cons, evs_nil, getV, isiD, List.length_cons, List.length_nil, List.map_cons, List.map_nil, List.replicate, List.append_eq, List.nil_append, List.cons_append, List.append_nil, List.getElem?_cons_zero, List.getElem?_cons_succ, Rs.of_some, Rs.bind_ok, Rs.bind_stuck, if_true, Bool.false_eq_true, if_false, List.set_cons_zero, List.set_cons_succ, Nat.zero_add, Nat.reduceAdd, Nat.reduceSub, add_ii, sub_ii, mul_2i, lt_ii, le_ii, gt_ii, ge_ii, len_ix, sorted_ix, sum_ix, eq_ix, ne_ix, turnE_one, turnC_one, turnC_b, turnL_one, reduceIte, Bool.not_true, Bool.not_false, Bool.true_eq_false, is_tt, isnot_tt, loopK_s, len_lit0]
        have hl := shS_len row k j
        by_cases q2 : 0 < (shS row k j).2
        · by_cases q3 : 1 + (j : Int) - (shS row k j).2 ≤ (k : Int)
          · rw [shS_add q ⟨q2, q3⟩]
            simp only [q2, q3, decide_true, exSs_cons, exSs_nil, seqK_next, seqK_ret, exS_set, exS_ret, exS_exp, exS_skip, exS_never, exS_iff, ifK_b, testM_eq, testK_b, exS_app, exS_par, exS_tset, tsetK_t, exS_loop, runK_next, runK_ret, evO, evF, freshX, esc, escs, frz, ev_var, ev_lit, ev_bin, ev_neg, negK_i, ev_not, notK_b, ev_and, andK_b, ev_or, orK_b, ev_ite, iteK_b, ev_chn, chnK_le, ev_list, ev_tup, ev_idx, ev_slc, ev_rev, revK_l, ev_blt, ev_isi, isiK_s, ev_call, ev_comp, ev_compC, evs_cons, evs_nil, getV, isiD, List.length_cons, List.length_nil, List.map_cons, List.map_nil, List.replicate, List.append_eq, List.nil_append, List.cons_append, List.append_nil, List.getElem?_cons_zero, List.getElem?_cons_succ, Rs.of_some, Rs.bind_ok, Rs.bind_stuck, if_true, Bool.false_eq_true, if_false, List.set_cons_zero, List.set_cons_succ, Nat.zero_add, Nat.reduceAdd, Nat.reduceSub, add_ii, sub_ii, mul_2i, lt_ii, le_ii, gt_ii, ge_ii, len_ix, sorted_ix, sum_ix, eq_ix, ne_ix, turnE_one, turnC_one, turnC_b, turnL_one, reduceIte, Bool.not_true, Bool.not_false, Bool.true_eq_false, is_tt, isnot_tt, loopK_s, len_lit0]
            rw [appK_own rfl]
            simp only [two_lim, exSs_cons, exSs_nil, seqK_next, seqK_ret, exS_set, exS_ret, exS_exp, exS_skip, exS_never, exS_iff, ifK_b, testM_eq, testK_b, exS_app, exS_par, exS_tset, tsetK_t, exS_loop, runK_next, runK_ret, evO, evF, freshX, esc, escs, frz, ev_var, ev_lit, ev_bin, ev_neg, negK_i, ev_not, notK_b, ev_and, andK_b, ev_or, orK_b, ev_ite, iteK_b, ev_chn, chnK_le, ev_list, ev_tup, ev_idx, ev_slc, ev_rev, revK_l, ev_blt, ev_isi, isiK_s, ev_call, ev_comp, ev_compC, evs_cons, evs_nil, getV, isiD, List.length_cons, List.length_nil, List.map_cons, List.map_nil, List.replicate, List.append_eq, List.nil_append, List.cons_append, List.append_nil, List.getElem?_cons_zero, List.getElem?_cons_succ, Rs.of_some, Rs.bind_ok, Rs.bind_stuck, if_true, Bool.false_eq_true, if_false, List.set_cons_zero, List.set_cons_succ, Nat.zero_add, Nat.reduceAdd, Nat.reduceSub, add_ii, sub_ii, mul_2i, lt_ii, le_ii, gt_ii, ge_ii, len_ix, sorted_ix, sum_ix, eq_ix, ne_ix, turnE_one, turnC_one, turnC_b, turnL_one, reduceIte, Bool.not_true, Bool.not_false, Bool.true_eq_false, is_tt, isnot_tt, loopK_s, len_lit0]
            rw [if_pos (by rw [px_length]; exact lim_lt (by omega)), px_snoc]
            simp only [exSs_cons, exSs_nil, seqK_next, seqK_ret, exS_set, exS_ret, exS_exp, exS_skip, exS_never, exS_iff, ifK_b, testM_eq, testK_b, exS_app, exS_par, exS_tset, tsetK_t, exS_loop, runK_next, runK_ret, evO, evF, freshX, esc, escs, frz, ev_var, ev_lit, ev_bin, ev_neg, negK_i, ev_not, notK_b, ev_and, andK_b, ev_or, orK_b, ev_ite, iteK_b, ev_chn, chnK_le, ev_list, ev_tup, ev_idx, ev_slc, ev_rev, revK_l, ev_blt, ev_isi, isiK_s, ev_call, ev_comp, ev_compC, evs_cons, evs_nil, getV, isiD, List.length_cons, List.length_nil, List.map_cons, List.map_nil, List.replicate, List.append_eq, List.nil_append, List.cons_append, List.append_nil, List.getElem?_cons_zero, List.getElem?_cons_succ, Rs.of_some, Rs.bind_ok, Rs.bind_stuck, if_true, Bool.false_eq_true, if_false, List.set_cons_zero, List.set_cons_succ, Nat.zero_add, Nat.reduceAdd, Nat.reduceSub, add_ii, sub_ii, mul_2i, lt_ii, le_ii, gt_ii, ge_ii, len_ix, sorted_ix, sum_ix, eq_ix, ne_ix, turnE_one, turnC_one, turnC_b, turnL_one, reduceIte, Bool.not_true, Bool.not_false, Bool.true_eq_false, is_tt, isnot_tt, loopK_s, len_lit0]
          · rw [shS_no q (fun z => q3 z.2)]
            simp only [q2, q3, decide_true, decide_false, exSs_cons, exSs_nil, seqK_next, seqK_ret, exS_set, exS_ret, exS_exp, exS_skip, exS_never, exS_iff, ifK_b, testM_eq, testK_b, exS_app, exS_par, exS_tset, tsetK_t, exS_loop, runK_next, runK_ret, evO, evF, freshX, esc, escs, frz, ev_var, ev_lit, ev_bin, ev_neg, negK_i, ev_not, notK_b, ev_and, andK_b, ev_or, orK_b, ev_ite, iteK_b, ev_chn, chnK_le, ev_list, ev_tup, ev_idx, ev_slc, ev_rev, revK_l, ev_blt, ev_isi, isiK_s, ev_call, ev_comp, ev_compC, evs_cons, evs_nil, getV, isiD, List.length_cons, List.length_nil, List.map_cons, List.map_nil, List.replicate, List.append_eq, List.nil_append, List.cons_append, List.append_nil, List.getElem?_cons_zero, List.getElem?_cons_succ, Rs.of_some, Rs.bind_ok, Rs.bind_stuck, if_true, Bool.false_eq_true, if_false, List.set_cons_zero, List.set_cons_succ, Nat.zero_add, Nat.reduceAdd, Nat.reduceSub, add_ii, sub_ii, mul_2i, lt_ii, le_ii, gt_ii, ge_ii, len_ix, sorted_ix, sum_ix, eq_ix, ne_ix, turnE_one, turnC_one, turnC_b, turnL_one, reduceIte, Bool.not_true, Bool.not_false, Bool.true_eq_false, is_tt, isnot_tt, loopK_s, len_lit0]
        · rw [shS_no q (fun z => q2 z.1)]
          simp only [q2, decide_true, decide_false, exSs_cons, exSs_nil, seqK_next, seqK_ret, exS_set, exS_ret, exS_exp, exS_skip, exS_never, exS_iff, ifK_b, testM_eq, testK_b, exS_app, exS_par, exS_tset, tsetK_t, exS_loop, runK_next, runK_ret, evO, evF, freshX, esc, escs, frz, ev_var, ev_lit, ev_bin, ev_neg, negK_i, ev_not, notK_b, ev_and, andK_b, ev_or, orK_b, ev_ite, iteK_b, ev_chn, chnK_le, ev_list, ev_tup, ev_idx, ev_slc, ev_rev, revK_l, ev_blt, ev_isi, isiK_s, ev_call, ev_comp, ev_compC, evs_cons, evs_nil, getV, isiD, List.length_cons, List.length_nil, List.map_cons, List.map_nil, List.replicate, List.append_eq, List.nil_append, List.cons_append, List.append_nil, List.getElem?_cons_zero, List.getElem?_cons_succ, Rs.of_some, Rs.bind_ok, Rs.bind_stuck, if_true, Bool.false_eq_true, if_false, List.set_cons_zero, List.set_cons_succ, Nat.zero_add, Nat.reduceAdd, Nat.reduceSub, add_ii, sub_ii, mul_2i, lt_ii, le_ii, gt_ii, ge_ii, len_ix, sorted_ix, sum_ix, eq_ix, ne_ix, turnE_one, turnC_one, turnC_b, turnL_one, reduceIte, Bool.not_true, Bool.not_false, Bool.true_eq_false, is_tt, isnot_tt, loopK_s, len_lit0])
  rw [show ([.val (.list (ix row)), .val (.int (k : Int)), .own [], .val (.int 0), .un] : MRho) = [.val (.list (ix row)), .val (.int (k : Int)), .own (px (shS row k 0).1), .val (.int (shS row k 0).2), shPl 0] from rfl, hb]
  simp only [exSs_cons, exSs_nil, seqK_next, seqK_ret, exS_set, exS_ret, exS_exp, exS_skip, exS_never, exS_iff, ifK_b, testM_eq, testK_b, exS_app, exS_par, exS_tset, tsetK_t, exS_loop, runK_next, runK_ret, evO, evF, freshX, esc, escs, frz, ev_var, ev_lit, ev_bin, ev_neg, negK_i, ev_not, notK_b, ev_and, andK_b, ev_or, orK_b, ev_ite, iteK_b, ev_chn, chnK_le, ev_list, ev_tup, ev_idx, ev_slc, ev_rev, revK_l, ev_blt, ev_isi, isiK_s, ev_call, ev_comp, ev_compC, evs_cons, evs_nil, getV, isiD, List.length_cons, List.length_nil, List.map_cons, List.map_nil, List.replicate, List.append_eq, List.nil_append, List.cons_append, List.append_nil, List.getElem?_cons_zero, List.getElem?_cons_succ, Rs.of_some, Rs.bind_ok, Rs.bind_stuck, if_true, Bool.false_eq_true, if_false, List.set_cons_zero, List.set_cons_succ, Nat.zero_add, Nat.reduceAdd, Nat.reduceSub, add_ii, sub_ii, mul_2i, lt_ii, le_ii, gt_ii, ge_ii, len_ix, sorted_ix, sum_ix, eq_ix, ne_ix, turnE_one, turnC_one, turnC_b, turnL_one, reduceIte, Bool.not_true, Bool.not_false, Bool.true_eq_false, is_tt, isnot_tt, loopK_s, len_lit0]
  rfl
def shortSD {T : Type} : List D → T → Rs T D := onRKI isRow (fun _ i => 1 ≤ i ∧ i ≤ 9) fun row k t => .list (px (shortM (levM row t) k))
def code_short_stretches : List Cm := [.exp (.call 2 [.var 0]), .exp (.call 3 [.var 1]), .iff (.not (.call 0 [.var 2, .lit (.int 1), .lit (.int 9)])) [.never] [], .ret (.call 41 [.call 34 [.var 0, .var 2], .var 1])]
theorem run_short_stretches (h0a : TB.ar 0 = 3) (h0 : TB.F 0 = isIntD) (h2a : TB.ar 2 = 1) (h2 : TB.F 2 = checkRowD) (h3a : TB.ar 3 = 1) (h3 : TB.F 3 = checkRadD) (h34a : TB.ar 34 = 2) (h34 : TB.F 34 = levelD) (h41a : TB.ar 41 = 2) (h41 : TB.F 41 = shortD) : ∀ (ds : List D) (s : T), ds.length = 3 → shortSD ds s ≠ .stuck → runD TB 3 code_short_stretches ds s = shortSD ds s := by
  intro ds s hlen h
  obtain ⟨row, k, t, rfl, hp, k1, k3, ht, e⟩ := onRKI_inv h
  rw [show shortSD [.list (ix row), .int (k : Int), .int t] s = _ from e, runD_eq]
  have hS : shortD [.list (ix (levM row t)), .int (k : Int)] s = .ok (.list (px (shortM (levM row t) k))) s := onRK_eq (isRow_lev hp t).small k1 k3
  simp only [code_short_stretches, h0a, h0, h2a, h2, h3a, h3, h34a, h34, h41a, h41, checkRowD_ix hp, checkRadD_i k1 k3, levelD_eq hp, hS, isIntD_i, ht.1, ht.2, decide_true, Bool.and_self, exSs_cons, exSs_nil, seqK_next, seqK_ret, exS_set, exS_ret, exS_exp, exS_skip, exS_never, exS_iff, ifK_b, testM_eq, testK_b, exS_app, exS_par, exS_tset, tsetK_t, exS_loop, runK_next, runK_ret, evO, evF, freshX, esc, escs, frz, ev_var, ev_lit, ev_bin, ev_neg, negK_i, ev_not, notK_b, ev_and, andK_b, ev_or, orK_b, ev_ite, iteK_b, ev_chn, chnK_le, ev_list, ev_tup, ev_idx, ev_slc, ev_rev, revK_l, ev_blt, ev_isi, isiK_s, ev_call, ev_comp, ev_compC, evs_cons, evs_nil, getV, isiD, List.length_cons, List.length_nil, List.map_cons, List.map_nil, List.replicate, List.append_eq, List.nil_append, List.cons_append, List.append_nil, List.getElem?_cons_zero, List.getElem?_cons_succ, Rs.of_some, Rs.bind_ok, Rs.bind_stuck, if_true, Bool.false_eq_true, if_false, List.set_cons_zero, List.set_cons_succ, Nat.zero_add, Nat.reduceAdd, Nat.reduceSub, add_ii, sub_ii, mul_2i, lt_ii, le_ii, gt_ii, ge_ii, len_ix, sorted_ix, sum_ix, eq_ix, ne_ix, turnE_one, turnC_one, turnC_b, turnL_one, reduceIte, Bool.not_true, Bool.not_false, Bool.true_eq_false, is_tt, isnot_tt, loopK_s, len_lit0]
end
end MR

namespace MR
open PySem L2
/-! ### the levels of a row, added -/
theorem levsM_length (row : List Int) (m : Nat) : (levsM row m).length = m := by simp [levsM]
theorem levsM_getD (row : List Int) {m q : Nat} (h : q < m) : (levsM row m).getD q [] = levM row (1 + (q : Int)) := getD_rangeL _ h
theorem lev_max {row : List Int} (h : row ≠ []) (t : Int) : maxL (levM row t) ≤ 1 := by
  have h1 : levM row t ≠ [] := by unfold levM; simpa using h
  have := maxL_mem h1
  unfold levM at this
  obtain ⟨x, _, e⟩ := List.mem_map.mp this
  unfold levM
  rw [← e]
  exact (ind_bd t x).2
theorem levOk_levs {row : List Int} (h : isRow row) {m : Nat} (h1 : 1 ≤ m) (h9 : m ≤ 9) : levOk (levsM row m) := by
  refine ⟨⟨by rw [levsM_length]; exact h1, by rw [levsM_length]; exact h9⟩, fun x hx => ?_, ?_⟩
  · rw [levsM_getD row (by omega), levM_length]
    obtain ⟨q, hq, rfl⟩ := List.mem_map.mp hx
    exact ⟨isRow_lev h _, levM_length _ _, lev_max h.ne _⟩
  · rw [List.all_eq_true]
    intro q hq
    have hq := List.mem_range.mp hq
    rw [levsM_length] at hq
    rw [levsM_getD row (by omega), levsM_getD row (by omega)]
    refine under_rows (by rw [levM_length, levM_length]) fun i => ?_
    unfold levM
    rw [near_map h.ne, near_map h.ne]
    exact ind_le _ _ _ (by omega)
theorem sum_levs {row : List Int} (h : isRow row) {m : Nat} (h1 : 1 ≤ m) (hm : ∀ x ∈ row, x ≤ (m : Int)) : sumRows (levsM row m) = row := by
  have e : ∀ i, i < row.length → ((levsM row m).map fun x => x.getD i 0).sum = row.getD i 0 := by
    intro i hi
    have hx : row.getD i 0 ∈ row := by
      rw [List.getD_eq_getElem?_getD, List.getElem?_eq_getElem hi]
      exact List.getElem_mem hi
    have e1 : ((levsM row m).map fun x => x.getD i 0) = (List.range m).map fun (q : Nat) => ind (1 + (q : Int)) (row.getD i 0) := by
      unfold levsM
      rw [List.map_map]
      refine List.map_congr_left fun q _ => ?_
      show (levM row (1 + (q : Int))).getD i 0 = _
      unfold levM
      rw [List.getD_eq_getElem?_getD, List.getElem?_map, List.getElem?_eq_getElem hi, List.getD_eq_getElem?_getD, List.getElem?_eq_getElem hi]
      rfl
    rw [e1, ind_sum _ (h.2.2 _ hx).1]
    have := hm _ hx
    omega
  unfold sumRows
  rw [levsM_getD row (by omega), levM_length]
  apply List.ext_getElem?
  intro i
  rw [List.getElem?_map]
  by_cases hi : i < row.length
  · rw [List.getElem?_range hi]
    simp only [Option.map_some]
    rw [e i hi, List.getD_eq_getElem?_getD, List.getElem?_eq_getElem hi]
    rfl
  · rw [List.getElem?_eq_none (by simp; omega), List.getElem?_eq_none (by omega)]
    rfl
theorem near_max {row : List Int} (h : isRow row) (j : Int) : 0 ≤ near row j ∧ near row j ≤ maxL row := ⟨(isRow_near h j).1, le_maxL (near_mem h.ne j)⟩
theorem mem_of_near {row : List Int} {m : Int} (h : ∀ j, near row j ≤ m) : ∀ x ∈ row, x ≤ m := by
  intro x hx
  obtain ⟨j, hj, rfl⟩ := List.getElem_of_mem hx
  have := h (j : Int)
  rw [near_mid hj] at this
  exact this
theorem flat_root {row : List Int} (h : isRow row) (h0 : maxL row ≤ 0) (k : Nat) : medianM row k = row := by
  refine median_calm fun i v => ⟨i, by omega, by omega, fun j _ _ => ?_⟩
  have a := near_max h i
  have b := near_max h j
  rw [show near row i = near row j by omega]
/-! ### pairs compared -/
theorem okD_px (ps : List (Int × Int)) : okD (.list (px ps)) = true := by
  unfold okD px
  show (ps.map _).all (lvl 4) = true
  rw [List.all_map, List.all_eq_true]
  intro p _
  rfl
theorem eqvAll_px : ∀ (xs ys : List (Int × Int)), PyData.eqvAll (px xs) (px ys) = decide (xs = ys)
  | [], [] => rfl
  | [], _ :: _ => rfl
  | _ :: _, [] => rfl
  | x :: xs, y :: ys => by
    have ih := eqvAll_px xs ys
    show (PyData.eqv (.tuple (ix [x.1, x.2])) (.tuple (ix [y.1, y.2])) && PyData.eqvAll (px xs) (px ys)) = _
    rw [ih]
    show (PyData.eqvAll (ix [x.1, x.2]) (ix [y.1, y.2]) && _) = _
    rw [eqvAll_ix]
    obtain ⟨a, b⟩ := x
    obtain ⟨c, d⟩ := y
    by_cases h1 : a = c <;> by_cases h2 : b = d <;> by_cases h3 : xs = ys <;> simp [h1, h2, h3]
theorem ne_px (xs ys : List (Int × Int)) : opD .ne (.list (px xs)) (.list (px ys)) = some (.bool (!decide (xs = ys))) := by
  simp only [opD]
  rw [if_pos ⟨okD_px xs, okD_px ys⟩]
  show some (PyData.bool (!PyData.eqvAll (px xs) (px ys))) = _
  rw [eqvAll_px]
def ppx (xs : List (List (Int × Int))) : List D := xs.map fun x => .list (px x)
theorem okD_ppx (xs : List (List (Int × Int))) : okD (.list (ppx xs)) = true := by
  unfold okD ppx
  show (xs.map _).all (lvl 4) = true
  rw [List.all_map, List.all_eq_true]
  intro p _
  show (px p).all (lvl 3) = true
  unfold px
  rw [List.all_map, List.all_eq_true]
  intro p _
  rfl
theorem eq_ppx_nil (xs : List (List (Int × Int))) : opD .eq (.list (ppx xs)) (.list []) = some (.bool (decide (xs = []))) := by
  simp only [opD]
  rw [if_pos ⟨okD_ppx xs, rfl⟩]
  cases xs <;> rfl
section
variable {T : Type} {TB : Tab T} {r : MRho} {s : T}
theorem run_ppx {elt c : Xp} {xs : List (List (Int × Int))} {src : List Xp} {tg : Tg} (p : List (Int × Int) → Bool) (hl : xs.length ≤ 1000) (hs : evs TB true r src s = .ok [.list (ppx xs)] s)
    (he : ∀ x, turnC TB r tg elt c (.list (px x)) s = .ok (if p x = true then some (.list (px x)) else none) s) : compF TB .seq src r (turnC TB r tg elt c) s = .ok (ppx (xs.filter p)) s := by
  refine compF_of hs rfl (by unfold ppx; rw [List.length_map]; exact lim_ok hl) ?_
  unfold ppx
  rw [compM_fmap (p := p) (g := fun x => PyData.list (px x)) fun x _ => he x]
end
end MR

namespace MR
open PySem L2
/-! ### values that never fall, or never rise -/
def evB (xs : List Int) : Bool := ((List.range (xs.length - 1)).all fun i => decide (0 ≤ xs.getD (i + 1) 0 - xs.getD i 0)) || ((List.range (xs.length - 1)).all fun i => decide (xs.getD (i + 1) 0 - xs.getD i 0 ≤ 0))
theorem getD_lt {xs : List Int} {i : Nat} (h : i < xs.length) : xs.getD i 0 = xs[i] := by
  rw [List.getD_eq_getElem?_getD, List.getElem?_eq_getElem h]
  rfl
theorem steps_pw (xs : List Int) (R : Int → Int → Prop) (ht : ∀ a b c, R a b → R b c → R a c) (hr : ∀ a, R a a) : (∀ i, i < xs.length - 1 → R (xs.getD i 0) (xs.getD (i + 1) 0)) ↔ xs.Pairwise R := by
  rw [List.pairwise_iff_getElem]
  constructor
  · intro h i j hi hj hij
    have key : ∀ d, i + d < xs.length → R (xs.getD i 0) (xs.getD (i + d) 0) := by
      intro d
      induction d with
      | zero => intro _; exact hr _
      | succ d ih => intro q; exact ht _ _ _ (ih (by omega)) (h (i + d) (by omega))
    have := key (j - i) (by omega)
    rw [show i + (j - i) = j by omega, getD_lt hi, getD_lt hj] at this
    exact this
  · intro h i hi
    rw [getD_lt (by omega), getD_lt (by omega)]
    exact h i (i + 1) (by omega) (by omega) (by omega)
theorem evB_rise (xs : List Int) : evB xs = riseB xs := by
  unfold evB riseB
  congr 1
  · rw [Bool.eq_iff_iff, List.all_eq_true, decide_eq_true_eq]
    have p := steps_pw xs (· ≤ ·) (fun a b c => Int.le_trans) Int.le_refl
    constructor
    · intro h
      refine isort_eq (List.Perm.refl _) (p.mp fun i hi => ?_)
      have := of_decide_eq_true (h i (List.mem_range.mpr hi))
      omega
    · intro h i hi
      have hs : xs.Pairwise (· ≤ ·) := by rw [h]; exact isort_sorted xs
      have := p.mpr hs i (List.mem_range.mp hi)
      exact decide_eq_true (by omega)
  · rw [Bool.eq_iff_iff, List.all_eq_true, decide_eq_true_eq]
    have p := steps_pw xs (fun a b => b ≤ a) (fun a b c h1 h2 => Int.le_trans h2 h1) Int.le_refl
    constructor
    · intro h
      refine isort_eq (List.reverse_perm _) (List.pairwise_reverse.mpr (p.mp fun i hi => ?_))
      have := of_decide_eq_true (h i (List.mem_range.mpr hi))
      omega
    · intro h i hi
      have hs : xs.reverse.Pairwise (· ≤ ·) := by rw [h]; exact isort_sorted xs
      have := p.mpr (List.pairwise_reverse.mp hs) i (List.mem_range.mp hi)
      exact decide_eq_true (by omega)
section
variable {T : Type} {TB : Tab T} {r : MRho} {s : T}
/-- a def of one list or tuple of ints -/
def onS {T : Type} (P : List Int → Prop) [DecidablePred P] (f : List Int → D) : List D → T → Rs T D
  | [.list ds], s => match intsOf ds with
    | some row => if P row then .ok (f row) s else .stuck
    | none => .stuck
  | [.tuple ds], s => match intsOf ds with
    | some row => if P row then .ok (f row) s else .stuck
    | none => .stuck
  | _, _ => .stuck
theorem onS_inv {P : List Int → Prop} [DecidablePred P] {f : List Int → D} {ds : List D} {s : T} (h : onS P f ds s ≠ .stuck) : ∃ row, (ds = [.list (ix row)] ∨ ds = [.tuple (ix row)]) ∧ P row ∧ onS P f ds s = .ok (f row) s := by
  unfold onS at h
  split at h
  · rename_i ds
    split at h
    · rename_i row hr
      split at h
      · rename_i hc
        refine ⟨row, .inl (by rw [of_intsOf hr]; rfl), hc, ?_⟩
        simp only [onS, hr]
        rw [if_pos hc]
      · exact absurd rfl h
    · exact absurd rfl h
  · rename_i ds
    split at h
    · rename_i row hr
      split at h
      · rename_i hc
        refine ⟨row, .inr (by rw [of_intsOf hr]; rfl), hc, ?_⟩
        simp only [onS, hr]
        rw [if_pos hc]
      · exact absurd rfl h
    · exact absurd rfl h
  · exact absurd rfl h
theorem onS_list {P : List Int → Prop} [DecidablePred P] {f : List Int → D} {row : List Int} (hp : P row) : onS P f [.list (ix row)] s = .ok (f row) s := by
  simp only [onS, intsOf_ix]
  rw [if_pos hp]
theorem onS_tup {P : List Int → Prop} [DecidablePred P] {f : List Int → D} {row : List Int} (hp : P row) : onS P f [.tuple (ix row)] s = .ok (f row) s := by
  simp only [onS, intsOf_ix]
  rw [if_pos hp]
theorem len_tix (xs : List Int) : bltD .len [.tuple (ix xs)] = some (.int (xs.length : Int)) := by simp only [bltD, ix_length]
theorem bx_range (n : Nat) (p : Nat → Bool) : bltD .all [.list ((List.range n).map fun i => PyData.bool (p i))] = some (.bool ((List.range n).all p)) := by
  rw [show ((List.range n).map fun i => PyData.bool (p i)) = bx ((List.range n).map p) by unfold bx; rw [List.map_map]; rfl, all_bx, List.all_map]
  rfl
theorem run_seqB {elt : Xp} {tg : Tg} {src : List Xp} {xs : List Int} (F : Int → Bool) (hl : xs.length ≤ 1000) (hs : evs TB true r src s = .ok [.list (ix xs)] s) (he : ∀ x, x ∈ xs → turnE TB r tg elt (.int x) s = .ok (some (.bool (F x))) s) : compF TB .seq src r (turnE TB r tg elt) s = .ok (bx (xs.map F)) s := by
  refine compF_of hs rfl (by rw [ix_length]; exact lim_ok hl) ?_
  unfold ix
  rw [compM_map (g := fun x => PyData.bool (F x)) fun x hx => he x hx]
  unfold bx
  rw [List.map_map]
  rfl
def evenD {T : Type} : List D → T → Rs T D := onS small fun xs => .bool (riseB xs)
def code_is_even_run : List Cm := [.set 1 (.comp (.bin .sub (.idx (.var 0) (.bin .add (.var 2) (.lit (.int 1)))) (.idx (.var 0) (.var 2))) (.one 2) .rng [.bin .sub (.blt .len [.var 0]) (.lit (.int 1))] none), .ret (.or (.blt .all [.comp (.bin .ge (.var 3) (.lit (.int 0))) (.one 3) .seq [.var 1] none]) (.blt .all [.comp (.bin .le (.var 3) (.lit (.int 0))) (.one 3) .seq [.var 1] none]))]
theorem run_even : ∀ (ds : List D) (s : T), ds.length = 1 → evenD ds s ≠ .stuck → runD TB 4 code_is_even_run ds s = evenD ds s := by
  intro ds s hlen h
  obtain ⟨xs, hd, hp, e⟩ := onS_inv h
  rw [show evenD ds s = _ from e, runD_eq]
  have h100 := hp.2
  have hpos : 1 ≤ xs.length := List.length_pos_iff.mpr hp.1
  have key : ∀ (d : D), (d = .list (ix xs) ∨ d = .tuple (ix xs)) → (exSs TB code_is_even_run (List.map Slt.val [d] ++ List.replicate (4 - 1) .un) s).bind runK = .ok (.bool (riseB xs)) s := by
    intro d hd
    have hlen : bltD .len [d] = some (.int (xs.length : Int)) := by
      rcases hd with rfl | rfl
      · exact len_ix xs
      · exact len_tix xs
    have hidx : ∀ j : Nat, j < xs.length → idxD d (.int (j : Int)) = some (.int (xs.getD j 0)) := fun j hj => by
      rcases hd with rfl | rfl
      · exact idx_ix hj
      · exact idx_tix hj
    simp only [code_is_even_run, exSs_cons, exSs_nil, seqK_next, seqK_ret, exS_set, exS_ret, exS_exp, exS_skip, exS_never, exS_iff, ifK_b, testM_eq, testK_b, exS_app, exS_par, exS_tset, tsetK_t, exS_loop, runK_next, runK_ret, evO, evF, freshX, esc, escs, frz, ev_var, ev_lit, ev_bin, ev_neg, negK_i, ev_not, notK_b, ev_and, andK_b, ev_or, orK_b, ev_ite, iteK_b, ev_chn, chnK_le, ev_list, ev_tup, ev_idx, ev_slc, ev_rev, revK_l, ev_blt, ev_isi, isiK_s, ev_call, ev_comp, ev_compC, evs_cons, evs_nil, getV, isiD, List.length_cons, List.length_nil, List.map_cons, List.map_nil, List.replicate, List.append_eq, List.nil_append, List.cons_append, List.append_nil, List.getElem?_cons_zero, List.getElem?_cons_succ, Rs.of_some, Rs.bind_ok, Rs.bind_stuck, if_true, Bool.false_eq_true, if_false, List.set_cons_zero, List.set_cons_succ, Nat.zero_add, Nat.reduceAdd, Nat.reduceSub, add_ii, sub_ii, mul_2i, lt_ii, le_ii, gt_ii, ge_ii, len_ix, sorted_ix, sum_ix, eq_ix, ne_ix, turnE_one, turnC_one, turnC_b, turnL_one, reduceIte, Bool.not_true, Bool.not_false, Bool.true_eq_false, is_tt, isnot_tt, loopK_s, len_lit0]
    rw [run_rng0D (n := xs.length - 1) (m := (xs.length : Int) - 1) (fun q => .int (xs.getD (q + 1) 0 - xs.getD q 0)) (by omega) (by simp only [hlen, exSs_cons, exSs_nil, seqK_next, seqK_ret, exS_set, exS_ret, exS_exp, exS_skip, exS_never, exS_iff, ifK_b, testM_eq, testK_b, exS_app, exS_par, exS_tset, tsetK_t, exS_loop, runK_next, runK_ret, evO, evF, freshX, esc, escs, frz, ev_var, ev_lit, ev_bin, ev_neg, negK_i, ev_not, notK_b, ev_and, andK_b, ev_or, orK_b, ev_ite, iteK_b, ev_chn, chnK_le, ev_list, ev_tup, ev_idx, ev_slc, ev_rev, revK_l, ev_blt, ev_isi, isiK_s, ev_call, ev_comp, ev_compC, evs_cons, evs_nil, getV, isiD, List.length_cons, List.length_nil, List.map_cons, List.map_nil, List.replicate, List.append_eq, List.nil_append, List.cons_append, List.append_nil, List.getElem?_cons_zero, List.getElem?_cons_succ, Rs.of_some, Rs.bind_ok, Rs.bind_stuck, if_true, Bool.false_eq_true, if_false, List.set_cons_zero, List.set_cons_succ, Nat.zero_add, Nat.reduceAdd, Nat.reduceSub, add_ii, sub_ii, mul_2i, lt_ii, le_ii, gt_ii, ge_ii, len_ix, sorted_ix, sum_ix, eq_ix, ne_ix, turnE_one, turnC_one, turnC_b, turnL_one, reduceIte, Bool.not_true, Bool.not_false, Bool.true_eq_false, is_tt, isnot_tt, loopK_s, len_lit0]) (by omega) (fun q hq => by
      have e1 : (0 : Int) + (q : Int) = (q : Int) := by omega
      have e2 : (q : Int) + 1 = ((q + 1 : Nat) : Int) := by omega
      simp only [e1, exSs_cons, exSs_nil, seqK_next, seqK_ret, exS_set, exS_ret, exS_exp, exS_skip, exS_never, exS_iff, ifK_b, testM_eq, testK_b, exS_app, exS_par, exS_tset, tsetK_t, exS_loop, runK_next, runK_ret, evO, evF, freshX, esc, escs, frz, ev_var, ev_lit, ev_bin, ev_neg, negK_i, ev_not, notK_b, ev_and, andK_b, ev_or, orK_b, ev_ite, iteK_b, ev_chn, chnK_le, ev_list, ev_tup, ev_idx, ev_slc, ev_rev, revK_l, ev_blt, ev_isi, isiK_s, ev_call, ev_comp, ev_compC, evs_cons, evs_nil, getV, isiD, List.length_cons, List.length_nil, List.map_cons, List.map_nil, List.replicate, List.append_eq, List.nil_append, List.cons_append, List.append_nil, List.getElem?_cons_zero, List.getElem?_cons_succ, Rs.of_some, Rs.bind_ok, Rs.bind_stuck, if_true, Bool.false_eq_true, if_false, List.set_cons_zero, List.set_cons_succ, Nat.zero_add, Nat.reduceAdd, Nat.reduceSub, add_ii, sub_ii, mul_2i, lt_ii, le_ii, gt_ii, ge_ii, len_ix, sorted_ix, sum_ix, eq_ix, ne_ix, turnE_one, turnC_one, turnC_b, turnL_one, reduceIte, Bool.not_true, Bool.not_false, Bool.true_eq_false, is_tt, isnot_tt, loopK_s, len_lit0]
      rw [e2, hidx (q + 1) (by omega), hidx q (by omega)]
      simp only [exSs_cons, exSs_nil, seqK_next, seqK_ret, exS_set, exS_ret, exS_exp, exS_skip, exS_never, exS_iff, ifK_b, testM_eq, testK_b, exS_app, exS_par, exS_tset, tsetK_t, exS_loop, runK_next, runK_ret, evO, evF, freshX, esc, escs, frz, ev_var, ev_lit, ev_bin, ev_neg, negK_i, ev_not, notK_b, ev_and, andK_b, ev_or, orK_b, ev_ite, iteK_b, ev_chn, chnK_le, ev_list, ev_tup, ev_idx, ev_slc, ev_rev, revK_l, ev_blt, ev_isi, isiK_s, ev_call, ev_comp, ev_compC, evs_cons, evs_nil, getV, isiD, List.length_cons, List.length_nil, List.map_cons, List.map_nil, List.replicate, List.append_eq, List.nil_append, List.cons_append, List.append_nil, List.getElem?_cons_zero, List.getElem?_cons_succ, Rs.of_some, Rs.bind_ok, Rs.bind_stuck, if_true, Bool.false_eq_true, if_false, List.set_cons_zero, List.set_cons_succ, Nat.zero_add, Nat.reduceAdd, Nat.reduceSub, add_ii, sub_ii, mul_2i, lt_ii, le_ii, gt_ii, ge_ii, len_ix, sorted_ix, sum_ix, eq_ix, ne_ix, turnE_one, turnC_one, turnC_b, turnL_one, reduceIte, Bool.not_true, Bool.not_false, Bool.true_eq_false, is_tt, isnot_tt, loopK_s, len_lit0])]
    rw [ix_range]
    simp only [exSs_cons, exSs_nil, seqK_next, seqK_ret, exS_set, exS_ret, exS_exp, exS_skip, exS_never, exS_iff, ifK_b, testM_eq, testK_b, exS_app, exS_par, exS_tset, tsetK_t, exS_loop, runK_next, runK_ret, evO, evF, freshX, esc, escs, frz, ev_var, ev_lit, ev_bin, ev_neg, negK_i, ev_not, notK_b, ev_and, andK_b, ev_or, orK_b, ev_ite, iteK_b, ev_chn, chnK_le, ev_list, ev_tup, ev_idx, ev_slc, ev_rev, revK_l, ev_blt, ev_isi, isiK_s, ev_call, ev_comp, ev_compC, evs_cons, evs_nil, getV, isiD, List.length_cons, List.length_nil, List.map_cons, List.map_nil, List.replicate, List.append_eq, List.nil_append, List.cons_append, List.append_nil, List.getElem?_cons_zero, List.getElem?_cons_succ, Rs.of_some, Rs.bind_ok, Rs.bind_stuck, if_true, Bool.false_eq_true, if_false, List.set_cons_zero, List.set_cons_succ, Nat.zero_add, Nat.reduceAdd, Nat.reduceSub, add_ii, sub_ii, mul_2i, lt_ii, le_ii, gt_ii, ge_ii, len_ix, sorted_ix, sum_ix, eq_ix, ne_ix, turnE_one, turnC_one, turnC_b, turnL_one, reduceIte, Bool.not_true, Bool.not_false, Bool.true_eq_false, is_tt, isnot_tt, loopK_s, len_lit0]
    rw [run_seqB (xs := (List.range (xs.length - 1)).map fun q => xs.getD (q + 1) 0 - xs.getD q 0) (fun x => decide (0 ≤ x)) (by rw [List.length_map, List.length_range]; omega) (by simp only [exSs_cons, exSs_nil, seqK_next, seqK_ret, exS_set, exS_ret, exS_exp, exS_skip, exS_never, exS_iff, ifK_b, testM_eq, testK_b, exS_app, exS_par, exS_tset, tsetK_t, exS_loop, runK_next, runK_ret, evO, evF, freshX, esc, escs, frz, ev_var, ev_lit, ev_bin, ev_neg, negK_i, ev_not, notK_b, ev_and, andK_b, ev_or, orK_b, ev_ite, iteK_b, ev_chn, chnK_le, ev_list, ev_tup, ev_idx, ev_slc, ev_rev, revK_l, ev_blt, ev_isi, isiK_s, ev_call, ev_comp, ev_compC, evs_cons, evs_nil, getV, isiD, List.length_cons, List.length_nil, List.map_cons, List.map_nil, List.replicate, List.append_eq, List.nil_append, List.cons_append, List.append_nil, List.getElem?_cons_zero, List.getElem?_cons_succ, Rs.of_some, Rs.bind_ok, Rs.bind_stuck, if_true, Bool.false_eq_true, if_false, List.set_cons_zero, List.set_cons_succ, Nat.zero_add, Nat.reduceAdd, Nat.reduceSub, add_ii, sub_ii, mul_2i, lt_ii, le_ii, gt_ii, ge_ii, len_ix, sorted_ix, sum_ix, eq_ix, ne_ix, turnE_one, turnC_one, turnC_b, turnL_one, reduceIte, Bool.not_true, Bool.not_false, Bool.true_eq_false, is_tt, isnot_tt, loopK_s, len_lit0]) (fun x _ => by simp only [exSs_cons, exSs_nil, seqK_next, seqK_ret, exS_set, exS_ret, exS_exp, exS_skip, exS_never, exS_iff, ifK_b, testM_eq, testK_b, exS_app, exS_par, exS_tset, tsetK_t, exS_loop, runK_next, runK_ret, evO, evF, freshX, esc, escs, frz, ev_var, ev_lit, ev_bin, ev_neg, negK_i, ev_not, notK_b, ev_and, andK_b, ev_or, orK_b, ev_ite, iteK_b, ev_chn, chnK_le, ev_list, ev_tup, ev_idx, ev_slc, ev_rev, revK_l, ev_blt, ev_isi, isiK_s, ev_call, ev_comp, ev_compC, evs_cons, evs_nil, getV, isiD, List.length_cons, List.length_nil, List.map_cons, List.map_nil, List.replicate, List.append_eq, List.nil_append, List.cons_append, List.append_nil, List.getElem?_cons_zero, List.getElem?_cons_succ, Rs.of_some, Rs.bind_ok, Rs.bind_stuck, if_true, Bool.false_eq_true, if_false, List.set_cons_zero, List.set_cons_succ, Nat.zero_add, Nat.reduceAdd, Nat.reduceSub, add_ii, sub_ii, mul_2i, lt_ii, le_ii, gt_ii, ge_ii, len_ix, sorted_ix, sum_ix, eq_ix, ne_ix, turnE_one, turnC_one, turnC_b, turnL_one, reduceIte, Bool.not_true, Bool.not_false, Bool.true_eq_false, is_tt, isnot_tt, loopK_s, len_lit0])]
    simp only [all_bx, List.map_map, List.all_map, exSs_cons, exSs_nil, seqK_next, seqK_ret, exS_set, exS_ret, exS_exp, exS_skip, exS_never, exS_iff, ifK_b, testM_eq, testK_b, exS_app, exS_par, exS_tset, tsetK_t, exS_loop, runK_next, runK_ret, evO, evF, freshX, esc, escs, frz, ev_var, ev_lit, ev_bin, ev_neg, negK_i, ev_not, notK_b, ev_and, andK_b, ev_or, orK_b, ev_ite, iteK_b, ev_chn, chnK_le, ev_list, ev_tup, ev_idx, ev_slc, ev_rev, revK_l, ev_blt, ev_isi, isiK_s, ev_call, ev_comp, ev_compC, evs_cons, evs_nil, getV, isiD, List.length_cons, List.length_nil, List.map_cons, List.map_nil, List.replicate, List.append_eq, List.nil_append, List.cons_append, List.append_nil, List.getElem?_cons_zero, List.getElem?_cons_succ, Rs.of_some, Rs.bind_ok, Rs.bind_stuck, if_true, Bool.false_eq_true, if_false, List.set_cons_zero, List.set_cons_succ, Nat.zero_add, Nat.reduceAdd, Nat.reduceSub, add_ii, sub_ii, mul_2i, lt_ii, le_ii, gt_ii, ge_ii, len_ix, sorted_ix, sum_ix, eq_ix, ne_ix, turnE_one, turnC_one, turnC_b, turnL_one, reduceIte, Bool.not_true, Bool.not_false, Bool.true_eq_false, is_tt, isnot_tt, loopK_s, len_lit0]
    rw [← evB_rise]
    unfold evB
    cases q1 : (List.range (xs.length - 1)).all fun i => decide (0 ≤ xs.getD (i + 1) 0 - xs.getD i 0) with
    | true =>
      rw [show (List.range (xs.length - 1)).all (id ∘ ((fun x => decide (0 ≤ x)) ∘ fun q => xs.getD (q + 1) 0 - xs.getD q 0)) = true from q1]
      simp only [Bool.true_or, exSs_cons, exSs_nil, seqK_next, seqK_ret, exS_set, exS_ret, exS_exp, exS_skip, exS_never, exS_iff, ifK_b, testM_eq, testK_b, exS_app, exS_par, exS_tset, tsetK_t, exS_loop, runK_next, runK_ret, evO, evF, freshX, esc, escs, frz, ev_var, ev_lit, ev_bin, ev_neg, negK_i, ev_not, notK_b, ev_and, andK_b, ev_or, orK_b, ev_ite, iteK_b, ev_chn, chnK_le, ev_list, ev_tup, ev_idx, ev_slc, ev_rev, revK_l, ev_blt, ev_isi, isiK_s, ev_call, ev_comp, ev_compC, evs_cons, evs_nil, getV, isiD, List.length_cons, List.length_nil, List.map_cons, List.map_nil, List.replicate, List.append_eq, List.nil_append, List.cons_append, List.append_nil, List.getElem?_cons_zero, List.getElem?_cons_succ, Rs.of_some, Rs.bind_ok, Rs.bind_stuck, if_true, Bool.false_eq_true, if_false, List.set_cons_zero, List.set_cons_succ, Nat.zero_add, Nat.reduceAdd, Nat.reduceSub, add_ii, sub_ii, mul_2i, lt_ii, le_ii, gt_ii, ge_ii, len_ix, sorted_ix, sum_ix, eq_ix, ne_ix, turnE_one, turnC_one, turnC_b, turnL_one, reduceIte, Bool.not_true, Bool.not_false, Bool.true_eq_false, is_tt, isnot_tt, loopK_s, len_lit0]
    | false =>
      rw [show (List.range (xs.length - 1)).all (id ∘ ((fun x => decide (0 ≤ x)) ∘ fun q => xs.getD (q + 1) 0 - xs.getD q 0)) = false from q1]
      simp only [Bool.false_or, exSs_cons, exSs_nil, seqK_next, seqK_ret, exS_set, exS_ret, exS_exp, exS_skip, exS_never, exS_iff, ifK_b, testM_eq, testK_b, exS_app, exS_par, exS_tset, tsetK_t, exS_loop, runK_next, runK_ret, evO, evF, freshX, esc, escs, frz, ev_var, ev_lit, ev_bin, ev_neg, negK_i, ev_not, notK_b, ev_and, andK_b, ev_or, orK_b, ev_ite, iteK_b, ev_chn, chnK_le, ev_list, ev_tup, ev_idx, ev_slc, ev_rev, revK_l, ev_blt, ev_isi, isiK_s, ev_call, ev_comp, ev_compC, evs_cons, evs_nil, getV, isiD, List.length_cons, List.length_nil, List.map_cons, List.map_nil, List.replicate, List.append_eq, List.nil_append, List.cons_append, List.append_nil, List.getElem?_cons_zero, List.getElem?_cons_succ, Rs.of_some, Rs.bind_ok, Rs.bind_stuck, if_true, Bool.false_eq_true, if_false, List.set_cons_zero, List.set_cons_succ, Nat.zero_add, Nat.reduceAdd, Nat.reduceSub, add_ii, sub_ii, mul_2i, lt_ii, le_ii, gt_ii, ge_ii, len_ix, sorted_ix, sum_ix, eq_ix, ne_ix, turnE_one, turnC_one, turnC_b, turnL_one, reduceIte, Bool.not_true, Bool.not_false, Bool.true_eq_false, is_tt, isnot_tt, loopK_s, len_lit0]
      rw [run_seqB (xs := (List.range (xs.length - 1)).map fun q => xs.getD (q + 1) 0 - xs.getD q 0) (fun x => decide (x ≤ 0)) (by rw [List.length_map, List.length_range]; omega) (by simp only [exSs_cons, exSs_nil, seqK_next, seqK_ret, exS_set, exS_ret, exS_exp, exS_skip, exS_never, exS_iff, ifK_b, testM_eq, testK_b, exS_app, exS_par, exS_tset, tsetK_t, exS_loop, runK_next, runK_ret, evO, evF, freshX, esc, escs, frz, ev_var, ev_lit, ev_bin, ev_neg, negK_i, ev_not, notK_b, ev_and, andK_b, ev_or, orK_b, ev_ite, iteK_b, ev_chn, chnK_le, ev_list, ev_tup, ev_idx, ev_slc, ev_rev, revK_l, ev_blt, ev_isi, isiK_s, ev_call, ev_comp, ev_compC, evs_cons, evs_nil, getV, isiD, List.length_cons, List.length_nil, List.map_cons, List.map_nil, List.replicate, List.append_eq, List.nil_append, List.cons_append, List.append_nil, List.getElem?_cons_zero, List.getElem?_cons_succ, Rs.of_some, Rs.bind_ok, Rs.bind_stuck, if_true, Bool.false_eq_true, if_false, List.set_cons_zero, List.set_cons_succ, Nat.zero_add, Nat.reduceAdd, Nat.reduceSub, add_ii, sub_ii, mul_2i, lt_ii, le_ii, gt_ii, ge_ii, len_ix, sorted_ix, sum_ix, eq_ix, ne_ix, turnE_one, turnC_one, turnC_b, turnL_one, reduceIte, Bool.not_true, Bool.not_false, Bool.true_eq_false, is_tt, isnot_tt, loopK_s, len_lit0]) (fun x _ => by simp only [exSs_cons, exSs_nil, seqK_next, seqK_ret, exS_set, exS_ret, exS_exp, exS_skip, exS_never, exS_iff, ifK_b, testM_eq, testK_b, exS_app, exS_par, exS_tset, tsetK_t, exS_loop, runK_next, runK_ret, evO, evF, freshX, esc, escs, frz, ev_var, ev_lit, ev_bin, ev_neg, negK_i, ev_not, notK_b, ev_and, andK_b, ev_or, orK_b, ev_ite, iteK_b, ev_chn, chnK_le, ev_list, ev_tup, ev_idx, ev_slc, ev_rev, revK_l, ev_blt, ev_isi, isiK_s, ev_call, ev_comp, ev_compC, evs_cons, evs_nil, getV, isiD, List.length_cons, List.length_nil, List.map_cons, List.map_nil, List.replicate, List.append_eq, List.nil_append, List.cons_append, List.append_nil, List.getElem?_cons_zero, List.getElem?_cons_succ, Rs.of_some, Rs.bind_ok, Rs.bind_stuck, if_true, Bool.false_eq_true, if_false, List.set_cons_zero, List.set_cons_succ, Nat.zero_add, Nat.reduceAdd, Nat.reduceSub, add_ii, sub_ii, mul_2i, lt_ii, le_ii, gt_ii, ge_ii, len_ix, sorted_ix, sum_ix, eq_ix, ne_ix, turnE_one, turnC_one, turnC_b, turnL_one, reduceIte, Bool.not_true, Bool.not_false, Bool.true_eq_false, is_tt, isnot_tt, loopK_s, len_lit0])]
      simp only [all_bx, List.map_map, List.all_map, exSs_cons, exSs_nil, seqK_next, seqK_ret, exS_set, exS_ret, exS_exp, exS_skip, exS_never, exS_iff, ifK_b, testM_eq, testK_b, exS_app, exS_par, exS_tset, tsetK_t, exS_loop, runK_next, runK_ret, evO, evF, freshX, esc, escs, frz, ev_var, ev_lit, ev_bin, ev_neg, negK_i, ev_not, notK_b, ev_and, andK_b, ev_or, orK_b, ev_ite, iteK_b, ev_chn, chnK_le, ev_list, ev_tup, ev_idx, ev_slc, ev_rev, revK_l, ev_blt, ev_isi, isiK_s, ev_call, ev_comp, ev_compC, evs_cons, evs_nil, getV, isiD, List.length_cons, List.length_nil, List.map_cons, List.map_nil, List.replicate, List.append_eq, List.nil_append, List.cons_append, List.append_nil, List.getElem?_cons_zero, List.getElem?_cons_succ, Rs.of_some, Rs.bind_ok, Rs.bind_stuck, if_true, Bool.false_eq_true, if_false, List.set_cons_zero, List.set_cons_succ, Nat.zero_add, Nat.reduceAdd, Nat.reduceSub, add_ii, sub_ii, mul_2i, lt_ii, le_ii, gt_ii, ge_ii, len_ix, sorted_ix, sum_ix, eq_ix, ne_ix, turnE_one, turnC_one, turnC_b, turnL_one, reduceIte, Bool.not_true, Bool.not_false, Bool.true_eq_false, is_tt, isnot_tt, loopK_s, len_lit0]
      rfl
  rcases hd with rfl | rfl
  · exact key _ (.inl rfl)
  · exact key _ (.inr rfl)
/-! ### the first turn -/
theorem forM_first {f : D → MRho → T → Rs T Fl} {lo : Int} {n : Nat} (p : Nat → Bool) (v : Nat → D) (I : MRho → Prop) (h : ∀ j, j < n → ∀ r, I r → if p j = true then f (.int (lo + (j : Int))) r s = .ok (.ret (v j)) s else ∃ r', f (.int (lo + (j : Int))) r s = .ok (.next r') s ∧ I r') {r : MRho} (h0 : I r) :
    match (List.range n).find? p with
    | some j => forM f (upto lo n) r s = .ok (.ret (v j)) s
    | none => ∃ r', forM f (upto lo n) r s = .ok (.next r') s ∧ I r' := by
  have key : ∀ (m a : Nat) (r : MRho), a + m = n → I r → match (List.range' a m).find? p with
      | some j => forM f ((List.range' a m).map fun (i : Nat) => PyData.int (lo + (i : Int))) r s = .ok (.ret (v j)) s
      | none => ∃ r', forM f ((List.range' a m).map fun (i : Nat) => PyData.int (lo + (i : Int))) r s = .ok (.next r') s ∧ I r' := by
    intro m
    induction m with
    | zero => intro a r e hi; exact ⟨r, rfl, hi⟩
    | succ m ih =>
      intro a r e hi
      have q := h a (by omega) r hi
      rw [List.range'_succ, List.map_cons, List.find?_cons]
      simp only [forM]
      cases hp : p a with
      | true =>
        rw [hp, if_pos rfl] at q
        simp only
        rw [q]
        rfl
      | false =>
        rw [hp, if_neg Bool.false_ne_true] at q
        obtain ⟨r1, e1, i1⟩ := q
        simp only
        rw [e1]
        simp only [Rs.bind_ok]
        exact ih (a + 1) r1 (by omega) i1
  have := key n 0 r (by omega) h0
  rw [upto_map, List.range_eq_range']
  exact this
end
def turnB (row : List Int) (k : Nat) (b : Int) : Bool := !riseB (win row b (k + 2))
def firstM (row : List Int) (k : Nat) : Option Int := ((List.range (row.length + k + 1)).find? fun (b : Nat) => turnB row k ((b : Int) - (k : Int))).map fun (b : Nat) => (b : Int) - (k : Int)
def optD : Option Int → D
  | none => .none
  | some i => .int i
theorem flat_rise {row : List Int} {k : Nat} {b : Int} (h : ∀ p, b ≤ p → p < b + ((k + 2 : Nat) : Int) → near row p = near row b) : turnB row k b = false := by
  unfold turnB
  rw [rise_of (.inl fun p q h1 h2 h3 => by rw [h p h1 (by omega), h q (by omega) h3]; exact Int.le_refl _)]
  rfl
theorem no_turn_high {row : List Int} {k : Nat} {b : Int} (h : (row.length : Int) - 1 ≤ b) : turnB row k b = false := flat_rise fun p h1 _ => by rw [near_high (by omega : (row.length : Int) - 1 ≤ p), near_high h]
theorem no_turn_low {row : List Int} {k : Nat} {b : Int} (h : b < -(k : Int)) : turnB row k b = false := flat_rise fun p h1 h2 => by rw [near_low (by omega : p ≤ 0), near_low (by omega : b ≤ 0)]
theorem find_more (p : Nat → Bool) (n m : Nat) (h : ∀ i, n ≤ i → i < n + m → p i = false) : (List.range (n + m)).find? p = (List.range n).find? p := by
  rw [List.range_add, List.find?_append]
  have : ((List.range m).map fun x => n + x).find? p = none := by
    rw [List.find?_eq_none]
    intro x hx
    obtain ⟨y, hy, rfl⟩ := List.mem_map.mp hx
    rw [h (n + y) (by omega) (by have := List.mem_range.mp hy; omega)]
    exact Bool.false_ne_true
  rw [this, Option.or_none]
theorem first_none {row : List Int} {k : Nat} : firstM row k = none ↔ calmB row k = true := by
  unfold firstM calmB
  rw [Option.map_eq_none_iff, List.find?_eq_none, List.all_eq_true]
  constructor
  · intro h b hb
    have := h b (List.mem_range.mpr (by have := List.mem_range.mp hb; omega))
    unfold turnB at this
    simpa using this
  · intro h b hb
    by_cases q : b < row.length + k
    · have := h b (List.mem_range.mpr q)
      unfold turnB
      rw [this]
      simp
    · rw [no_turn_high (by omega)]
      simp
theorem riseB_iff {row : List Int} {a : Int} {w : Nat} : riseB (win row a w) = true → (∀ p q, a ≤ p → p < q → q < a + (w : Int) → near row p ≤ near row q) ∨ (∀ p q, a ≤ p → p < q → q < a + (w : Int) → near row q ≤ near row p) := by
  unfold riseB
  rw [Bool.or_eq_true, decide_eq_true_eq, decide_eq_true_eq]
  have get : ∀ (R : Int → Int → Prop), (win row a w).Pairwise R → ∀ p q, a ≤ p → p < q → q < a + (w : Int) → R (near row p) (near row q) := by
    intro R h p q h1 h2 h3
    unfold win at h
    rw [List.pairwise_map] at h
    have := (List.pairwise_iff_getElem.mp h) (p - a).toNat (q - a).toNat (by simp; omega) (by simp; omega) (by omega)
    simp only [List.getElem_range] at this
    rw [show a + ((p - a).toNat : Int) = p by omega, show a + ((q - a).toNat : Int) = q by omega] at this
    exact this
  rintro (h | h)
  · exact .inl (get (· ≤ ·) (by rw [h]; exact isort_sorted _))
  · exact .inr (get (fun x y => y ≤ x) (List.pairwise_reverse.mp (by rw [h]; exact isort_sorted _)))
/-- no peak and no valley within k + 2 neighbours: each value lies in an even stretch at each threshold -/
theorem calm_of_peaks {k : Nat} {g : Int → Int} (h : ∀ b p q r, b ≤ p → p < q → q < r → r ≤ b + (k : Int) + 1 → ¬ (g p < g q ∧ g r < g q) ∧ ¬ (g q < g p ∧ g q < g r)) : Calm k g := by
  intro i v
  refine Classical.byContradiction fun H => ?_
  have bad : ∀ c, i - (k : Int) ≤ c → c ≤ i → ∃ j, c ≤ j ∧ j ≤ c + (k : Int) ∧ ¬ (v ≤ g j ↔ v ≤ g i) := by
    intro c h1 h2
    refine Classical.byContradiction fun z => H ⟨c, h1, h2, fun j a b => Classical.byContradiction fun w => z ⟨j, a, b, w⟩⟩
  -- the nearest unlike one below
  have low : ∃ l, i - (k : Int) ≤ l ∧ l < i ∧ ¬ (v ≤ g l ↔ v ≤ g i) ∧ ∀ j, l < j → j ≤ i → (v ≤ g j ↔ v ≤ g i) := by
    have step : ∀ n : Nat, (∃ l, i - (n : Int) ≤ l ∧ l < i ∧ ¬ (v ≤ g l ↔ v ≤ g i)) → ∃ l, i - (n : Int) ≤ l ∧ l < i ∧ ¬ (v ≤ g l ↔ v ≤ g i) ∧ ∀ j, l < j → j ≤ i → (v ≤ g j ↔ v ≤ g i) := by
      intro n
      induction n with
      | zero => rintro ⟨l, a, b, _⟩; omega
      | succ n ih =>
        rintro ⟨l, a, b, c⟩
        by_cases q : ∃ l, i - (n : Int) ≤ l ∧ l < i ∧ ¬ (v ≤ g l ↔ v ≤ g i)
        · obtain ⟨l', a', r⟩ := ih q
          exact ⟨l', by omega, r⟩
        · refine ⟨l, a, b, c, fun j h1 h2 => Classical.byContradiction fun z => ?_⟩
          by_cases e : j = i
          · subst e; exact z Iff.rfl
          · exact q ⟨j, by omega, by omega, z⟩
    obtain ⟨j, a, b, c⟩ := bad (i - (k : Int)) (Int.le_refl _) (by omega)
    refine step k ⟨j, a, ?_, c⟩
    by_cases e : j = i
    · subst e; exact absurd Iff.rfl c
    · omega
  obtain ⟨l, l1, l2, l3, l4⟩ := low
  obtain ⟨j, j1, j2, j3⟩ := bad (l + 1) (by omega) (by omega)
  have ji : i < j := Classical.byContradiction fun z => j3 (l4 j (by omega) (by omega))
  obtain ⟨p1, p2⟩ := h l l i j (Int.le_refl _) l2 ji (by omega)
  by_cases q : v ≤ g i
  · exact p1 ⟨by have : ¬ v ≤ g l := fun z => l3 ⟨fun _ => q, fun _ => z⟩; omega, by have : ¬ v ≤ g j := fun z => j3 ⟨fun _ => q, fun _ => z⟩; omega⟩
  · have a : v ≤ g l := Classical.byContradiction fun z => l3 ⟨fun w => absurd w z, fun w => absurd w q⟩
    have b : v ≤ g j := Classical.byContradiction fun z => j3 ⟨fun w => absurd w z, fun w => absurd w q⟩
    exact p2 ⟨by omega, by omega⟩
theorem calmB_calm {row : List Int} {k : Nat} (h : calmB row k = true) : Calm k (near row) := by
  have hb : ∀ b : Int, turnB row k b = false := by
    intro b
    by_cases q1 : b < -(k : Int)
    · exact no_turn_low q1
    · by_cases q2 : (row.length : Int) - 1 ≤ b
      · exact no_turn_high q2
      · unfold calmB at h
        have := List.all_eq_true.mp h (b + (k : Int)).toNat (List.mem_range.mpr (by omega))
        rw [show (((b + (k : Int)).toNat : Nat) : Int) - (k : Int) = b by omega] at this
        unfold turnB
        rw [this]
        rfl
  refine calm_of_peaks fun b p q r h1 h2 h3 h4 => ?_
  have := hb b
  unfold turnB at this
  have this : riseB (win row b (k + 2)) = true := by simpa using this
  rcases riseB_iff this with m | m
  · have a := m p q h1 h2 (by omega)
    have c := m q r (by omega) h3 (by omega)
    exact ⟨fun z => by omega, fun z => by omega⟩
  · have a := m p q h1 h2 (by omega)
    have c := m q r (by omega) h3 (by omega)
    exact ⟨fun z => by omega, fun z => by omega⟩
theorem calmB_root {row : List Int} (h0 : row ≠ []) (k : Nat) : calmB row k = decide (medianM row k = row) := by
  by_cases q : medianM row k = row
  · rw [decide_eq_true q]
    exact calm_calmB (row_calm h0 q)
  · rw [decide_eq_false q]
    cases e : calmB row k with
    | false => rfl
    | true => exact absurd (median_calm (calmB_calm e)) q
theorem calm_less {k : Nat} {g : Int → Int} (h : Calm (k + 1) g) : Calm k g := by
  intro i v
  obtain ⟨c, h1, h2, h3⟩ := h i v
  by_cases q : c = i - ((k + 1 : Nat) : Int)
  · exact ⟨i - (k : Int), by omega, by omega, fun j a b => h3 j (by omega) (by omega)⟩
  · exact ⟨c, by omega, h2, fun j a b => h3 j a (by omega)⟩
theorem calmB_less {row : List Int} {k : Nat} (h : calmB row (k + 1) = true) : calmB row k = true := calm_calmB (calm_less (calmB_calm h))
section
variable {T : Type} {TB : Tab T} {r : MRho} {s : T}
def firstD {T : Type} : List D → T → Rs T D := onRK isRow fun row k => optD (firstM row k)
theorem longerD_eq {row : List Int} {k : Nat} (hp : small row) (k1 : 1 ≤ k) (k3 : k ≤ 3) : longerD [.list (ix row), .int (k : Int)] s = .ok (.list (ix (longerM row k))) s := onRK_eq hp k1 k3
def code_first_turn : List Cm := [.exp (.call 4 [.var 0, .var 1]), .set 2 (.call 5 [.var 0, .var 1]), .loop (.one 3) .rng [.bin .sub (.bin .sub (.blt .len [.var 2]) (.var 1)) (.lit (.int 1))] [.iff (.not (.call 16 [.slc (.var 2) (.var 3) (.bin .add (.bin .add (.var 3) (.var 1)) (.lit (.int 2)))])) [.ret (.bin .sub (.var 3) (.var 1))] []], .ret (.lit (.none))]
theorem run_first_turn (h4a : TB.ar 4 = 2) (h4 : TB.F 4 = checkBothD) (h5a : TB.ar 5 = 2) (h5 : TB.F 5 = longerD) (h16a : TB.ar 16 = 1) (h16 : TB.F 16 = evenD) : ∀ (ds : List D) (s : T), ds.length = 2 → firstD ds s ≠ .stuck → runD TB 4 code_first_turn ds s = firstD ds s := by
  intro ds s hlen h
  obtain ⟨row, k, rfl, hp, k1, k3, e⟩ := onRK_inv h
  rw [show firstD [.list (ix row), .int (k : Int)] s = _ from e, runD_eq]
  have h12 := hp.2.1
  have h1 := hp.1
  have hlon := longerM_length row k
  simp only [code_first_turn, h4a, h4, h5a, h5, checkBothD_eq hp k1 k3, longerD_eq hp.small k1 k3, hlon, exSs_cons, exSs_nil, seqK_next, seqK_ret, exS_set, exS_ret, exS_exp, exS_skip, exS_never, exS_iff, ifK_b, testM_eq, testK_b, exS_app, exS_par, exS_tset, tsetK_t, exS_loop, runK_next, runK_ret, evO, evF, freshX, esc, escs, frz, ev_var, ev_lit, ev_bin, ev_neg, negK_i, ev_not, notK_b, ev_and, andK_b, ev_or, orK_b, ev_ite, iteK_b, ev_chn, chnK_le, ev_list, ev_tup, ev_idx, ev_slc, ev_rev, revK_l, ev_blt, ev_isi, isiK_s, ev_call, ev_comp, ev_compC, evs_cons, evs_nil, getV, isiD, List.length_cons, List.length_nil, List.map_cons, List.map_nil, List.replicate, List.append_eq, List.nil_append, List.cons_append, List.append_nil, List.getElem?_cons_zero, List.getElem?_cons_succ, Rs.of_some, Rs.bind_ok, Rs.bind_stuck, if_true, Bool.false_eq_true, if_false, List.set_cons_zero, List.set_cons_succ, Nat.zero_add, Nat.reduceAdd, Nat.reduceSub, add_ii, sub_ii, mul_2i, lt_ii, le_ii, gt_ii, ge_ii, len_ix, sorted_ix, sum_ix, eq_ix, ne_ix, turnE_one, turnC_one, turnC_b, turnL_one, reduceIte, Bool.not_true, Bool.not_false, Bool.true_eq_false, is_tt, isnot_tt, loopK_s, len_lit0]
  rw [show ((row.length + 2 * k : Nat) : Int) - (k : Int) - 1 = ((row.length + k - 1 : Nat) : Int) by omega, src_rng1' (lim_ok (by omega))]
  simp only [exSs_cons, exSs_nil, seqK_next, seqK_ret, exS_set, exS_ret, exS_exp, exS_skip, exS_never, exS_iff, ifK_b, testM_eq, testK_b, exS_app, exS_par, exS_tset, tsetK_t, exS_loop, runK_next, runK_ret, evO, evF, freshX, esc, escs, frz, ev_var, ev_lit, ev_bin, ev_neg, negK_i, ev_not, notK_b, ev_and, andK_b, ev_or, orK_b, ev_ite, iteK_b, ev_chn, chnK_le, ev_list, ev_tup, ev_idx, ev_slc, ev_rev, revK_l, ev_blt, ev_isi, isiK_s, ev_call, ev_comp, ev_compC, evs_cons, evs_nil, getV, isiD, List.length_cons, List.length_nil, List.map_cons, List.map_nil, List.replicate, List.append_eq, List.nil_append, List.cons_append, List.append_nil, List.getElem?_cons_zero, List.getElem?_cons_succ, Rs.of_some, Rs.bind_ok, Rs.bind_stuck, if_true, Bool.false_eq_true, if_false, List.set_cons_zero, List.set_cons_succ, Nat.zero_add, Nat.reduceAdd, Nat.reduceSub, add_ii, sub_ii, mul_2i, lt_ii, le_ii, gt_ii, ge_ii, len_ix, sorted_ix, sum_ix, eq_ix, ne_ix, turnE_one, turnC_one, turnC_b, turnL_one, reduceIte, Bool.not_true, Bool.not_false, Bool.true_eq_false, is_tt, isnot_tt, loopK_s, len_lit0]
  have key := forM_first (s := s) (f := turnL TB (.one 3) [.iff (.not (.call 16 [.slc (.var 2) (.var 3) (.bin .add (.bin .add (.var 3) (.var 1)) (.lit (.int 2)))])) [.ret (.bin .sub (.var 3) (.var 1))] []]) (lo := 0) (n := row.length + k - 1)
    (fun (b : Nat) => turnB row k ((b : Int) - (k : Int))) (fun (b : Nat) => .int ((b : Int) - (k : Int))) (fun r => ∃ a1, r = [.val (.list (ix row)), .val (.int (k : Int)), .val (.list (ix (longerM row k))), a1]) (fun j hj r' ⟨a1, er⟩ => ?_) (r := [.val (.list (ix row)), .val (.int (k : Int)), .val (.list (ix (longerM row k))), .un]) ⟨_, rfl⟩
  · have hf : firstM row k = ((List.range (row.length + k - 1)).find? fun (b : Nat) => turnB row k ((b : Int) - (k : Int))).map fun (b : Nat) => (b : Int) - (k : Int) := by
      unfold firstM
      rw [show row.length + k + 1 = (row.length + k - 1) + 2 by omega, find_more _ _ _ fun i h1 h2 => no_turn_high (by omega)]
    cases q : (List.range (row.length + k - 1)).find? fun (b : Nat) => turnB row k ((b : Int) - (k : Int)) with
    | some j =>
      rw [q] at key hf
      simp only at key
      rw [key, hf]
      simp only [exSs_cons, exSs_nil, seqK_next, seqK_ret, exS_set, exS_ret, exS_exp, exS_skip, exS_never, exS_iff, ifK_b, testM_eq, testK_b, exS_app, exS_par, exS_tset, tsetK_t, exS_loop, runK_next, runK_ret, evO, evF, freshX, esc, escs, frz, ev_var, ev_lit, ev_bin, ev_neg, negK_i, ev_not, notK_b, ev_and, andK_b, ev_or, orK_b, ev_ite, iteK_b, ev_chn, chnK_le, ev_list, ev_tup, ev_idx, ev_slc, ev_rev, revK_l, ev_blt, ev_isi, isiK_s, ev_call, ev_comp, ev_compC, evs_cons, evs_nil, getV, isiD, List.length_cons, List.length_nil, List.map_cons, List.map_nil, List.replicate, List.append_eq, List.nil_append, List.cons_append, List.append_nil, List.getElem?_cons_zero, List.getElem?_cons_succ, Rs.of_some, Rs.bind_ok, Rs.bind_stuck, if_true, Bool.false_eq_true, if_false, List.set_cons_zero, List.set_cons_succ, Nat.zero_add, Nat.reduceAdd, Nat.reduceSub, add_ii, sub_ii, mul_2i, lt_ii, le_ii, gt_ii, ge_ii, len_ix, sorted_ix, sum_ix, eq_ix, ne_ix, turnE_one, turnC_one, turnC_b, turnL_one, reduceIte, Bool.not_true, Bool.not_false, Bool.true_eq_false, is_tt, isnot_tt, loopK_s, len_lit0]
      rfl
    | none =>
      rw [q] at key hf
      obtain ⟨r', e1, a1, e2⟩ := key
      subst e2
      rw [e1, hf]
      simp only [exSs_cons, exSs_nil, seqK_next, seqK_ret, exS_set, exS_ret, exS_exp, exS_skip, exS_never, exS_iff, ifK_b, testM_eq, testK_b, exS_app, exS_par, exS_tset, tsetK_t, exS_loop, runK_next, runK_ret, evO, evF, freshX, esc, escs, frz, ev_var, ev_lit, ev_bin, ev_neg, negK_i, ev_not, notK_b, ev_and, andK_b, ev_or, orK_b, ev_ite, iteK_b, ev_chn, chnK_le, ev_list, ev_tup, ev_idx, ev_slc, ev_rev, revK_l, ev_blt, ev_isi, isiK_s, ev_call, ev_comp, ev_compC, evs_cons, evs_nil, getV, isiD, List.length_cons, List.length_nil, List.map_cons, List.map_nil, List.replicate, List.append_eq, List.nil_append, List.cons_append, List.append_nil, List.getElem?_cons_zero, List.getElem?_cons_succ, Rs.of_some, Rs.bind_ok, Rs.bind_stuck, if_true, Bool.false_eq_true, if_false, List.set_cons_zero, List.set_cons_succ, Nat.zero_add, Nat.reduceAdd, Nat.reduceSub, add_ii, sub_ii, mul_2i, lt_ii, le_ii, gt_ii, ge_ii, len_ix, sorted_ix, sum_ix, eq_ix, ne_ix, turnE_one, turnC_one, turnC_b, turnL_one, reduceIte, Bool.not_true, Bool.not_false, Bool.true_eq_false, is_tt, isnot_tt, loopK_s, len_lit0]
      rfl
  · subst er
    have e0 : (0 : Int) + (j : Int) = (j : Int) := by omega
    have hE : evenD [.list (ix (win row ((j : Int) - (k : Int)) (k + 2)))] s = .ok (.bool (riseB (win row ((j : Int) - (k : Int)) (k + 2)))) s := onS_list ⟨fun z => by have := win_length row ((j : Int) - (k : Int)) (k + 2); rw [z] at this; simp at this, by rw [win_length]; omega⟩
    rw [turnL_one]
    simp only [e0, h16a, h16, exSs_cons, exSs_nil, seqK_next, seqK_ret, exS_set, exS_ret, exS_exp, exS_skip, exS_never, exS_iff, ifK_b, testM_eq, testK_b, exS_app, exS_par, exS_tset, tsetK_t, exS_loop, runK_next, runK_ret, evO, evF, freshX, esc, escs, frz, ev_var, ev_lit, ev_bin, ev_neg, negK_i, ev_not, notK_b, ev_and, andK_b, ev_or, orK_b, ev_ite, iteK_b, ev_chn, chnK_le, ev_list, ev_tup, ev_idx, ev_slc, ev_rev, revK_l, ev_blt, ev_isi, isiK_s, ev_call, ev_comp, ev_compC, evs_cons, evs_nil, getV, isiD, List.length_cons, List.length_nil, List.map_cons, List.map_nil, List.replicate, List.append_eq, List.nil_append, List.cons_append, List.append_nil, List.getElem?_cons_zero, List.getElem?_cons_succ, Rs.of_some, Rs.bind_ok, Rs.bind_stuck, if_true, Bool.false_eq_true, if_false, List.set_cons_zero, List.set_cons_succ, Nat.zero_add, Nat.reduceAdd, Nat.reduceSub, add_ii, sub_ii, mul_2i, lt_ii, le_ii, gt_ii, ge_ii, len_ix, sorted_ix, sum_ix, eq_ix, ne_ix, turnE_one, turnC_one, turnC_b, turnL_one, reduceIte, Bool.not_true, Bool.not_false, Bool.true_eq_false, is_tt, isnot_tt, loopK_s, len_lit0]
    rw [slc_ix (a := j) (b := j + (k + 2)) (h := .int ((j : Int) + (k : Int) + 2)) (by simp only [bndX]) (by simp only [exSs_cons, exSs_nil, seqK_next, seqK_ret, exS_set, exS_ret, exS_exp, exS_skip, exS_never, exS_iff, ifK_b, testM_eq, testK_b, exS_app, exS_par, exS_tset, tsetK_t, exS_loop, runK_next, runK_ret, evO, evF, freshX, esc, escs, frz, ev_var, ev_lit, ev_bin, ev_neg, negK_i, ev_not, notK_b, ev_and, andK_b, ev_or, orK_b, ev_ite, iteK_b, ev_chn, chnK_le, ev_list, ev_tup, ev_idx, ev_slc, ev_rev, revK_l, ev_blt, ev_isi, isiK_s, ev_call, ev_comp, ev_compC, evs_cons, evs_nil, getV, isiD, List.length_cons, List.length_nil, List.map_cons, List.map_nil, List.replicate, List.append_eq, List.nil_append, List.cons_append, List.append_nil, List.getElem?_cons_zero, List.getElem?_cons_succ, Rs.of_some, Rs.bind_ok, Rs.bind_stuck, if_true, Bool.false_eq_true, if_false, List.set_cons_zero, List.set_cons_succ, Nat.zero_add, Nat.reduceAdd, Nat.reduceSub, add_ii, sub_ii, mul_2i, lt_ii, le_ii, gt_ii, ge_ii, len_ix, sorted_ix, sum_ix, eq_ix, ne_ix, turnE_one, turnC_one, turnC_b, turnL_one, reduceIte, Bool.not_true, Bool.not_false, Bool.true_eq_false, is_tt, isnot_tt, loopK_s, len_lit0]) (by simp only [bndX]; congr 2 <;> omega) (by omega) (by rw [hlon]; omega)]
    rw [Nat.add_sub_cancel_left, longerM_cut hp.ne (by omega)]
    simp only [hE, exSs_cons, exSs_nil, seqK_next, seqK_ret, exS_set, exS_ret, exS_exp, exS_skip, exS_never, exS_iff, ifK_b, testM_eq, testK_b, exS_app, exS_par, exS_tset, tsetK_t, exS_loop, runK_next, runK_ret, evO, evF, freshX, esc, escs, frz, ev_var, ev_lit, ev_bin, ev_neg, negK_i, ev_not, notK_b, ev_and, andK_b, ev_or, orK_b, ev_ite, iteK_b, ev_chn, chnK_le, ev_list, ev_tup, ev_idx, ev_slc, ev_rev, revK_l, ev_blt, ev_isi, isiK_s, ev_call, ev_comp, ev_compC, evs_cons, evs_nil, getV, isiD, List.length_cons, List.length_nil, List.map_cons, List.map_nil, List.replicate, List.append_eq, List.nil_append, List.cons_append, List.append_nil, List.getElem?_cons_zero, List.getElem?_cons_succ, Rs.of_some, Rs.bind_ok, Rs.bind_stuck, if_true, Bool.false_eq_true, if_false, List.set_cons_zero, List.set_cons_succ, Nat.zero_add, Nat.reduceAdd, Nat.reduceSub, add_ii, sub_ii, mul_2i, lt_ii, le_ii, gt_ii, ge_ii, len_ix, sorted_ix, sum_ix, eq_ix, ne_ix, turnE_one, turnC_one, turnC_b, turnL_one, reduceIte, Bool.not_true, Bool.not_false, Bool.true_eq_false, is_tt, isnot_tt, loopK_s, len_lit0]
    unfold turnB
    cases riseB (win row ((j : Int) - (k : Int)) (k + 2)) with
    | true =>
      simp only [exSs_cons, exSs_nil, seqK_next, seqK_ret, exS_set, exS_ret, exS_exp, exS_skip, exS_never, exS_iff, ifK_b, testM_eq, testK_b, exS_app, exS_par, exS_tset, tsetK_t, exS_loop, runK_next, runK_ret, evO, evF, freshX, esc, escs, frz, ev_var, ev_lit, ev_bin, ev_neg, negK_i, ev_not, notK_b, ev_and, andK_b, ev_or, orK_b, ev_ite, iteK_b, ev_chn, chnK_le, ev_list, ev_tup, ev_idx, ev_slc, ev_rev, revK_l, ev_blt, ev_isi, isiK_s, ev_call, ev_comp, ev_compC, evs_cons, evs_nil, getV, isiD, List.length_cons, List.length_nil, List.map_cons, List.map_nil, List.replicate, List.append_eq, List.nil_append, List.cons_append, List.append_nil, List.getElem?_cons_zero, List.getElem?_cons_succ, Rs.of_some, Rs.bind_ok, Rs.bind_stuck, if_true, Bool.false_eq_true, if_false, List.set_cons_zero, List.set_cons_succ, Nat.zero_add, Nat.reduceAdd, Nat.reduceSub, add_ii, sub_ii, mul_2i, lt_ii, le_ii, gt_ii, ge_ii, len_ix, sorted_ix, sum_ix, eq_ix, ne_ix, turnE_one, turnC_one, turnC_b, turnL_one, reduceIte, Bool.not_true, Bool.not_false, Bool.true_eq_false, is_tt, isnot_tt, loopK_s, len_lit0]
      exact ⟨_, rfl, _, rfl⟩
    | false => simp only [exSs_cons, exSs_nil, seqK_next, seqK_ret, exS_set, exS_ret, exS_exp, exS_skip, exS_never, exS_iff, ifK_b, testM_eq, testK_b, exS_app, exS_par, exS_tset, tsetK_t, exS_loop, runK_next, runK_ret, evO, evF, freshX, esc, escs, frz, ev_var, ev_lit, ev_bin, ev_neg, negK_i, ev_not, notK_b, ev_and, andK_b, ev_or, orK_b, ev_ite, iteK_b, ev_chn, chnK_le, ev_list, ev_tup, ev_idx, ev_slc, ev_rev, revK_l, ev_blt, ev_isi, isiK_s, ev_call, ev_comp, ev_compC, evs_cons, evs_nil, getV, isiD, List.length_cons, List.length_nil, List.map_cons, List.map_nil, List.replicate, List.append_eq, List.nil_append, List.cons_append, List.append_nil, List.getElem?_cons_zero, List.getElem?_cons_succ, Rs.of_some, Rs.bind_ok, Rs.bind_stuck, if_true, Bool.false_eq_true, if_false, List.set_cons_zero, List.set_cons_succ, Nat.zero_add, Nat.reduceAdd, Nat.reduceSub, add_ii, sub_ii, mul_2i, lt_ii, le_ii, gt_ii, ge_ii, len_ix, sorted_ix, sum_ix, eq_ix, ne_ix, turnE_one, turnC_one, turnC_b, turnL_one, reduceIte, Bool.not_true, Bool.not_false, Bool.true_eq_false, is_tt, isnot_tt, loopK_s, len_lit0]
/-! ### the greatest radius -/
def rootsOf (row : List Int) : List Int := ([1, 2, 3] : List Int).filter fun k => decide (medianM row k.toNat = row)
def grD {T : Type} : List D → T → Rs T D := onR isRow fun row => .int (maxL (0 :: rootsOf row))
theorem run_three {elt c : Xp} {src : List Xp} {tg : Tg} (p : Int → Bool) (hs : evs TB true r src s = .ok [.tuple [.int 1, .int 2, .int 3]] s) (he : ∀ k : Int, 1 ≤ k → k ≤ 3 → turnC TB r tg elt c (.int k) s = .ok (if p k = true then some (.int k) else none) s) : compF TB .seq src r (turnC TB r tg elt c) s = .ok (ix (([1, 2, 3] : List Int).filter p)) s := by
  refine compF_of hs rfl (lim_ok (by simp)) ?_
  show compM _ (([1, 2, 3] : List Int).map PyData.int) s = _
  rw [compM_fmap (p := p) (g := PyData.int) fun x hx => he x (by simp at hx; omega) (by simp at hx; omega)]
  rfl
def code_greatest_radius : List Cm := [.exp (.call 4 [.var 0, .lit (.int 1)]), .ret (.blt .max [.bin .add (.list [.lit (.int 0)]) (.comp (.var 1) (.one 1) .seq [.tup [.lit (.int 1), .lit (.int 2), .lit (.int 3)]] (some (.bin .eq (.call 6 [.var 0, .var 1]) (.var 0))))])]
theorem run_greatest (h4a : TB.ar 4 = 2) (h4 : TB.F 4 = checkBothD) (h6a : TB.ar 6 = 2) (h6 : TB.F 6 = medianD) : ∀ (ds : List D) (s : T), ds.length = 1 → grD ds s ≠ .stuck → runD TB 2 code_greatest_radius ds s = grD ds s := by
  intro ds s hlen h
  obtain ⟨row, rfl, hp, e⟩ := onR_inv h
  rw [show grD [.list (ix row)] s = _ from e, runD_eq]
  have hc := checkBothD_eq (s := s) hp (k := 1) (by omega) (by omega)
  rw [show ((1 : Nat) : Int) = 1 from rfl] at hc
  simp only [code_greatest_radius, h4a, h4, hc, one_lim, exSs_cons, exSs_nil, seqK_next, seqK_ret, exS_set, exS_ret, exS_exp, exS_skip, exS_never, exS_iff, ifK_b, testM_eq, testK_b, exS_app, exS_par, exS_tset, tsetK_t, exS_loop, runK_next, runK_ret, evO, evF, freshX, esc, escs, frz, ev_var, ev_lit, ev_bin, ev_neg, negK_i, ev_not, notK_b, ev_and, andK_b, ev_or, orK_b, ev_ite, iteK_b, ev_chn, chnK_le, ev_list, ev_tup, ev_idx, ev_slc, ev_rev, revK_l, ev_blt, ev_isi, isiK_s, ev_call, ev_comp, ev_compC, evs_cons, evs_nil, getV, isiD, List.length_cons, List.length_nil, List.map_cons, List.map_nil, List.replicate, List.append_eq, List.nil_append, List.cons_append, List.append_nil, List.getElem?_cons_zero, List.getElem?_cons_succ, Rs.of_some, Rs.bind_ok, Rs.bind_stuck, if_true, Bool.false_eq_true, if_false, List.set_cons_zero, List.set_cons_succ, Nat.zero_add, Nat.reduceAdd, Nat.reduceSub, add_ii, sub_ii, mul_2i, lt_ii, le_ii, gt_ii, ge_ii, len_ix, sorted_ix, sum_ix, eq_ix, ne_ix, turnE_one, turnC_one, turnC_b, turnL_one, reduceIte, Bool.not_true, Bool.not_false, Bool.true_eq_false, is_tt, isnot_tt, loopK_s, len_lit0]
  rw [run_three (fun k => decide (medianM row k.toNat = row)) (by simp only [three_lim, exSs_cons, exSs_nil, seqK_next, seqK_ret, exS_set, exS_ret, exS_exp, exS_skip, exS_never, exS_iff, ifK_b, testM_eq, testK_b, exS_app, exS_par, exS_tset, tsetK_t, exS_loop, runK_next, runK_ret, evO, evF, freshX, esc, escs, frz, ev_var, ev_lit, ev_bin, ev_neg, negK_i, ev_not, notK_b, ev_and, andK_b, ev_or, orK_b, ev_ite, iteK_b, ev_chn, chnK_le, ev_list, ev_tup, ev_idx, ev_slc, ev_rev, revK_l, ev_blt, ev_isi, isiK_s, ev_call, ev_comp, ev_compC, evs_cons, evs_nil, getV, isiD, List.length_cons, List.length_nil, List.map_cons, List.map_nil, List.replicate, List.append_eq, List.nil_append, List.cons_append, List.append_nil, List.getElem?_cons_zero, List.getElem?_cons_succ, Rs.of_some, Rs.bind_ok, Rs.bind_stuck, if_true, Bool.false_eq_true, if_false, List.set_cons_zero, List.set_cons_succ, Nat.zero_add, Nat.reduceAdd, Nat.reduceSub, add_ii, sub_ii, mul_2i, lt_ii, le_ii, gt_ii, ge_ii, len_ix, sorted_ix, sum_ix, eq_ix, ne_ix, turnE_one, turnC_one, turnC_b, turnL_one, reduceIte, Bool.not_true, Bool.not_false, Bool.true_eq_false, is_tt, isnot_tt, loopK_s, len_lit0]) (fun k a b => by
    have hm := medianD_eq (s := s) hp.small (k := k.toNat) (by omega) (by omega)
    rw [Int.toNat_of_nonneg (by omega)] at hm
    simp only [h6a, h6, hm, exSs_cons, exSs_nil, seqK_next, seqK_ret, exS_set, exS_ret, exS_exp, exS_skip, exS_never, exS_iff, ifK_b, testM_eq, testK_b, exS_app, exS_par, exS_tset, tsetK_t, exS_loop, runK_next, runK_ret, evO, evF, freshX, esc, escs, frz, ev_var, ev_lit, ev_bin, ev_neg, negK_i, ev_not, notK_b, ev_and, andK_b, ev_or, orK_b, ev_ite, iteK_b, ev_chn, chnK_le, ev_list, ev_tup, ev_idx, ev_slc, ev_rev, revK_l, ev_blt, ev_isi, isiK_s, ev_call, ev_comp, ev_compC, evs_cons, evs_nil, getV, isiD, List.length_cons, List.length_nil, List.map_cons, List.map_nil, List.replicate, List.append_eq, List.nil_append, List.cons_append, List.append_nil, List.getElem?_cons_zero, List.getElem?_cons_succ, Rs.of_some, Rs.bind_ok, Rs.bind_stuck, if_true, Bool.false_eq_true, if_false, List.set_cons_zero, List.set_cons_succ, Nat.zero_add, Nat.reduceAdd, Nat.reduceSub, add_ii, sub_ii, mul_2i, lt_ii, le_ii, gt_ii, ge_ii, len_ix, sorted_ix, sum_ix, eq_ix, ne_ix, turnE_one, turnC_one, turnC_b, turnL_one, reduceIte, Bool.not_true, Bool.not_false, Bool.true_eq_false, is_tt, isnot_tt, loopK_s, len_lit0]
    by_cases q : medianM row k.toNat = row <;> simp only [q, decide_true, decide_false, exSs_cons, exSs_nil, seqK_next, seqK_ret, exS_set, exS_ret, exS_exp, exS_skip, exS_never, exS_iff, ifK_b, testM_eq, testK_b, exS_app, exS_par, exS_tset, tsetK_t, exS_loop, runK_next, runK_ret, evO, evF, freshX, esc, escs, frz, ev_var, ev_lit, ev_bin, ev_neg, negK_i, ev_not, notK_b, ev_and, andK_b, ev_or, orK_b, ev_ite, iteK_b, ev_chn, chnK_le, ev_list, ev_tup, ev_idx, ev_slc, ev_rev, revK_l, ev_blt, ev_isi, isiK_s, ev_call, ev_comp, ev_compC, evs_cons, evs_nil, getV, isiD, List.length_cons, List.length_nil, List.map_cons, List.map_nil, List.replicate, List.append_eq, List.nil_append, List.cons_append, List.append_nil, List.getElem?_cons_zero, List.getElem?_cons_succ, Rs.of_some, Rs.bind_ok, Rs.bind_stuck, if_true, Bool.false_eq_true, if_false, List.set_cons_zero, List.set_cons_succ, Nat.zero_add, Nat.reduceAdd, Nat.reduceSub, add_ii, sub_ii, mul_2i, lt_ii, le_ii, gt_ii, ge_ii, len_ix, sorted_ix, sum_ix, eq_ix, ne_ix, turnE_one, turnC_one, turnC_b, turnL_one, reduceIte, Bool.not_true, Bool.not_false, Bool.true_eq_false, is_tt, isnot_tt, loopK_s, len_lit0])]
  have hl : (([1, 2, 3] : List Int).filter fun k => decide (medianM row k.toNat = row)).length ≤ 3 := List.length_filter_le _ _
  rw [show ([.int 0] : List D) = ix [0] from rfl]
  simp only [cat_ix (xs := [0]) (ys := ([1, 2, 3] : List Int).filter fun k => decide (medianM row k.toNat = row)) (by simp only [List.length_cons, List.length_nil]; omega), exSs_cons, exSs_nil, seqK_next, seqK_ret, exS_set, exS_ret, exS_exp, exS_skip, exS_never, exS_iff, ifK_b, testM_eq, testK_b, exS_app, exS_par, exS_tset, tsetK_t, exS_loop, runK_next, runK_ret, evO, evF, freshX, esc, escs, frz, ev_var, ev_lit, ev_bin, ev_neg, negK_i, ev_not, notK_b, ev_and, andK_b, ev_or, orK_b, ev_ite, iteK_b, ev_chn, chnK_le, ev_list, ev_tup, ev_idx, ev_slc, ev_rev, revK_l, ev_blt, ev_isi, isiK_s, ev_call, ev_comp, ev_compC, evs_cons, evs_nil, getV, isiD, List.length_cons, List.length_nil, List.map_cons, List.map_nil, List.replicate, List.append_eq, List.nil_append, List.cons_append, List.append_nil, List.getElem?_cons_zero, List.getElem?_cons_succ, Rs.of_some, Rs.bind_ok, Rs.bind_stuck, if_true, Bool.false_eq_true, if_false, List.set_cons_zero, List.set_cons_succ, Nat.zero_add, Nat.reduceAdd, Nat.reduceSub, add_ii, sub_ii, mul_2i, lt_ii, le_ii, gt_ii, ge_ii, len_ix, sorted_ix, sum_ix, eq_ix, ne_ix, turnE_one, turnC_one, turnC_b, turnL_one, reduceIte, Bool.not_true, Bool.not_false, Bool.true_eq_false, is_tt, isnot_tt, loopK_s, len_lit0]
  rw [max_ix (xs := 0 :: List.filter (fun k => decide (medianM row k.toNat = row)) [1, 2, 3]) (List.cons_ne_nil _ _)]
  simp only [exSs_cons, exSs_nil, seqK_next, seqK_ret, exS_set, exS_ret, exS_exp, exS_skip, exS_never, exS_iff, ifK_b, testM_eq, testK_b, exS_app, exS_par, exS_tset, tsetK_t, exS_loop, runK_next, runK_ret, evO, evF, freshX, esc, escs, frz, ev_var, ev_lit, ev_bin, ev_neg, negK_i, ev_not, notK_b, ev_and, andK_b, ev_or, orK_b, ev_ite, iteK_b, ev_chn, chnK_le, ev_list, ev_tup, ev_idx, ev_slc, ev_rev, revK_l, ev_blt, ev_isi, isiK_s, ev_call, ev_comp, ev_compC, evs_cons, evs_nil, getV, isiD, List.length_cons, List.length_nil, List.map_cons, List.map_nil, List.replicate, List.append_eq, List.nil_append, List.cons_append, List.append_nil, List.getElem?_cons_zero, List.getElem?_cons_succ, Rs.of_some, Rs.bind_ok, Rs.bind_stuck, if_true, Bool.false_eq_true, if_false, List.set_cons_zero, List.set_cons_succ, Nat.zero_add, Nat.reduceAdd, Nat.reduceSub, add_ii, sub_ii, mul_2i, lt_ii, le_ii, gt_ii, ge_ii, len_ix, sorted_ix, sum_ix, eq_ix, ne_ix, turnE_one, turnC_one, turnC_b, turnL_one, reduceIte, Bool.not_true, Bool.not_false, Bool.true_eq_false, is_tt, isnot_tt, loopK_s, len_lit0]
  rfl
end
/-! ### from the end down -/
def dnF (row : List Int) (k : Nat) : Nat → Option Int
  | 0 => none
  | j + 1 => if turnB row k ((row.length : Int) - (j : Int)) = true then some ((row.length : Int) - (j : Int)) else dnF row k j
theorem dnF_eq (row : List Int) (k : Nat) : ∀ m, dnF row k m = ((List.range m).find? fun (b : Nat) => turnB row k ((row.length : Int) - (m : Int) + 1 + (b : Int))).map fun (b : Nat) => (row.length : Int) - (m : Int) + 1 + (b : Int)
  | 0 => rfl
  | m + 1 => by
    rw [List.range_succ_eq_map, List.find?_cons, List.find?_map]
    have e0 : (row.length : Int) - ((m + 1 : Nat) : Int) + 1 + ((0 : Nat) : Int) = (row.length : Int) - (m : Int) := by omega
    rw [e0]
    unfold dnF
    cases q : turnB row k ((row.length : Int) - (m : Int)) with
    | true =>
      simp only [if_true, Option.map_some]
      congr 1
      omega
    | false =>
      simp only [Bool.false_eq_true, if_false]
      rw [dnF_eq row k m, Option.map_map]
      have ef : (fun (b : Nat) => turnB row k ((row.length : Int) - (m : Int) + 1 + (b : Int))) = ((fun (b : Nat) => turnB row k ((row.length : Int) - ((m + 1 : Nat) : Int) + 1 + (b : Int))) ∘ Nat.succ) := by
        funext b
        show _ = turnB row k _
        congr 1
        simp only [Nat.succ_eq_add_one]
        omega
      rw [ef]
      congr 1
      funext b
      show _ = (row.length : Int) - ((m + 1 : Nat) : Int) + 1 + ((b + 1 : Nat) : Int)
      omega
theorem dnF_first (row : List Int) (k : Nat) : dnF row k (row.length + k + 1) = firstM row k := by
  rw [dnF_eq]
  unfold firstM
  have e : ∀ b : Nat, (row.length : Int) - ((row.length + k + 1 : Nat) : Int) + 1 + (b : Int) = (b : Int) - (k : Int) := fun b => by omega
  simp only [e]
end MR

namespace MR
open PySem L2
theorem okD_opt (o : Option Int) : okD (optD o) = true := by cases o <;> rfl
theorem ne_opt (o : Option Int) : opD .ne (optD o) (optD o) = some (.bool false) := by
  cases o with
  | none => rfl
  | some i =>
    have := ne_ii i i
    rw [decide_eq_true rfl] at this
    exact this
theorem is_opt (o : Option Int) : opD .is (optD o) .none = some (.bool (decide (o = none))) := by cases o <;> rfl
theorem lrng_len (n : Nat) (h : n ≤ 1000) : bltD .lrng [.int 1, .int ((n : Int) + 1)] = some (.list (ix ((List.range n).map fun (i : Nat) => 1 + (i : Int)))) := by
  simp only [bltD]
  rw [if_pos (by unfold BIG; omega), show ((n : Int) + 1 - 1).toNat = n by omega]
  unfold upto
  rw [ix_range]
theorem pure_bind {T A B : Type} (a : A) (s : T) (f : A → T → Rs T B) : (Rs.ok a s).bind f = f a s := rfl
def code_law04 : List Cm := [.set 1 (.call 100 [.var 0]), .set 2 (.call 104 [.var 1, .lit (.int 12)]), .set 3 (.bin .add (.lit (.int 1)) (.call 101 [.var 1, .lit (.int 3)])), .iff (.bin .eq (.call 101 [.var 1, .lit (.int 2)]) (.lit (.int 0))) [.set 2 (.call 32 [.var 2, .var 3])] [], .set 4 (.call 108 [.var 2, .var 3]), .iff (.or (.not (.call 103 [.call 17 [.var 2, .var 3], .var 4])) (.bin .ne (.bin .eq (.call 106 [.var 2, .var 3]) (.var 2)) (.var 4))) [.ret (.lit (.bool false))] [], .set 5 (.lit (.none)), .loop (.one 6) .rng [.blt .len [.var 2], .bin .sub (.bin .sub (.lit (.int 0)) (.var 3)) (.lit (.int 1)), .bin .sub (.lit (.int 0)) (.lit (.int 1))] [.set 7 (.comp (.call 105 [.var 2, .var 8]) (.one 8) .rng [.var 6, .bin .add (.bin .add (.var 6) (.var 3)) (.lit (.int 2))] none), .iff (.and (.bin .ne (.var 7) (.blt .sorted [.var 7])) (.bin .ne (.rev (.var 7)) (.blt .sorted [.var 7]))) [.set 5 (.var 6)] []], .iff (.or (.bin .ne (.call 18 [.var 2, .var 3]) (.var 5)) (.bin .ne (.bin .is (.var 5) (.lit (.none))) (.var 4))) [.ret (.lit (.bool false))] [], .set 9 (.comp (.var 10) (.one 10) .seq [.tup [.lit (.int 1), .lit (.int 2), .lit (.int 3)]] (some (.call 108 [.var 2, .var 10]))), .iff (.bin .ne (.call 20 [.var 2]) (.ite (.bin .ne (.var 9) (.list [])) (.idx (.var 9) (.neg (.lit (.int 1)))) (.lit (.int 0)))) [.ret (.lit (.bool false))] [], .ret (.bin .eq (.var 9) (.blt .lrng [.lit (.int 1), .bin .add (.blt .len [.var 9]) (.lit (.int 1))]))]
section
variable {TB : Tab DrT} {da : Addr}
theorem law04_ok (a101 : TB.ar 101 = 2) (f101 : TB.F 101 = drawD da) (a103 : TB.ar 103 = 2) (f103 : TB.F 103 = lawTrueD) (a104 : TB.ar 104 = 2) (f104 : TB.F 104 = lawRowD da) (a105 : TB.ar 105 = 2) (f105 : TB.F 105 = nearD) (a106 : TB.ar 106 = 2) (f106 : TB.F 106 = medianD) (a108 : TB.ar 108 = 2) (f108 : TB.F 108 = calmD) (a17 : TB.ar 17 = 2) (f17 : TB.F 17 = isRootD) (a18 : TB.ar 18 = 2) (f18 : TB.F 18 = firstD) (a20 : TB.ar 20 = 1) (f20 : TB.F 20 = grD) (a32 : TB.ar 32 = 2) (f32 : TB.F 32 = rootOfD) (s : DrT) :
    ∃ s', exSs TB code_law04.tail [.un, .val (tokD da), .un, .un, .un, .un, .un, .un, .un, .un, .un] s = .ok (.ret (.bool true)) s' := by
  obtain ⟨row0, s1, hR, hrow0, h12⟩ := pre_row (da := da) s (most := 12) (by omega) (by omega)
  rw [show ((12 : Nat) : Int) = 12 from rfl] at hR
  obtain ⟨k, k0, s2, d3, ek, k1, k3⟩ := pre_rad (da := da) s1
  obtain ⟨u, s3, du, hu⟩ := pre_draw (da := da) s2 (n := 2) (by omega) (by omega)
  rw [show ((2 : Nat) : Int) = 2 from rfl] at du
  have hro : ∀ s : DrT, rootOfD [.list (ix row0), .int (k : Int)] s = .ok (.list (ix (rootM row0 k))) s := fun s => onRK_eq hrow0 k1 k3
  -- either row goes on in the same way
  have rest : ∀ row : List Int, isRow row → ∃ s', exSs TB (code_law04.drop 4) [.un, .val (tokD da), .val (.list (ix row)), .val (.int (k : Int)), .un, .un, .un, .un, .un, .un, .un] s3 = .ok (.ret (.bool true)) s' := by
    intro row hrow
    have h0 := hrow.ne
    have hl1 := hrow.1
    have hl12 := hrow.2.1
    have hn : ∀ (s : DrT) i, nearD [.list (ix row), .int i] s = .ok (.int (near row i)) s := fun s i => nearD_eq hrow.small i
    have hca : ∀ (q : Nat), 1 ≤ q → q ≤ 3 → ∀ s : DrT, calmD [.list (ix row), .int (q : Int)] s = .ok (.bool (calmB row q)) s := fun q a b s => onRK_eq hrow.small a b
    have hme : ∀ s : DrT, medianD [.list (ix row), .int (k : Int)] s = .ok (.list (ix (medianM row k))) s := fun s => onRK_eq hrow.small k1 k3
    have hir : ∀ s : DrT, isRootD [.list (ix row), .int (k : Int)] s = .ok (.bool (calmB row k)) s := fun s => by rw [calmB_root h0]; exact onRK_eq hrow k1 k3
    have hfi : ∀ s : DrT, firstD [.list (ix row), .int (k : Int)] s = .ok (optD (firstM row k)) s := fun s => onRK_eq hrow k1 k3
    have hgr : ∀ s : DrT, grD [.list (ix row)] s = .ok (.int (maxL (0 :: rootsOf row))) s := fun s => onR_eq hrow
    have htr : ∀ (b : Bool) (s : DrT), lawTrueD [.bool b, .bool b] s = .ok (.bool true) s := fun b s => by cases b <;> rfl
    have hnb : ∀ b : Bool, (!decide (b = b)) = false := fun b => by simp
    simp only [code_law04, List.drop_succ_cons, List.drop_zero, hca k k1 k3, hir, htr, hme, calmB_root h0, a101, f101, a103, f103, a104, f104, a105, f105, a106, f106, a108, f108, a17, f17, a18, f18, a20, f20, a32, f32, decide_true, exSs_cons, exSs_nil, seqK_next, seqK_ret, exS_set, exS_ret, exS_exp, exS_skip, exS_never, exS_iff, ifK_b, testM_eq, testK_b, exS_app, exS_par, exS_tset, tsetK_t, exS_loop, runK_next, runK_ret, evO, evF, freshX, esc, escs, frz, ev_var, ev_lit, ev_bin, ev_neg, negK_i, ev_not, notK_b, ev_and, andK_b, ev_or, orK_b, ev_ite, iteK_b, ev_chn, chnK_le, ev_list, ev_tup, ev_idx, ev_slc, ev_rev, revK_l, ev_blt, ev_isi, isiK_s, ev_call, ev_comp, ev_compC, evs_cons, evs_nil, getV, isiD, List.length_cons, List.length_nil, List.map_cons, List.map_nil, List.replicate, List.append_eq, List.nil_append, List.cons_append, List.append_nil, List.getElem?_cons_zero, List.getElem?_cons_succ, Rs.of_some, Rs.bind_ok, Rs.bind_stuck, if_true, Bool.false_eq_true, if_false, List.set_cons_zero, List.set_cons_succ, Nat.zero_add, Nat.reduceAdd, Nat.reduceSub, add_ii, sub_ii, mul_2i, lt_ii, le_ii, gt_ii, ge_ii, len_ix, sorted_ix, sum_ix, eq_ix, ne_ix, turnE_one, turnC_one, turnC_b, turnL_one, reduceIte, Bool.not_true, Bool.not_false, Bool.true_eq_false, is_tt, isnot_tt, loopK_s, len_lit0]
    simp only [eq_ix, ne_bb, hnb, a101, f101, a103, f103, a104, f104, a105, f105, a106, f106, a108, f108, a17, f17, a18, f18, a20, f20, a32, f32, decide_true, exSs_cons, exSs_nil, seqK_next, seqK_ret, exS_set, exS_ret, exS_exp, exS_skip, exS_never, exS_iff, ifK_b, testM_eq, testK_b, exS_app, exS_par, exS_tset, tsetK_t, exS_loop, runK_next, runK_ret, evO, evF, freshX, esc, escs, frz, ev_var, ev_lit, ev_bin, ev_neg, negK_i, ev_not, notK_b, ev_and, andK_b, ev_or, orK_b, ev_ite, iteK_b, ev_chn, chnK_le, ev_list, ev_tup, ev_idx, ev_slc, ev_rev, revK_l, ev_blt, ev_isi, isiK_s, ev_call, ev_comp, ev_compC, evs_cons, evs_nil, getV, isiD, List.length_cons, List.length_nil, List.map_cons, List.map_nil, List.replicate, List.append_eq, List.nil_append, List.cons_append, List.append_nil, List.getElem?_cons_zero, List.getElem?_cons_succ, Rs.of_some, Rs.bind_ok, Rs.bind_stuck, if_true, Bool.false_eq_true, if_false, List.set_cons_zero, List.set_cons_succ, Nat.zero_add, Nat.reduceAdd, Nat.reduceSub, add_ii, sub_ii, mul_2i, lt_ii, le_ii, gt_ii, ge_ii, len_ix, sorted_ix, sum_ix, eq_ix, ne_ix, turnE_one, turnC_one, turnC_b, turnL_one, reduceIte, Bool.not_true, Bool.not_false, Bool.true_eq_false, is_tt, isnot_tt, loopK_s, len_lit0]
    rw [← calmB_root h0]
    -- the loop down
    rw [show srcD .rng [.int (row.length : Int), .int (0 - (k : Int) - 1), .int (0 - 1)] = some (dnto (row.length : Int) (row.length + k + 1)) by
      simp only [srcD]
      rw [if_pos (by unfold BIG; omega), show ((row.length : Int) - (0 - (k : Int) - 1)).toNat = row.length + k + 1 by omega]]
    simp only [exSs_cons, exSs_nil, seqK_next, seqK_ret, exS_set, exS_ret, exS_exp, exS_skip, exS_never, exS_iff, ifK_b, testM_eq, testK_b, exS_app, exS_par, exS_tset, tsetK_t, exS_loop, runK_next, runK_ret, evO, evF, freshX, esc, escs, frz, ev_var, ev_lit, ev_bin, ev_neg, negK_i, ev_not, notK_b, ev_and, andK_b, ev_or, orK_b, ev_ite, iteK_b, ev_chn, chnK_le, ev_list, ev_tup, ev_idx, ev_slc, ev_rev, revK_l, ev_blt, ev_isi, isiK_s, ev_call, ev_comp, ev_compC, evs_cons, evs_nil, getV, isiD, List.length_cons, List.length_nil, List.map_cons, List.map_nil, List.replicate, List.append_eq, List.nil_append, List.cons_append, List.append_nil, List.getElem?_cons_zero, List.getElem?_cons_succ, Rs.of_some, Rs.bind_ok, Rs.bind_stuck, if_true, Bool.false_eq_true, if_false, List.set_cons_zero, List.set_cons_succ, Nat.zero_add, Nat.reduceAdd, Nat.reduceSub, add_ii, sub_ii, mul_2i, lt_ii, le_ii, gt_ii, ge_ii, len_ix, sorted_ix, sum_ix, eq_ix, ne_ix, turnE_one, turnC_one, turnC_b, turnL_one, reduceIte, Bool.not_true, Bool.not_false, Bool.true_eq_false, is_tt, isnot_tt, loopK_s, len_lit0]
    have hb := forM_inv (f := turnL TB (.one 6) [.set 7 (.comp (.call 105 [.var 2, .var 8]) (.one 8) .rng [.var 6, .bin .add (.bin .add (.var 6) (.var 3)) (.lit (.int 2))] none), .iff (.and (.bin .ne (.var 7) (.blt .sorted [.var 7])) (.bin .ne (.rev (.var 7)) (.blt .sorted [.var 7]))) [.set 5 (.var 6)] []]) (i := fun (j : Nat) => PyData.int ((row.length : Int) + (j : Int) * (-1))) (n := row.length + k + 1) (xs := List.range (row.length + k + 1))
      (fun j => [.un, .val (tokD da), .val (.list (ix row)), .val (.int (k : Int)), .val (.bool (calmB row k)), .val (optD (dnF row k j)), (if j = 0 then .un else .val (.int ((row.length : Int) - (j : Int) + 1))), (if j = 0 then .un else .own (ix (win row ((row.length : Int) - (j : Int) + 1) (k + 2)))), .un, .un, .un]) (fun _ => s3) (by simp) (fun j x hx => by
        obtain ⟨rfl, hj⟩ := range_get hx
        have ej : (row.length : Int) + (x : Int) * (-1) = (row.length : Int) - (x : Int) := by omega
        have es : (row.length : Int) - ((x + 1 : Nat) : Int) + 1 = (row.length : Int) - (x : Int) := by omega
        rw [turnL_one, if_neg (by omega : ¬ (x + 1 = 0)), if_neg (by omega : ¬ (x + 1 = 0)), es]
        generalize (if x = 0 then Slt.un else .val (.int ((row.length : Int) - (x : Int) + 1))) = g1
        generalize (if x = 0 then Slt.un else .own (ix (win row ((row.length : Int) - (x : Int) + 1) (k + 2)))) = g2
        simp only [ej, exSs_cons, exSs_nil, seqK_next, seqK_ret, exS_set, exS_ret, exS_exp, exS_skip, exS_never, exS_iff, ifK_b, testM_eq, testK_b, exS_app, exS_par, exS_tset, tsetK_t, exS_loop, runK_next, runK_ret, evO, evF, freshX, esc, escs, frz, ev_var, ev_lit, ev_bin, ev_neg, negK_i, ev_not, notK_b, ev_and, andK_b, ev_or, orK_b, ev_ite, iteK_b, ev_chn, chnK_le, ev_list, ev_tup, ev_idx, ev_slc, ev_rev, revK_l, ev_blt, ev_isi, isiK_s, ev_call, ev_comp, ev_compC, evs_cons, evs_nil, getV, isiD, List.length_cons, List.length_nil, List.map_cons, List.map_nil, List.replicate, List.append_eq, List.nil_append, List.cons_append, List.append_nil, List.getElem?_cons_zero, List.getElem?_cons_succ, Rs.of_some, Rs.bind_ok, Rs.bind_stuck, if_true, Bool.false_eq_true, if_false, List.set_cons_zero, List.set_cons_succ, Nat.zero_add, Nat.reduceAdd, Nat.reduceSub, add_ii, sub_ii, mul_2i, lt_ii, le_ii, gt_ii, ge_ii, len_ix, sorted_ix, sum_ix, eq_ix, ne_ix, turnE_one, turnC_one, turnC_b, turnL_one, reduceIte, Bool.not_true, Bool.not_false, Bool.true_eq_false, is_tt, isnot_tt, loopK_s, len_lit0]
        rw [run_win (row := row) (i := (row.length : Int) - (x : Int)) (w := k + 2) (by omega) (by omega) (by omega) (by simp only [show (row.length : Int) - (x : Int) + (k : Int) + 2 = (row.length : Int) - (x : Int) + ((k + 2 : Nat) : Int) by omega, exSs_cons, exSs_nil, seqK_next, seqK_ret, exS_set, exS_ret, exS_exp, exS_skip, exS_never, exS_iff, ifK_b, testM_eq, testK_b, exS_app, exS_par, exS_tset, tsetK_t, exS_loop, runK_next, runK_ret, evO, evF, freshX, esc, escs, frz, ev_var, ev_lit, ev_bin, ev_neg, negK_i, ev_not, notK_b, ev_and, andK_b, ev_or, orK_b, ev_ite, iteK_b, ev_chn, chnK_le, ev_list, ev_tup, ev_idx, ev_slc, ev_rev, revK_l, ev_blt, ev_isi, isiK_s, ev_call, ev_comp, ev_compC, evs_cons, evs_nil, getV, isiD, List.length_cons, List.length_nil, List.map_cons, List.map_nil, List.replicate, List.append_eq, List.nil_append, List.cons_append, List.append_nil, List.getElem?_cons_zero, List.getElem?_cons_succ, Rs.of_some, Rs.bind_ok, Rs.bind_stuck, if_true, Bool.false_eq_true, if_false, List.set_cons_zero, List.set_cons_succ, Nat.zero_add, Nat.reduceAdd, Nat.reduceSub, add_ii, sub_ii, mul_2i, lt_ii, le_ii, gt_ii, ge_ii, len_ix, sorted_ix, sum_ix, eq_ix, ne_ix, turnE_one, turnC_one, turnC_b, turnL_one, reduceIte, Bool.not_true, Bool.not_false, Bool.true_eq_false, is_tt, isnot_tt, loopK_s, len_lit0]) (fun m hm => by simp only [a105, f105, hn, exSs_cons, exSs_nil, seqK_next, seqK_ret, exS_set, exS_ret, exS_exp, exS_skip, exS_never, exS_iff, ifK_b, testM_eq, testK_b, exS_app, exS_par, exS_tset, tsetK_t, exS_loop, runK_next, runK_ret, evO, evF, freshX, esc, escs, frz, ev_var, ev_lit, ev_bin, ev_neg, negK_i, ev_not, notK_b, ev_and, andK_b, ev_or, orK_b, ev_ite, iteK_b, ev_chn, chnK_le, ev_list, ev_tup, ev_idx, ev_slc, ev_rev, revK_l, ev_blt, ev_isi, isiK_s, ev_call, ev_comp, ev_compC, evs_cons, evs_nil, getV, isiD, List.length_cons, List.length_nil, List.map_cons, List.map_nil, List.replicate, List.append_eq, List.nil_append, List.cons_append, List.append_nil, List.getElem?_cons_zero, List.getElem?_cons_succ, Rs.of_some, Rs.bind_ok, Rs.bind_stuck, if_true, Bool.false_eq_true, if_false, List.set_cons_zero, List.set_cons_succ, Nat.zero_add, Nat.reduceAdd, Nat.reduceSub, add_ii, sub_ii, mul_2i, lt_ii, le_ii, gt_ii, ge_ii, len_ix, sorted_ix, sum_ix, eq_ix, ne_ix, turnE_one, turnC_one, turnC_b, turnL_one, reduceIte, Bool.not_true, Bool.not_false, Bool.true_eq_false, is_tt, isnot_tt, loopK_s, len_lit0])]
        simp only [ix_rev, exSs_cons, exSs_nil, seqK_next, seqK_ret, exS_set, exS_ret, exS_exp, exS_skip, exS_never, exS_iff, ifK_b, testM_eq, testK_b, exS_app, exS_par, exS_tset, tsetK_t, exS_loop, runK_next, runK_ret, evO, evF, freshX, esc, escs, frz, ev_var, ev_lit, ev_bin, ev_neg, negK_i, ev_not, notK_b, ev_and, andK_b, ev_or, orK_b, ev_ite, iteK_b, ev_chn, chnK_le, ev_list, ev_tup, ev_idx, ev_slc, ev_rev, revK_l, ev_blt, ev_isi, isiK_s, ev_call, ev_comp, ev_compC, evs_cons, evs_nil, getV, isiD, List.length_cons, List.length_nil, List.map_cons, List.map_nil, List.replicate, List.append_eq, List.nil_append, List.cons_append, List.append_nil, List.getElem?_cons_zero, List.getElem?_cons_succ, Rs.of_some, Rs.bind_ok, Rs.bind_stuck, if_true, Bool.false_eq_true, if_false, List.set_cons_zero, List.set_cons_succ, Nat.zero_add, Nat.reduceAdd, Nat.reduceSub, add_ii, sub_ii, mul_2i, lt_ii, le_ii, gt_ii, ge_ii, len_ix, sorted_ix, sum_ix, eq_ix, ne_ix, turnE_one, turnC_one, turnC_b, turnL_one, reduceIte, Bool.not_true, Bool.not_false, Bool.true_eq_false, is_tt, isnot_tt, loopK_s, len_lit0]
        have ed : dnF row k (x + 1) = if turnB row k ((row.length : Int) - (x : Int)) = true then some ((row.length : Int) - (x : Int)) else dnF row k x := rfl
        rw [ed]
        unfold turnB riseB
        by_cases q1 : win row ((row.length : Int) - (x : Int)) (k + 2) = isort (win row ((row.length : Int) - (x : Int)) (k + 2))
        · simp only [decide_eq_true q1, Bool.true_or, exSs_cons, exSs_nil, seqK_next, seqK_ret, exS_set, exS_ret, exS_exp, exS_skip, exS_never, exS_iff, ifK_b, testM_eq, testK_b, exS_app, exS_par, exS_tset, tsetK_t, exS_loop, runK_next, runK_ret, evO, evF, freshX, esc, escs, frz, ev_var, ev_lit, ev_bin, ev_neg, negK_i, ev_not, notK_b, ev_and, andK_b, ev_or, orK_b, ev_ite, iteK_b, ev_chn, chnK_le, ev_list, ev_tup, ev_idx, ev_slc, ev_rev, revK_l, ev_blt, ev_isi, isiK_s, ev_call, ev_comp, ev_compC, evs_cons, evs_nil, getV, isiD, List.length_cons, List.length_nil, List.map_cons, List.map_nil, List.replicate, List.append_eq, List.nil_append, List.cons_append, List.append_nil, List.getElem?_cons_zero, List.getElem?_cons_succ, Rs.of_some, Rs.bind_ok, Rs.bind_stuck, if_true, Bool.false_eq_true, if_false, List.set_cons_zero, List.set_cons_succ, Nat.zero_add, Nat.reduceAdd, Nat.reduceSub, add_ii, sub_ii, mul_2i, lt_ii, le_ii, gt_ii, ge_ii, len_ix, sorted_ix, sum_ix, eq_ix, ne_ix, turnE_one, turnC_one, turnC_b, turnL_one, reduceIte, Bool.not_true, Bool.not_false, Bool.true_eq_false, is_tt, isnot_tt, loopK_s, len_lit0]
        · by_cases q2 : (win row ((row.length : Int) - (x : Int)) (k + 2)).reverse = isort (win row ((row.length : Int) - (x : Int)) (k + 2))
          · simp only [decide_eq_false q1, decide_eq_true q2, Bool.or_true, exSs_cons, exSs_nil, seqK_next, seqK_ret, exS_set, exS_ret, exS_exp, exS_skip, exS_never, exS_iff, ifK_b, testM_eq, testK_b, exS_app, exS_par, exS_tset, tsetK_t, exS_loop, runK_next, runK_ret, evO, evF, freshX, esc, escs, frz, ev_var, ev_lit, ev_bin, ev_neg, negK_i, ev_not, notK_b, ev_and, andK_b, ev_or, orK_b, ev_ite, iteK_b, ev_chn, chnK_le, ev_list, ev_tup, ev_idx, ev_slc, ev_rev, revK_l, ev_blt, ev_isi, isiK_s, ev_call, ev_comp, ev_compC, evs_cons, evs_nil, getV, isiD, List.length_cons, List.length_nil, List.map_cons, List.map_nil, List.replicate, List.append_eq, List.nil_append, List.cons_append, List.append_nil, List.getElem?_cons_zero, List.getElem?_cons_succ, Rs.of_some, Rs.bind_ok, Rs.bind_stuck, if_true, Bool.false_eq_true, if_false, List.set_cons_zero, List.set_cons_succ, Nat.zero_add, Nat.reduceAdd, Nat.reduceSub, add_ii, sub_ii, mul_2i, lt_ii, le_ii, gt_ii, ge_ii, len_ix, sorted_ix, sum_ix, eq_ix, ne_ix, turnE_one, turnC_one, turnC_b, turnL_one, reduceIte, Bool.not_true, Bool.not_false, Bool.true_eq_false, is_tt, isnot_tt, loopK_s, len_lit0]
          · simp only [decide_eq_false q1, decide_eq_false q2, Bool.or_false, exSs_cons, exSs_nil, seqK_next, seqK_ret, exS_set, exS_ret, exS_exp, exS_skip, exS_never, exS_iff, ifK_b, testM_eq, testK_b, exS_app, exS_par, exS_tset, tsetK_t, exS_loop, runK_next, runK_ret, evO, evF, freshX, esc, escs, frz, ev_var, ev_lit, ev_bin, ev_neg, negK_i, ev_not, notK_b, ev_and, andK_b, ev_or, orK_b, ev_ite, iteK_b, ev_chn, chnK_le, ev_list, ev_tup, ev_idx, ev_slc, ev_rev, revK_l, ev_blt, ev_isi, isiK_s, ev_call, ev_comp, ev_compC, evs_cons, evs_nil, getV, isiD, List.length_cons, List.length_nil, List.map_cons, List.map_nil, List.replicate, List.append_eq, List.nil_append, List.cons_append, List.append_nil, List.getElem?_cons_zero, List.getElem?_cons_succ, Rs.of_some, Rs.bind_ok, Rs.bind_stuck, if_true, Bool.false_eq_true, if_false, List.set_cons_zero, List.set_cons_succ, Nat.zero_add, Nat.reduceAdd, Nat.reduceSub, add_ii, sub_ii, mul_2i, lt_ii, le_ii, gt_ii, ge_ii, len_ix, sorted_ix, sum_ix, eq_ix, ne_ix, turnE_one, turnC_one, turnC_b, turnL_one, reduceIte, Bool.not_true, Bool.not_false, Bool.true_eq_false, is_tt, isnot_tt, loopK_s, len_lit0]
            rfl)
    simp only [if_true, show optD (dnF row k 0) = PyData.none from rfl] at hb
    unfold dnto
    rw [hb, dnF_first]
    rw [if_neg (by omega : ¬ (row.length + k + 1 = 0)), if_neg (by omega : ¬ (row.length + k + 1 = 0))]
    have hfn : decide (firstM row k = none) = calmB row k := by
      cases q : calmB row k with
      | true => exact decide_eq_true (first_none.mpr q)
      | false => exact decide_eq_false fun z => by rw [first_none.mp z] at q; cases q
    simp only [hfi, ne_opt, is_opt, hfn, ne_bb, hnb, a101, f101, a103, f103, a104, f104, a105, f105, a106, f106, a108, f108, a17, f17, a18, f18, a20, f20, a32, f32, decide_true, exSs_cons, exSs_nil, seqK_next, seqK_ret, exS_set, exS_ret, exS_exp, exS_skip, exS_never, exS_iff, ifK_b, testM_eq, testK_b, exS_app, exS_par, exS_tset, tsetK_t, exS_loop, runK_next, runK_ret, evO, evF, freshX, esc, escs, frz, ev_var, ev_lit, ev_bin, ev_neg, negK_i, ev_not, notK_b, ev_and, andK_b, ev_or, orK_b, ev_ite, iteK_b, ev_chn, chnK_le, ev_list, ev_tup, ev_idx, ev_slc, ev_rev, revK_l, ev_blt, ev_isi, isiK_s, ev_call, ev_comp, ev_compC, evs_cons, evs_nil, getV, isiD, List.length_cons, List.length_nil, List.map_cons, List.map_nil, List.replicate, List.append_eq, List.nil_append, List.cons_append, List.append_nil, List.getElem?_cons_zero, List.getElem?_cons_succ, Rs.of_some, Rs.bind_ok, Rs.bind_stuck, if_true, Bool.false_eq_true, if_false, List.set_cons_zero, List.set_cons_succ, Nat.zero_add, Nat.reduceAdd, Nat.reduceSub, add_ii, sub_ii, mul_2i, lt_ii, le_ii, gt_ii, ge_ii, len_ix, sorted_ix, sum_ix, eq_ix, ne_ix, turnE_one, turnC_one, turnC_b, turnL_one, reduceIte, Bool.not_true, Bool.not_false, Bool.true_eq_false, is_tt, isnot_tt, loopK_s, len_lit0]
    rw [run_three (fun q => calmB row q.toNat) (by simp only [three_lim, a101, f101, a103, f103, a104, f104, a105, f105, a106, f106, a108, f108, a17, f17, a18, f18, a20, f20, a32, f32, decide_true, exSs_cons, exSs_nil, seqK_next, seqK_ret, exS_set, exS_ret, exS_exp, exS_skip, exS_never, exS_iff, ifK_b, testM_eq, testK_b, exS_app, exS_par, exS_tset, tsetK_t, exS_loop, runK_next, runK_ret, evO, evF, freshX, esc, escs, frz, ev_var, ev_lit, ev_bin, ev_neg, negK_i, ev_not, notK_b, ev_and, andK_b, ev_or, orK_b, ev_ite, iteK_b, ev_chn, chnK_le, ev_list, ev_tup, ev_idx, ev_slc, ev_rev, revK_l, ev_blt, ev_isi, isiK_s, ev_call, ev_comp, ev_compC, evs_cons, evs_nil, getV, isiD, List.length_cons, List.length_nil, List.map_cons, List.map_nil, List.replicate, List.append_eq, List.nil_append, List.cons_append, List.append_nil, List.getElem?_cons_zero, List.getElem?_cons_succ, Rs.of_some, Rs.bind_ok, Rs.bind_stuck, if_true, Bool.false_eq_true, if_false, List.set_cons_zero, List.set_cons_succ, Nat.zero_add, Nat.reduceAdd, Nat.reduceSub, add_ii, sub_ii, mul_2i, lt_ii, le_ii, gt_ii, ge_ii, len_ix, sorted_ix, sum_ix, eq_ix, ne_ix, turnE_one, turnC_one, turnC_b, turnL_one, reduceIte, Bool.not_true, Bool.not_false, Bool.true_eq_false, is_tt, isnot_tt, loopK_s, len_lit0]) (fun q a b => by
      have := hca q.toNat (by omega) (by omega)
      rw [Int.toNat_of_nonneg (by omega)] at this
      simp only [this, a101, f101, a103, f103, a104, f104, a105, f105, a106, f106, a108, f108, a17, f17, a18, f18, a20, f20, a32, f32, decide_true, exSs_cons, exSs_nil, seqK_next, seqK_ret, exS_set, exS_ret, exS_exp, exS_skip, exS_never, exS_iff, ifK_b, testM_eq, testK_b, exS_app, exS_par, exS_tset, tsetK_t, exS_loop, runK_next, runK_ret, evO, evF, freshX, esc, escs, frz, ev_var, ev_lit, ev_bin, ev_neg, negK_i, ev_not, notK_b, ev_and, andK_b, ev_or, orK_b, ev_ite, iteK_b, ev_chn, chnK_le, ev_list, ev_tup, ev_idx, ev_slc, ev_rev, revK_l, ev_blt, ev_isi, isiK_s, ev_call, ev_comp, ev_compC, evs_cons, evs_nil, getV, isiD, List.length_cons, List.length_nil, List.map_cons, List.map_nil, List.replicate, List.append_eq, List.nil_append, List.cons_append, List.append_nil, List.getElem?_cons_zero, List.getElem?_cons_succ, Rs.of_some, Rs.bind_ok, Rs.bind_stuck, if_true, Bool.false_eq_true, if_false, List.set_cons_zero, List.set_cons_succ, Nat.zero_add, Nat.reduceAdd, Nat.reduceSub, add_ii, sub_ii, mul_2i, lt_ii, le_ii, gt_ii, ge_ii, len_ix, sorted_ix, sum_ix, eq_ix, ne_ix, turnE_one, turnC_one, turnC_b, turnL_one, reduceIte, Bool.not_true, Bool.not_false, Bool.true_eq_false, is_tt, isnot_tt, loopK_s, len_lit0]
      cases calmB row q.toNat <;> simp only [exSs_cons, exSs_nil, seqK_next, seqK_ret, exS_set, exS_ret, exS_exp, exS_skip, exS_never, exS_iff, ifK_b, testM_eq, testK_b, exS_app, exS_par, exS_tset, tsetK_t, exS_loop, runK_next, runK_ret, evO, evF, freshX, esc, escs, frz, ev_var, ev_lit, ev_bin, ev_neg, negK_i, ev_not, notK_b, ev_and, andK_b, ev_or, orK_b, ev_ite, iteK_b, ev_chn, chnK_le, ev_list, ev_tup, ev_idx, ev_slc, ev_rev, revK_l, ev_blt, ev_isi, isiK_s, ev_call, ev_comp, ev_compC, evs_cons, evs_nil, getV, isiD, List.length_cons, List.length_nil, List.map_cons, List.map_nil, List.replicate, List.append_eq, List.nil_append, List.cons_append, List.append_nil, List.getElem?_cons_zero, List.getElem?_cons_succ, Rs.of_some, Rs.bind_ok, Rs.bind_stuck, if_true, Bool.false_eq_true, if_false, List.set_cons_zero, List.set_cons_succ, Nat.zero_add, Nat.reduceAdd, Nat.reduceSub, add_ii, sub_ii, mul_2i, lt_ii, le_ii, gt_ii, ge_ii, len_ix, sorted_ix, sum_ix, eq_ix, ne_ix, turnE_one, turnC_one, turnC_b, turnL_one, reduceIte, Bool.not_true, Bool.not_false, Bool.true_eq_false, is_tt, isnot_tt, loopK_s, len_lit0])]
    have er : rootsOf row = ([1, 2, 3] : List Int).filter fun q => calmB row q.toNat := by
      unfold rootsOf
      exact congrArg (fun p => List.filter p _) (funext fun q => (calmB_root h0 _).symm)
    simp only [hgr, er, len_lit0, a101, f101, a103, f103, a104, f104, a105, f105, a106, f106, a108, f108, a17, f17, a18, f18, a20, f20, a32, f32, decide_true, exSs_cons, exSs_nil, seqK_next, seqK_ret, exS_set, exS_ret, exS_exp, exS_skip, exS_never, exS_iff, ifK_b, testM_eq, testK_b, exS_app, exS_par, exS_tset, tsetK_t, exS_loop, runK_next, runK_ret, evO, evF, freshX, esc, escs, frz, ev_var, ev_lit, ev_bin, ev_neg, negK_i, ev_not, notK_b, ev_and, andK_b, ev_or, orK_b, ev_ite, iteK_b, ev_chn, chnK_le, ev_list, ev_tup, ev_idx, ev_slc, ev_rev, revK_l, ev_blt, ev_isi, isiK_s, ev_call, ev_comp, ev_compC, evs_cons, evs_nil, getV, isiD, List.length_cons, List.length_nil, List.map_cons, List.map_nil, List.replicate, List.append_eq, List.nil_append, List.cons_append, List.append_nil, List.getElem?_cons_zero, List.getElem?_cons_succ, Rs.of_some, Rs.bind_ok, Rs.bind_stuck, if_true, Bool.false_eq_true, if_false, List.set_cons_zero, List.set_cons_succ, Nat.zero_add, Nat.reduceAdd, Nat.reduceSub, add_ii, sub_ii, mul_2i, lt_ii, le_ii, gt_ii, ge_ii, len_ix, sorted_ix, sum_ix, eq_ix, ne_ix, turnE_one, turnC_one, turnC_b, turnL_one, reduceIte, Bool.not_true, Bool.not_false, Bool.true_eq_false, is_tt, isnot_tt, loopK_s, len_lit0]
    have c32 : calmB row 3 = true → calmB row 2 = true := calmB_less
    have c21 : calmB row 2 = true → calmB row 1 = true := calmB_less
    have cases4 : ∃ m : Nat, m ≤ 3 ∧ ([1, 2, 3] : List Int).filter (fun q => calmB row q.toNat) = (List.range m).map fun (i : Nat) => 1 + (i : Int) := by
      cases h1 : calmB row 1 with
      | false =>
        have h2 : calmB row 2 = false := by cases e : calmB row 2 with | false => rfl | true => rw [c21 e] at h1; cases h1
        have h3 : calmB row 3 = false := by cases e : calmB row 3 with | false => rfl | true => rw [c32 e] at h2; cases h2
        exact ⟨0, by omega, by simp [List.filter_cons, h1, h2, h3]⟩
      | true =>
        cases h2 : calmB row 2 with
        | false =>
          have h3 : calmB row 3 = false := by cases e : calmB row 3 with | false => rfl | true => rw [c32 e] at h2; cases h2
          exact ⟨1, by omega, by simp [List.filter_cons, h1, h2, h3]⟩
        | true =>
          cases h3 : calmB row 3 with
          | false => exact ⟨2, by omega, by simp [List.filter_cons, h1, h2, h3, List.range_succ]⟩
          | true => exact ⟨3, by omega, by simp [List.filter_cons, h1, h2, h3, List.range_succ]⟩
    obtain ⟨m, hm, em⟩ := cases4
    rw [em]
    have hL : ((List.range m).map fun (i : Nat) => 1 + (i : Int)).length = m := by simp
    have hne := ne_ix ((List.range m).map fun (i : Nat) => 1 + (i : Int)) []
    rw [show ix [] = [] from rfl] at hne
    have hend : ∀ (x : Int), (List.range m).map (fun (i : Nat) => 1 + (i : Int)) ≠ [] → idxD (.list (ix ((List.range m).map fun (i : Nat) => 1 + (i : Int)))) (.int (-1)) = some (.int (m : Int)) := by
      intro _ z
      rw [idx_last z, hL]
      have hm1 : 1 ≤ m := by
        rcases Nat.eq_zero_or_pos m with e | e
        · rw [e] at z; exact absurd rfl z
        · exact e
      rw [show (m : Int) - 1 = ((m - 1 : Nat) : Int) by omega, near_mid (by rw [hL]; omega)]
      simp
      omega
    have hmax : maxL (0 :: (List.range m).map fun (i : Nat) => 1 + (i : Int)) = (m : Int) := by
      match m, hm with
      | 0, _ => rfl
      | 1, _ => rfl
      | 2, _ => rfl
      | 3, _ => rfl
    simp only [hne, hmax, exSs_cons, exSs_nil, seqK_next, seqK_ret, exS_set, exS_ret, exS_exp, exS_skip, exS_never, exS_iff, ifK_b, testM_eq, testK_b, exS_app, exS_par, exS_tset, tsetK_t, exS_loop, runK_next, runK_ret, evO, evF, freshX, esc, escs, frz, ev_var, ev_lit, ev_bin, ev_neg, negK_i, ev_not, notK_b, ev_and, andK_b, ev_or, orK_b, ev_ite, iteK_b, ev_chn, chnK_le, ev_list, ev_tup, ev_idx, ev_slc, ev_rev, revK_l, ev_blt, ev_isi, isiK_s, ev_call, ev_comp, ev_compC, evs_cons, evs_nil, getV, isiD, List.length_cons, List.length_nil, List.map_cons, List.map_nil, List.replicate, List.append_eq, List.nil_append, List.cons_append, List.append_nil, List.getElem?_cons_zero, List.getElem?_cons_succ, Rs.of_some, Rs.bind_ok, Rs.bind_stuck, if_true, Bool.false_eq_true, if_false, List.set_cons_zero, List.set_cons_succ, Nat.zero_add, Nat.reduceAdd, Nat.reduceSub, add_ii, sub_ii, mul_2i, lt_ii, le_ii, gt_ii, ge_ii, len_ix, sorted_ix, sum_ix, eq_ix, ne_ix, turnE_one, turnC_one, turnC_b, turnL_one, reduceIte, Bool.not_true, Bool.not_false, Bool.true_eq_false, is_tt, isnot_tt, loopK_s, len_lit0]
    by_cases z : (List.range m).map (fun (i : Nat) => 1 + (i : Int)) = []
    · have m0 : m = 0 := by rw [z] at hL; exact hL.symm
      subst m0
      simp only [z, ne_ii, ix_length, lrng_len 0 (by omega), decide_true, exSs_cons, exSs_nil, seqK_next, seqK_ret, exS_set, exS_ret, exS_exp, exS_skip, exS_never, exS_iff, ifK_b, testM_eq, testK_b, exS_app, exS_par, exS_tset, tsetK_t, exS_loop, runK_next, runK_ret, evO, evF, freshX, esc, escs, frz, ev_var, ev_lit, ev_bin, ev_neg, negK_i, ev_not, notK_b, ev_and, andK_b, ev_or, orK_b, ev_ite, iteK_b, ev_chn, chnK_le, ev_list, ev_tup, ev_idx, ev_slc, ev_rev, revK_l, ev_blt, ev_isi, isiK_s, ev_call, ev_comp, ev_compC, evs_cons, evs_nil, getV, isiD, List.length_cons, List.length_nil, List.map_cons, List.map_nil, List.replicate, List.append_eq, List.nil_append, List.cons_append, List.append_nil, List.getElem?_cons_zero, List.getElem?_cons_succ, Rs.of_some, Rs.bind_ok, Rs.bind_stuck, if_true, Bool.false_eq_true, if_false, List.set_cons_zero, List.set_cons_succ, Nat.zero_add, Nat.reduceAdd, Nat.reduceSub, add_ii, sub_ii, mul_2i, lt_ii, le_ii, gt_ii, ge_ii, len_ix, sorted_ix, sum_ix, eq_ix, ne_ix, turnE_one, turnC_one, turnC_b, turnL_one, reduceIte, Bool.not_true, Bool.not_false, Bool.true_eq_false, is_tt, isnot_tt, loopK_s, len_lit0]
      exact ⟨_, rfl⟩
    · simp only [z, decide_false, hend 0 z, ne_ii, decide_true, hL, lrng_len m (by omega), exSs_cons, exSs_nil, seqK_next, seqK_ret, exS_set, exS_ret, exS_exp, exS_skip, exS_never, exS_iff, ifK_b, testM_eq, testK_b, exS_app, exS_par, exS_tset, tsetK_t, exS_loop, runK_next, runK_ret, evO, evF, freshX, esc, escs, frz, ev_var, ev_lit, ev_bin, ev_neg, negK_i, ev_not, notK_b, ev_and, andK_b, ev_or, orK_b, ev_ite, iteK_b, ev_chn, chnK_le, ev_list, ev_tup, ev_idx, ev_slc, ev_rev, revK_l, ev_blt, ev_isi, isiK_s, ev_call, ev_comp, ev_compC, evs_cons, evs_nil, getV, isiD, List.length_cons, List.length_nil, List.map_cons, List.map_nil, List.replicate, List.append_eq, List.nil_append, List.cons_append, List.append_nil, List.getElem?_cons_zero, List.getElem?_cons_succ, Rs.of_some, Rs.bind_ok, Rs.bind_stuck, if_true, Bool.false_eq_true, if_false, List.set_cons_zero, List.set_cons_succ, Nat.zero_add, Nat.reduceAdd, Nat.reduceSub, add_ii, sub_ii, mul_2i, lt_ii, le_ii, gt_ii, ge_ii, len_ix, sorted_ix, sum_ix, eq_ix, ne_ix, turnE_one, turnC_one, turnC_b, turnL_one, reduceIte, Bool.not_true, Bool.not_false, Bool.true_eq_false, is_tt, isnot_tt, loopK_s, len_lit0]
      exact ⟨_, rfl⟩
  have head : exSs TB code_law04.tail [.un, .val (tokD da), .un, .un, .un, .un, .un, .un, .un, .un, .un] s = exSs TB (code_law04.drop 4) [.un, .val (tokD da), .val (.list (ix (if u = 0 then rootM row0 k else row0))), .val (.int (k : Int)), .un, .un, .un, .un, .un, .un, .un] s3 := by
    have ec : code_law04.tail = .set 2 (.call 104 [.var 1, .lit (.int 12)]) :: .set 3 (.bin .add (.lit (.int 1)) (.call 101 [.var 1, .lit (.int 3)])) :: .iff (.bin .eq (.call 101 [.var 1, .lit (.int 2)]) (.lit (.int 0))) [.set 2 (.call 32 [.var 2, .var 3])] [] :: code_law04.drop 4 := rfl
    rw [ec]
    generalize code_law04.drop 4 = R
    simp only [hR, d3, ek, du, eq_ii, a101, f101, a103, f103, a104, f104, a105, f105, a106, f106, a108, f108, a17, f17, a18, f18, a20, f20, a32, f32, decide_true, exSs_cons, exSs_nil, seqK_next, seqK_ret, exS_set, exS_ret, exS_exp, exS_skip, exS_never, exS_iff, ifK_b, testM_eq, testK_b, exS_app, exS_par, exS_tset, tsetK_t, exS_loop, runK_next, runK_ret, evO, evF, freshX, esc, escs, frz, ev_var, ev_lit, ev_bin, ev_neg, negK_i, ev_not, notK_b, ev_and, andK_b, ev_or, orK_b, ev_ite, iteK_b, ev_chn, chnK_le, ev_list, ev_tup, ev_idx, ev_slc, ev_rev, revK_l, ev_blt, ev_isi, isiK_s, ev_call, ev_comp, ev_compC, evs_cons, evs_nil, getV, isiD, List.length_cons, List.length_nil, List.map_cons, List.map_nil, List.replicate, List.append_eq, List.nil_append, List.cons_append, List.append_nil, List.getElem?_cons_zero, List.getElem?_cons_succ, Rs.of_some, Rs.bind_ok, Rs.bind_stuck, if_true, Bool.false_eq_true, if_false, List.set_cons_zero, List.set_cons_succ, Nat.zero_add, Nat.reduceAdd, Nat.reduceSub, add_ii, sub_ii, mul_2i, lt_ii, le_ii, gt_ii, ge_ii, len_ix, sorted_ix, sum_ix, eq_ix, ne_ix, turnE_one, turnC_one, turnC_b, turnL_one, reduceIte, Bool.not_true, Bool.not_false, Bool.true_eq_false, is_tt, isnot_tt, loopK_s, len_lit0]
    by_cases q : u = 0
    · subst q
      simp only [show (((0 : Nat) : Int) = 0) = True by simp, hro, a101, f101, a103, f103, a104, f104, a105, f105, a106, f106, a108, f108, a17, f17, a18, f18, a20, f20, a32, f32, decide_true, exSs_cons, exSs_nil, seqK_next, seqK_ret, exS_set, exS_ret, exS_exp, exS_skip, exS_never, exS_iff, ifK_b, testM_eq, testK_b, exS_app, exS_par, exS_tset, tsetK_t, exS_loop, runK_next, runK_ret, evO, evF, freshX, esc, escs, frz, ev_var, ev_lit, ev_bin, ev_neg, negK_i, ev_not, notK_b, ev_and, andK_b, ev_or, orK_b, ev_ite, iteK_b, ev_chn, chnK_le, ev_list, ev_tup, ev_idx, ev_slc, ev_rev, revK_l, ev_blt, ev_isi, isiK_s, ev_call, ev_comp, ev_compC, evs_cons, evs_nil, getV, isiD, List.length_cons, List.length_nil, List.map_cons, List.map_nil, List.replicate, List.append_eq, List.nil_append, List.cons_append, List.append_nil, List.getElem?_cons_zero, List.getElem?_cons_succ, Rs.of_some, Rs.bind_ok, Rs.bind_stuck, if_true, Bool.false_eq_true, if_false, List.set_cons_zero, List.set_cons_succ, Nat.zero_add, Nat.reduceAdd, Nat.reduceSub, add_ii, sub_ii, mul_2i, lt_ii, le_ii, gt_ii, ge_ii, len_ix, sorted_ix, sum_ix, eq_ix, ne_ix, turnE_one, turnC_one, turnC_b, turnL_one, reduceIte, Bool.not_true, Bool.not_false, Bool.true_eq_false, is_tt, isnot_tt, loopK_s, len_lit0]
    · simp only [show ((u : Int) = 0) = False by simp; omega, q, decide_false, a101, f101, a103, f103, a104, f104, a105, f105, a106, f106, a108, f108, a17, f17, a18, f18, a20, f20, a32, f32, decide_true, exSs_cons, exSs_nil, seqK_next, seqK_ret, exS_set, exS_ret, exS_exp, exS_skip, exS_never, exS_iff, ifK_b, testM_eq, testK_b, exS_app, exS_par, exS_tset, tsetK_t, exS_loop, runK_next, runK_ret, evO, evF, freshX, esc, escs, frz, ev_var, ev_lit, ev_bin, ev_neg, negK_i, ev_not, notK_b, ev_and, andK_b, ev_or, orK_b, ev_ite, iteK_b, ev_chn, chnK_le, ev_list, ev_tup, ev_idx, ev_slc, ev_rev, revK_l, ev_blt, ev_isi, isiK_s, ev_call, ev_comp, ev_compC, evs_cons, evs_nil, getV, isiD, List.length_cons, List.length_nil, List.map_cons, List.map_nil, List.replicate, List.append_eq, List.nil_append, List.cons_append, List.append_nil, List.getElem?_cons_zero, List.getElem?_cons_succ, Rs.of_some, Rs.bind_ok, Rs.bind_stuck, if_true, Bool.false_eq_true, if_false, List.set_cons_zero, List.set_cons_succ, Nat.zero_add, Nat.reduceAdd, Nat.reduceSub, add_ii, sub_ii, mul_2i, lt_ii, le_ii, gt_ii, ge_ii, len_ix, sorted_ix, sum_ix, eq_ix, ne_ix, turnE_one, turnC_one, turnC_b, turnL_one, reduceIte, Bool.not_true, Bool.not_false, Bool.true_eq_false, is_tt, isnot_tt, loopK_s, len_lit0]
  rw [head]
  by_cases q : u = 0
  · rw [if_pos q]; exact rest _ (isRow_pass hrow0 k _)
  · rw [if_neg q]; exact rest _ hrow0
end
end MR

namespace MR
open PySem PySem.Spec PyProof.Rows L2
def topS (i : Nat) : Stmt := PySem.Challenge.pw_medianroots_k04_whole_roots.main.body.getD i (.Pass ⟨0, 0, 0, 0⟩)
def csts : List (Str × D) := [("MOST_VALUES", .int 12), ("MOST_VALUE", .int 9), ("MOST_RADIUS", .int 3)]
def cfg_is_int : Cfg := { N := ["value", "low", "high"], fns := [], ffs := [], cst := csts }
theorem sc_is_int : FnScope ["value", "low", "high"] ["value", "low", "high"] (defScope (topS 7)) := ⟨rfl, rfl, rfl, by decide +kernel, rfl, by decide +kernel, by decide +kernel⟩
theorem cp_is_int : cpSs cfg_is_int [] 60 (defScope (topS 7)) (defBody (topS 7)) = some code_is_int := by rfl
def cfg_is_row : Cfg := { N := ["value", "height"], fns := [("is_int", 0)], ffs := [], cst := csts }
theorem sc_is_row : FnScope ["value", "height"] ["value"] (defScope (topS 8)) := ⟨rfl, rfl, rfl, by decide +kernel, rfl, by decide +kernel, by decide +kernel⟩
theorem cp_is_row : cpSs cfg_is_row [] 60 (defScope (topS 8)) (defBody (topS 8)) = some code_is_row := by rfl
def cfg_check_row : Cfg := { N := ["value"], fns := [("is_row", 1)], ffs := [], cst := csts }
theorem sc_check_row : FnScope ["value"] ["value"] (defScope (topS 9)) := ⟨rfl, rfl, rfl, by decide +kernel, rfl, by decide +kernel, by decide +kernel⟩
theorem cp_check_row : cpSs cfg_check_row [] 60 (defScope (topS 9)) (defBody (topS 9)) = some code_check_row := by rfl
def cfg_check_radius : Cfg := { N := ["value"], fns := [("is_int", 0)], ffs := [], cst := csts }
theorem sc_check_radius : FnScope ["value"] ["value"] (defScope (topS 10)) := ⟨rfl, rfl, rfl, by decide +kernel, rfl, by decide +kernel, by decide +kernel⟩
theorem cp_check_radius : cpSs cfg_check_radius [] 60 (defScope (topS 10)) (defBody (topS 10)) = some code_check_radius := by rfl
def cfg_check_both : Cfg := { N := ["row", "radius"], fns := [("check_row", 2), ("check_radius", 3)], ffs := [], cst := csts }
theorem sc_check_both : FnScope ["row", "radius"] ["row", "radius"] (defScope (topS 11)) := ⟨rfl, rfl, rfl, by decide +kernel, rfl, by decide +kernel, by decide +kernel⟩
theorem cp_check_both : cpSs cfg_check_both [] 60 (defScope (topS 11)) (defBody (topS 11)) = some code_check_both := by rfl
def cfg_longer : Cfg := { N := ["row", "count"], fns := [], ffs := [], cst := csts }
theorem sc_longer : FnScope ["row", "count"] ["row", "count"] (defScope (topS 13)) := ⟨rfl, rfl, rfl, by decide +kernel, rfl, by decide +kernel, by decide +kernel⟩
theorem cp_longer : cpSs cfg_longer [] 60 (defScope (topS 13)) (defBody (topS 13)) = some code_longer := by rfl
def cfg_median : Cfg := { N := ["row", "radius", "wide", "place"], fns := [("longer", 5)], ffs := [], cst := csts }
theorem sc_median : FnScope ["row", "radius", "wide", "place"] ["row", "radius"] (defScope (topS 14)) := ⟨rfl, rfl, rfl, by decide +kernel, rfl, by decide +kernel, by decide +kernel⟩
theorem cp_median : cpSs cfg_median [] 60 (defScope (topS 14)) (defBody (topS 14)) = some code_median := by rfl
def cfg_is_even_run : Cfg := { N := ["values", "steps", "k", "step"], fns := [], ffs := [], cst := csts }
theorem sc_is_even_run : FnScope ["values", "steps", "k", "step"] ["values"] (defScope (topS 16)) := ⟨rfl, rfl, rfl, by decide +kernel, rfl, by decide +kernel, by decide +kernel⟩
theorem cp_is_even_run : cpSs cfg_is_even_run [] 60 (defScope (topS 16)) (defBody (topS 16)) = some code_is_even_run := by rfl
def cfg_is_root : Cfg := { N := ["row", "radius"], fns := [("check_both", 4), ("median", 6)], ffs := [], cst := csts }
theorem sc_is_root : FnScope ["row", "radius"] ["row", "radius"] (defScope (topS 17)) := ⟨rfl, rfl, rfl, by decide +kernel, rfl, by decide +kernel, by decide +kernel⟩
theorem cp_is_root : cpSs cfg_is_root [] 60 (defScope (topS 17)) (defBody (topS 17)) = some code_is_root := by rfl
def cfg_first_turn : Cfg := { N := ["row", "radius", "wide", "place"], fns := [("check_both", 4), ("longer", 5), ("is_even_run", 16)], ffs := [], cst := csts }
theorem sc_first_turn : FnScope ["row", "radius", "wide", "place"] ["row", "radius"] (defScope (topS 18)) := ⟨rfl, rfl, rfl, by decide +kernel, rfl, by decide +kernel, by decide +kernel⟩
theorem cp_first_turn : cpSs cfg_first_turn [] 60 (defScope (topS 18)) (defBody (topS 18)) = some code_first_turn := by rfl
def cfg_greatest_radius : Cfg := { N := ["row", "radius"], fns := [("check_both", 4), ("median", 6)], ffs := [], cst := csts }
theorem sc_greatest_radius : FnScope ["row", "radius"] ["row"] (defScope (topS 19)) := ⟨rfl, rfl, rfl, by decide +kernel, rfl, by decide +kernel, by decide +kernel⟩
theorem cp_greatest_radius : cpSs cfg_greatest_radius [] 60 (defScope (topS 19)) (defBody (topS 19)) = some code_greatest_radius := by rfl
def cfg_rows_on_the_way : Cfg := { N := ["row", "radius", "found"], fns := [("check_both", 4), ("median", 6)], ffs := [], cst := csts }
theorem sc_rows_on_the_way : FnScope ["row", "radius", "found"] ["row", "radius"] (defScope (topS 21)) := ⟨rfl, rfl, rfl, by decide +kernel, rfl, by decide +kernel, by decide +kernel⟩
theorem cp_rows_on_the_way : cpSs cfg_rows_on_the_way [] 60 (defScope (topS 21)) (defBody (topS 21)) = some code_rows_on_the_way := by rfl
def cfg_root_of : Cfg := { N := ["row", "radius"], fns := [("rows_on_the_way", 30)], ffs := [], cst := csts }
theorem sc_root_of : FnScope ["row", "radius"] ["row", "radius"] (defScope (topS 22)) := ⟨rfl, rfl, rfl, by decide +kernel, rfl, by decide +kernel, by decide +kernel⟩
theorem cp_root_of : cpSs cfg_root_of [] 60 (defScope (topS 22)) (defBody (topS 22)) = some code_root_of := by rfl
def cfg_law_pick : Cfg := { N := ["draws", "choices"], fns := [("_law_draw", 101)], ffs := [], cst := csts }
theorem sc_law_pick : FnScope ["draws", "choices"] ["draws", "choices"] (defScope (topS 26)) := ⟨rfl, rfl, rfl, by decide +kernel, rfl, by decide +kernel, by decide +kernel⟩
theorem cp_law_pick : cpSs cfg_law_pick [] 60 (defScope (topS 26)) (defBody (topS 26)) = some code_law_pick := by rfl
def cfg_law_true : Cfg := { N := ["value", "expected"], fns := [], ffs := [], cst := csts }
theorem sc_law_true : FnScope ["value", "expected"] ["value", "expected"] (defScope (topS 27)) := ⟨rfl, rfl, rfl, by decide +kernel, rfl, by decide +kernel, by decide +kernel⟩
theorem cp_law_true : cpSs cfg_law_true [] 60 (defScope (topS 27)) (defBody (topS 27)) = some code_law_true := by rfl
def cfg_law_row : Cfg := { N := ["draws", "most", "wide", "stay", "found", "k"], fns := [("_law_pick", 102), ("_law_draw", 101)], ffs := [], cst := csts }
theorem sc_law_row : FnScope ["draws", "most", "wide", "stay", "found", "k"] ["draws", "most"] (defScope (topS 28)) := ⟨rfl, rfl, rfl, by decide +kernel, rfl, by decide +kernel, by decide +kernel⟩
theorem cp_law_row : cpSs cfg_law_row [] 60 (defScope (topS 28)) (defBody (topS 28)) = some code_law_row := by rfl
def cfg_law_near : Cfg := { N := ["row", "place"], fns := [], ffs := [], cst := csts }
theorem sc_law_near : FnScope ["row", "place"] ["row", "place"] (defScope (topS 29)) := ⟨rfl, rfl, rfl, by decide +kernel, rfl, by decide +kernel, by decide +kernel⟩
theorem cp_law_near : cpSs cfg_law_near [] 60 (defScope (topS 29)) (defBody (topS 29)) = some code_law_near := by rfl
def cfg_law_median : Cfg := { N := ["row", "radius", "found", "place", "window", "near", "good", "value", "one"], fns := [("_law_near", 105)], ffs := [], cst := csts }
theorem sc_law_median : FnScope ["row", "radius", "found", "place", "window", "near", "good", "value", "one"] ["row", "radius"] (defScope (topS 30)) := ⟨rfl, rfl, rfl, by decide +kernel, rfl, by decide +kernel, by decide +kernel⟩
theorem cp_law_median : cpSs cfg_law_median [] 60 (defScope (topS 30)) (defBody (topS 30)) = some code_law_median := by rfl
def cfg_law_calm : Cfg := { N := ["row", "radius", "begin", "values", "near"], fns := [("_law_near", 105)], ffs := [], cst := csts }
theorem sc_law_calm : FnScope ["row", "radius", "begin", "values", "near"] ["row", "radius"] (defScope (topS 31)) := ⟨rfl, rfl, rfl, by decide +kernel, rfl, by decide +kernel, by decide +kernel⟩
theorem cp_law_calm : cpSs cfg_law_calm [] 60 (defScope (topS 31)) (defBody (topS 31)) = some code_law_calm := by rfl
def cfg_law : Cfg := { N := ["script", "draws", "row", "radius", "calm", "first", "begin", "values", "near", "good", "one"], fns := [("_law_row", 104), ("_law_calm", 108), ("_law_draw", 101), ("root_of", 32), ("greatest_radius", 20), ("_law_true", 103), ("_law_near", 105), ("first_turn", 18), ("is_root", 17), ("_law_median", 106)], ffs := [], cst := csts }
theorem sc_law : FnScope ["script", "draws", "row", "radius", "calm", "first", "begin", "values", "near", "good", "one"] ["script"] (defScope (topS 32)) := ⟨rfl, rfl, rfl, by decide +kernel, rfl, by decide +kernel, by decide +kernel⟩
theorem cp_law : cpSs cfg_law [] 60 (defScope (topS 32)) (defBody (topS 32)).tail = some code_law04.tail := by rfl
def tb (da : Addr) : Tab DrT where
  F := fun i => match i with
    | 0 => isIntD
    | 1 => isRowD
    | 2 => checkRowD
    | 3 => checkRadD
    | 4 => checkBothD
    | 5 => longerD
    | 6 => medianD
    | 16 => evenD
    | 17 => isRootD
    | 18 => firstD
    | 20 => grD
    | 30 => waysD
    | 32 => rootOfD
    | 102 => pickD da
    | 103 => lawTrueD
    | 104 => lawRowD da
    | 105 => nearD
    | 106 => medianD
    | 108 => calmD
    | 101 => drawD da
    | _ => fun _ _ => .stuck
  FF := fun _ _ _ => .stuck
  ar := fun i => match i with
    | 0 => 3
    | 1 => 1
    | 2 => 1
    | 3 => 1
    | 4 => 2
    | 5 => 2
    | 6 => 2
    | 16 => 1
    | 17 => 2
    | 18 => 2
    | 20 => 1
    | 30 => 2
    | 32 => 2
    | 102 => 2
    | 103 => 2
    | 104 => 2
    | 105 => 2
    | 106 => 2
    | 108 => 2
    | 101 => 2
    | _ => 0
abbrev sStart : Stmt := topS 24
abbrev sDraw : Stmt := topS 25
theorem scDraw : FnScope ["draws", "limit", "numbers", "at", "cell", "mixed"] ["draws", "limit"] (defScope sDraw) := ⟨rfl, rfl, rfl, by decide +kernel, rfl, by decide +kernel, by decide +kernel⟩
theorem scStart : FnScope ["script"] ["script"] (defScope sStart) := ⟨rfl, rfl, rfl, by decide +kernel, rfl, by decide +kernel, by decide +kernel⟩
section
variable {P : Program} {w : World} {K : PySem.W.Frag} {mg : Str → Option Value} {base : Heap} {xc : Nat → Value}
theorem ok_draw {f : Addr} {fd : FuncData} {k : Nat} {da na : Addr} {xa : Nat → Addr} (F : Fun K "_law_draw" "_law_draw" sDraw f fd) (ml : mg "len" = none) : FnOk P w K mg base CX0 (k + 1) f fd ["draws", "limit"] (spOf (drS da na xa) xc 2 (drawD da)) := by
  refine F.ok scDraw (fun vs H Q E h => h.1) (fun cdv A outer s H vs Q E hr h => ?_)
  obtain ⟨hl, S, ds, st, wd, rp, o⟩ := h
  have hns : drawD da ds st ≠ .stuck := fun z => by rw [z] at o; exact o
  obtain ⟨limit, rfl, l0, l1, eD⟩ := drawD_inv hns
  rw [eD] at o
  obtain ⟨cells, c⟩ := st
  cases rp with
  | cons r1 rp =>
  cases rp with
  | cons r2 rp =>
  cases rp
  obtain rfl : _ = V.ref da := r1.tokv
  cases r2
  obtain ⟨⟨hd, hn, hne, h63, hdn⟩, _⟩ := wd.r
  have hd : H da = some (.lst [.ref na, .int c]) := hd
  have hn : H na = some (.lst (cells.map V.int)) := hn
  have hne : cells ≠ [] := hne
  have hpos : 0 < cells.length := List.length_pos_iff.mpr hne
  refine ⟨_, pss_cons (ps_set (i := 2) scDraw.nd rfl (.inl rfl) (pe_ix ix_list (pv 0) pe_int (fun _ _ => rfl)))
    (pss_cons (ps_asg (pe_op op_add (pe_ix ix_list (pv 0) pe_int (fun _ _ => rfl)) pe_int) (pg_sub (pv 0) pe_int set_list))
    (pss_cons (ps_set (i := 3) scDraw.nd rfl (.inl rfl) (pe_op op_mod (pe_ix ix_list (pv 0) pe_int (fun _ _ => rfl)) (pe_callB call_len_seq (by rfl) ml PySem.boot_len (pa_cons (pv 2) pa_nil))))
    (pss_cons (ps_set (i := 4) scDraw.nd rfl (.inl rfl) (pe_ix ix_list (pv 2) (pv 3) (fun _ _ => rfl)))
    (pss_cons (ps_if (pt_cmpR op_ge (pv 4) pe_int (nomark _)) (pss_cons (ps_asg (pe_op op_fdiv (pv 4) (pv 1)) (pg_sub (pv 2) (pv 3) set_list)) (pss_one (ps_ret (pe_op op_mod (pv 4) (pv 1))))) pss_nil)
    (pss_cons (ps_set (i := 5) scDraw.nd rfl (.inl rfl) (pe_op op_mod (pe_op op_add (pv 4) (pe_op op_mul pe_int (pe_ix ix_list (pv 0) pe_int (fun _ _ => rfl)))) pe_int))
    (pss_cons (ps_set (i := 5) scDraw.nd rfl (.inl rfl) (pe_op op_mod (pe_op op_pow (pv 5) pe_int) pe_int))
    (pss_one (ps_ret (pe_op op_mod (pe_op op_fdiv (pe_op op_mod (pe_op op_add (pe_op op_mul (pe_op op_fdiv (pv 5) pe_int) pe_int) (pv 5)) pe_int) pe_int) (pv 1)))))))))), ?_⟩
  -- numbers = draws[0]
  refine ⟨.ref da, rfl, da, _, 0, .ref na, rfl, rfl, .inl (.inl hd), rfl, ?_⟩
  -- draws[1] = draws[1] + 1
  refine ⟨.ref da, rfl, da, _, 1, .int c, rfl, rfl, .inl (.inl hd), rfl, c, 1, rfl, rfl, ?_⟩
  refine ⟨.ref da, rfl, da, _, 1, 1, rfl, rfl, hd, rfl, ?_⟩
  have hd1 : (upd H da (.lst [.ref na, .int (c + 1)])) da = some (.lst [.ref na, .int (c + 1)]) := upd_same
  have hn1 : (upd H da (.lst [.ref na, .int (c + 1)])) na = some (.lst (cells.map V.int)) := by rw [upd_ne hdn.symm]; exact hn
  -- at
  refine ⟨.ref da, rfl, da, _, 1, .int (c + 1), rfl, rfl, .inl (.inl hd1), rfl, .ref na, rfl, na, _, rfl, .inl (.inl (.inl hn1)), ?_⟩
  refine ⟨c + 1, _, rfl, rfl, by rw [List.length_map]; omega, ?_⟩
  rw [List.length_map]
  obtain ⟨j, hj, ej⟩ : ∃ j : Nat, j < cells.length ∧ (c + 1) % (cells.length : Int) = (j : Int) := by
    have h1 := Int.emod_nonneg (c + 1) (show (cells.length : Int) ≠ 0 by omega)
    have h2 := Int.emod_lt_of_pos (c + 1) (show (0 : Int) < (cells.length : Int) by omega)
    exact ⟨((c + 1) % (cells.length : Int)).toNat, by omega, by omega⟩
  have ejn : ((c + 1) % (cells.length : Int)).toNat = j := by omega
  show gName 3 (V.int ((c + 1) % (cells.length : Int))) _ _ _
  rw [ej]
  -- cell
  refine ⟨.ref na, rfl, .int j, rfl, na, _, j, _, rfl, rfl, .inl (.inl hn1), atI_int hj, ?_⟩
  generalize hcell : cells.getD j 0 = cell
  have eM : drawM (cells, c) limit = if 1000000000000000000 ≤ cell then (cell % limit, (cells.set j (cell / limit), c + 1)) else (drMix cell (c + 1) limit, (cells, c + 1)) := by
    unfold drawM
    simp only [ejn, hcell]
  rw [eM] at o
  refine ⟨.int cell, rfl, _, _, rfl, rfl, _, rfl, ite2 (fun e => ?_) (fun e => ?_)⟩
  · have e' : 1000000000000000000 ≤ cell := of_decide_eq_true e
    rw [if_pos e'] at o
    refine ⟨.int cell, rfl, .int limit, rfl, _, _, rfl, rfl, ⟨l0, l1⟩, ?_⟩
    refine ⟨.ref na, rfl, .int j, rfl, na, _, j, j, rfl, rfl, hn1, ?_, ?_⟩
    · rw [List.length_map]
      unfold ixN
      rw [if_pos (by omega), if_pos (by omega), Int.toNat_natCast]
    · refine ⟨.int cell, rfl, .int limit, rfl, _, _, rfl, rfl, l0, ?_⟩
      obtain ⟨x1, w1⟩ := dr_ext (H' := upd (upd H da (.lst [.ref na, .int (c + 1)])) na (.lst ((cells.map V.int).set j (.int (cell / limit))))) (cells.set j (cell / limit), c + 1) wd (fun a h1 h2 => by rw [upd_ne h2, upd_ne h1]) ⟨by rw [upd_ne hdn]; exact hd1, by rw [upd_same]; show some (HO.lst _) = some (HO.lst _); rw [List.map_set], by intro z; exact hne (List.length_eq_zero_iff.mp (by rw [← List.length_set (as := cells) (i := j) (a := cell / limit)]; exact List.length_eq_zero_iff.mpr z)), by rw [List.length_set]; exact h63, hdn⟩
      exact o S _ x1 w1 _ (.int _)
  · have e' : ¬ 1000000000000000000 ≤ cell := fun z => e (decide_eq_true z)
    rw [if_neg e'] at o
    refine ⟨.int cell, rfl, .ref da, rfl, da, _, 1, .int (c + 1), rfl, rfl, .inl (.inl hd1), rfl, _, _, rfl, rfl, .inl ⟨by decide, by decide⟩, _, _, rfl, rfl, _, _, rfl, rfl, (show (0 : Int) < 4294967291 by decide), ?_⟩
    have m0 := Int.emod_nonneg (cell + 104729 * (c + 1)) (show (4294967291 : Int) ≠ 0 by decide)
    have m1 := Int.emod_lt_of_pos (cell + 104729 * (c + 1)) (show (0 : Int) < 4294967291 by decide)
    refine ⟨_, rfl, _, _, rfl, rfl, ⟨by decide, by decide, pow5 m0 m1⟩, _, _, rfl, rfl, (show (0 : Int) < 4294967279 by decide), ?_⟩
    refine ⟨_, rfl, _, _, rfl, rfl, ⟨by decide, by decide⟩, _, _, rfl, rfl, .inr ⟨by decide, by decide⟩, _, rfl, _, _, rfl, rfl, _, _, rfl, rfl, (show (0 : Int) < 4294967231 by decide), _, _, rfl, rfl, ⟨by decide, by decide⟩, .int limit, rfl, _, _, rfl, rfl, l0, ?_⟩
    obtain ⟨x1, w1⟩ := dr_ext (H' := upd H da (.lst [.ref na, .int (c + 1)])) (cells, c + 1) wd (fun a h1 h2 => by rw [upd_ne h1]) ⟨hd1, hn1, hne, h63, hdn⟩
    exact o S _ x1 w1 _ (.int _)
theorem ok_start {f : Addr} {fd : FuncData} {k : Nat} (F : Fun K "_law_start" "_law_start" sStart f fd) (ml : mg "list" = none) : FnOk P w K mg base CX0 (k + 1) f fd ["script"] (spStart K) := by
  refine F.ok scStart (fun vs H Q E h => ?_) (fun cdv A outer s H vs Q E hr h => ?_)
  · obtain ⟨a, ns, rfl, _⟩ := h
    rfl
  · obtain ⟨a, ns, rfl, hS, hl, q⟩ := h
    refine ⟨_, pss_one (ps_ret (pe_lst (pa_cons (pe_ifExp (pt_cmpR (op_neD hr.units) (pv 0) (pe_lst pa_nil) (nomark _)) (pe_callTy call_list_of (by rfl) ml (by decide +kernel) (pa_cons (pv 0) pa_nil)) (pe_lst (pa_cons pe_int pa_nil))) (pa_cons pe_int pa_nil)))), ?_⟩
    refine ⟨.ref a, rfl, Nat.zero_le _, fun o no => ?_⟩
    have sm : Same H (upd H o (.lst [])) := fun b x e => by
      rw [upd_ne (ne_of_none e no)]
      exact e
    refine ⟨_, _, .lst (sm.seq hS) (dp_ints ns), .lst (.inl (.inl upd_same)) .nil, shaped_ints ns, rfl, _, rfl, ite2 (fun e => ?_) (fun e => ?_)⟩
    · rw [eqv_nil] at e
      have h0 : ns ≠ [] := fun z => by rw [decide_eq_true z] at e; cases e
      refine ⟨.ref a, rfl, a, _, rfl, .inl (sm.seq hS), fun l nl => ⟨by show 2 ≤ _; decide, fun p np => ?_⟩⟩
      have hlp : l ≠ p := fun z => by rw [z, upd_same] at np; cases np
      refine q _ p l hlp.symm upd_same ?_
      rw [upd_ne hlp, upd_same]
      unfold cellsOf
      rw [if_neg h0]
    · rw [eqv_nil] at e
      have h0 : ns = [] := by
        by_cases z : ns = []
        · exact z
        · rw [decide_eq_false z] at e
          exact absurd rfl e
      subst h0
      refine ⟨by show 1 ≤ _; decide, fun l nl => ⟨by show 2 ≤ _; decide, fun p np => ?_⟩⟩
      have hlp : l ≠ p := fun z => by rw [z, upd_same] at np; cases np
      refine q _ p l hlp.symm upd_same ?_
      rw [upd_ne hlp, upd_same]
      rfl
end

section
variable {P : Program} {w : World} {K : PySem.W.Frag} {mg : Str → Option Value} {base : Heap}
abbrev xc0 : Nat → Value := fun _ => .none
theorem fns_law {da na : Addr} (b : ∀ x ∈ bltNames, mg x = none) (c : CstOk mg csts)
    (d_is_int : DefAt K mg "is_int" (topS 7) ["value", "low", "high"])
    (d_is_row : DefAt K mg "is_row" (topS 8) ["value"])
    (d_check_row : DefAt K mg "check_row" (topS 9) ["value"])
    (d_check_radius : DefAt K mg "check_radius" (topS 10) ["value"])
    (d_check_both : DefAt K mg "check_both" (topS 11) ["row", "radius"])
    (d_longer : DefAt K mg "longer" (topS 13) ["row", "count"])
    (d_median : DefAt K mg "median" (topS 14) ["row", "radius"])
    (d_is_even_run : DefAt K mg "is_even_run" (topS 16) ["values"])
    (d_is_root : DefAt K mg "is_root" (topS 17) ["row", "radius"])
    (d_first_turn : DefAt K mg "first_turn" (topS 18) ["row", "radius"])
    (d_greatest_radius : DefAt K mg "greatest_radius" (topS 19) ["row"])
    (d_rows_on_the_way : DefAt K mg "rows_on_the_way" (topS 21) ["row", "radius"])
    (d_root_of : DefAt K mg "root_of" (topS 22) ["row", "radius"])
    (d_law_pick : DefAt K mg "_law_pick" (topS 26) ["draws", "choices"])
    (d_law_true : DefAt K mg "_law_true" (topS 27) ["value", "expected"])
    (d_law_row : DefAt K mg "_law_row" (topS 28) ["draws", "most"])
    (d_law_near : DefAt K mg "_law_near" (topS 29) ["row", "place"])
    (d_law_median : DefAt K mg "_law_median" (topS 30) ["row", "radius"])
    (d_law_calm : DefAt K mg "_law_calm" (topS 31) ["row", "radius"])
    (d_law_draw : DefAt K mg "_law_draw" (topS 25) ["draws", "limit"])
    : FnsOk P w K mg base xc0 (drS da na) (tb da) 6 cfg_law.fns := by
  have h_law_draw : FnAt P w K mg base CX0 1 "_law_draw" (spOf (drS da na) xc0 ((tb da).ar 101) ((tb da).F 101)) := by
    obtain ⟨f, fd, F, hm, hb⟩ := d_law_draw
    exact ⟨f, fd, _, ok_draw (k := 0) F (b _ (by decide)), hm, F.kp, hb⟩
  have h_is_int : FnAt P w K mg base CX0 1 "is_int" (spOf (drS da na) xc0 ((tb da).ar 0) ((tb da).F 0)) := fnAtD (g := cfg_is_int) (k := 0) d_is_int sc_is_int (glob_mk b c fns_nil rfl) cp_is_int (by decide) (run_is_int) rfl rfl
  have h_is_row : FnAt P w K mg base CX0 2 "is_row" (spOf (drS da na) xc0 ((tb da).ar 1) ((tb da).F 1)) := fnAtD (g := cfg_is_row) (k := 1) d_is_row sc_is_row (glob_mk b c (fns_cons h_is_int (by decide) fns_nil) rfl) cp_is_row (by decide) (run_is_row rfl rfl) rfl rfl
  have h_check_row : FnAt P w K mg base CX0 3 "check_row" (spOf (drS da na) xc0 ((tb da).ar 2) ((tb da).F 2)) := fnAtD (g := cfg_check_row) (k := 2) d_check_row sc_check_row (glob_mk b c (fns_cons h_is_row (by decide) fns_nil) rfl) cp_check_row (by decide) (run_check_row rfl rfl) rfl rfl
  have h_check_radius : FnAt P w K mg base CX0 2 "check_radius" (spOf (drS da na) xc0 ((tb da).ar 3) ((tb da).F 3)) := fnAtD (g := cfg_check_radius) (k := 1) d_check_radius sc_check_radius (glob_mk b c (fns_cons h_is_int (by decide) fns_nil) rfl) cp_check_radius (by decide) (run_check_radius rfl rfl) rfl rfl
  have h_check_both : FnAt P w K mg base CX0 4 "check_both" (spOf (drS da na) xc0 ((tb da).ar 4) ((tb da).F 4)) := fnAtD (g := cfg_check_both) (k := 3) d_check_both sc_check_both (glob_mk b c (fns_cons h_check_row (by decide) (fns_cons h_check_radius (by decide) fns_nil)) rfl) cp_check_both (by decide) (run_check_both rfl rfl rfl rfl) rfl rfl
  have h_longer : FnAt P w K mg base CX0 1 "longer" (spOf (drS da na) xc0 ((tb da).ar 5) ((tb da).F 5)) := fnAtD (g := cfg_longer) (k := 0) d_longer sc_longer (glob_mk b c fns_nil rfl) cp_longer (by decide) (run_longer) rfl rfl
  have h_median : FnAt P w K mg base CX0 2 "median" (spOf (drS da na) xc0 ((tb da).ar 6) ((tb da).F 6)) := fnAtD (g := cfg_median) (k := 1) d_median sc_median (glob_mk b c (fns_cons h_longer (by decide) fns_nil) rfl) cp_median (by decide) (run_median rfl rfl) rfl rfl
  have h_is_even_run : FnAt P w K mg base CX0 1 "is_even_run" (spOf (drS da na) xc0 ((tb da).ar 16) ((tb da).F 16)) := fnAtD (g := cfg_is_even_run) (k := 0) d_is_even_run sc_is_even_run (glob_mk b c fns_nil rfl) cp_is_even_run (by decide) (run_even) rfl rfl
  have h_is_root : FnAt P w K mg base CX0 5 "is_root" (spOf (drS da na) xc0 ((tb da).ar 17) ((tb da).F 17)) := fnAtD (g := cfg_is_root) (k := 4) d_is_root sc_is_root (glob_mk b c (fns_cons h_check_both (by decide) (fns_cons h_median (by decide) fns_nil)) rfl) cp_is_root (by decide) (run_is_root rfl rfl rfl rfl) rfl rfl
  have h_first_turn : FnAt P w K mg base CX0 5 "first_turn" (spOf (drS da na) xc0 ((tb da).ar 18) ((tb da).F 18)) := fnAtD (g := cfg_first_turn) (k := 4) d_first_turn sc_first_turn (glob_mk b c (fns_cons h_check_both (by decide) (fns_cons h_longer (by decide) (fns_cons h_is_even_run (by decide) fns_nil))) rfl) cp_first_turn (by decide) (run_first_turn rfl rfl rfl rfl rfl rfl) rfl rfl
  have h_greatest_radius : FnAt P w K mg base CX0 5 "greatest_radius" (spOf (drS da na) xc0 ((tb da).ar 20) ((tb da).F 20)) := fnAtD (g := cfg_greatest_radius) (k := 4) d_greatest_radius sc_greatest_radius (glob_mk b c (fns_cons h_check_both (by decide) (fns_cons h_median (by decide) fns_nil)) rfl) cp_greatest_radius (by decide) (run_greatest rfl rfl rfl rfl) rfl rfl
  have h_rows_on_the_way : FnAt P w K mg base CX0 5 "rows_on_the_way" (spOf (drS da na) xc0 ((tb da).ar 30) ((tb da).F 30)) := fnAtD (g := cfg_rows_on_the_way) (k := 4) d_rows_on_the_way sc_rows_on_the_way (glob_mk b c (fns_cons h_check_both (by decide) (fns_cons h_median (by decide) fns_nil)) rfl) cp_rows_on_the_way (by decide) (run_ways rfl rfl rfl rfl) rfl rfl
  have h_root_of : FnAt P w K mg base CX0 6 "root_of" (spOf (drS da na) xc0 ((tb da).ar 32) ((tb da).F 32)) := fnAtD (g := cfg_root_of) (k := 5) d_root_of sc_root_of (glob_mk b c (fns_cons h_rows_on_the_way (by decide) fns_nil) rfl) cp_root_of (by decide) (run_root_of rfl rfl) rfl rfl
  have h_law_pick : FnAt P w K mg base CX0 2 "_law_pick" (spOf (drS da na) xc0 ((tb da).ar 102) ((tb da).F 102)) := fnAtD (g := cfg_law_pick) (k := 1) d_law_pick sc_law_pick (glob_mk b c (fns_cons h_law_draw (by decide) fns_nil) rfl) cp_law_pick (by decide) (run_pick rfl rfl) rfl rfl
  have h_law_true : FnAt P w K mg base CX0 1 "_law_true" (spOf (drS da na) xc0 ((tb da).ar 103) ((tb da).F 103)) := fnAtD (g := cfg_law_true) (k := 0) d_law_true sc_law_true (glob_mk b c fns_nil rfl) cp_law_true (by decide) (run_law_true) rfl rfl
  have h_law_row : FnAt P w K mg base CX0 3 "_law_row" (spOf (drS da na) xc0 ((tb da).ar 104) ((tb da).F 104)) := fnAtD (g := cfg_law_row) (k := 2) d_law_row sc_law_row (glob_mk b c (fns_cons h_law_pick (by decide) (fns_cons h_law_draw (by decide) fns_nil)) rfl) cp_law_row (by decide) (run_row rfl rfl rfl rfl) rfl rfl
  have h_law_near : FnAt P w K mg base CX0 1 "_law_near" (spOf (drS da na) xc0 ((tb da).ar 105) ((tb da).F 105)) := fnAtD (g := cfg_law_near) (k := 0) d_law_near sc_law_near (glob_mk b c fns_nil rfl) cp_law_near (by decide) (run_near) rfl rfl
  have h_law_median : FnAt P w K mg base CX0 2 "_law_median" (spOf (drS da na) xc0 ((tb da).ar 106) ((tb da).F 106)) := fnAtD (g := cfg_law_median) (k := 1) d_law_median sc_law_median (glob_mk b c (fns_cons h_law_near (by decide) fns_nil) rfl) cp_law_median (by decide) (run_law_median rfl rfl) rfl rfl
  have h_law_calm : FnAt P w K mg base CX0 2 "_law_calm" (spOf (drS da na) xc0 ((tb da).ar 108) ((tb da).F 108)) := fnAtD (g := cfg_law_calm) (k := 1) d_law_calm sc_law_calm (glob_mk b c (fns_cons h_law_near (by decide) fns_nil) rfl) cp_law_calm (by decide) (run_calm rfl rfl) rfl rfl
  exact (fns_cons h_law_row (by decide) (fns_cons h_law_calm (by decide) (fns_cons h_law_draw (by decide) (fns_cons h_root_of (by decide) (fns_cons h_greatest_radius (by decide) (fns_cons h_law_true (by decide) (fns_cons h_law_near (by decide) (fns_cons h_first_turn (by decide) (fns_cons h_is_root (by decide) (fns_cons h_law_median (by decide) fns_nil))))))))))
end
section
variable {P : Program} {w : World} {K : PySem.W.Frag} {mg : Str → Option Value} {base : Heap}
theorem ok_law {f : Addr} {fd : FuncData} (F : Fun K "law" "law" (topS 32) f fd) (b : ∀ x ∈ bltNames, mg x = none) (c : CstOk mg csts)
    (d_is_int : DefAt K mg "is_int" (topS 7) ["value", "low", "high"])
    (d_is_row : DefAt K mg "is_row" (topS 8) ["value"])
    (d_check_row : DefAt K mg "check_row" (topS 9) ["value"])
    (d_check_radius : DefAt K mg "check_radius" (topS 10) ["value"])
    (d_check_both : DefAt K mg "check_both" (topS 11) ["row", "radius"])
    (d_longer : DefAt K mg "longer" (topS 13) ["row", "count"])
    (d_median : DefAt K mg "median" (topS 14) ["row", "radius"])
    (d_is_even_run : DefAt K mg "is_even_run" (topS 16) ["values"])
    (d_is_root : DefAt K mg "is_root" (topS 17) ["row", "radius"])
    (d_first_turn : DefAt K mg "first_turn" (topS 18) ["row", "radius"])
    (d_greatest_radius : DefAt K mg "greatest_radius" (topS 19) ["row"])
    (d_rows_on_the_way : DefAt K mg "rows_on_the_way" (topS 21) ["row", "radius"])
    (d_root_of : DefAt K mg "root_of" (topS 22) ["row", "radius"])
    (d_law_pick : DefAt K mg "_law_pick" (topS 26) ["draws", "choices"])
    (d_law_true : DefAt K mg "_law_true" (topS 27) ["value", "expected"])
    (d_law_row : DefAt K mg "_law_row" (topS 28) ["draws", "most"])
    (d_law_near : DefAt K mg "_law_near" (topS 29) ["row", "place"])
    (d_law_median : DefAt K mg "_law_median" (topS 30) ["row", "radius"])
    (d_law_calm : DefAt K mg "_law_calm" (topS 31) ["row", "radius"])
    (d_law_draw : DefAt K mg "_law_draw" (topS 25) ["draws", "limit"])
    (d_law_start : DefAt K mg "_law_start" (topS 24) ["script"])
    : FnOk P w K mg base CX0 (6 + 2) f fd ["script"] (spLaw K) := by
  obtain ⟨fS, fdS, FS, mS, bS⟩ := d_law_start
  have GS : FnOk P w K mg base CX0 (6 + 1) fS fdS ["script"] (spStart K) := ok_start FS (b _ (by decide))
  refine F.ok sc_law (fun vs H Q E h => ?_) (fun cdv A outer s H vs Q E hr h => ?_)
  · obtain ⟨a, ns, rfl, _⟩ := h
    rfl
  · obtain ⟨a, ns, rfl, hS, hl, q⟩ := h
    refine ⟨_, pss_cons (ps_set (i := 1) sc_law.nd rfl (by first | exact .inl rfl | exact .inr rfl) (pe_call GS hr (by rfl) mS FS.kp bS .nil pass0 (pa_cons (pv 0) pa_nil)))
      (show PSs _ (defBody (topS 32)).tail (fun D sg H1 => ∃ da na, TCs (drS da na) (tb da) E xc0 code_law04.tail D sg H1) from ⟨fun pins s1 sg H1 D I ⟨da, na, hq⟩ => (cpSs_ok (ctx0 (g := cfg_law) (k := 6 + 1) (TB := tb da) (G := drS da na) (xc := xc0) (glob_mk b c (fun x i hx => (fns_law b c d_is_int d_is_row d_check_row d_check_radius d_check_both d_longer d_median d_is_even_run d_is_root d_first_turn d_greatest_radius d_rows_on_the_way d_root_of d_law_pick d_law_true d_law_row d_law_near d_law_median d_law_calm d_law_draw x i hx).mono (by decide)) rfl) sc_law.nd sc_law.kind hr) 60 _ _ cp_law).run pins s1 sg H1 D I hq⟩), ?_⟩
    refine ⟨.ref a, rfl, a, ns, rfl, hS, hl, fun H1 da na hdn hd hn => ?_⟩
    refine ⟨da, na, ⟨fun _ => False, fun a => a = da ∨ a = na, fun _ => 0⟩, H1, ⟨fun _ => False, fun a => a = da ∨ a = na, fun _ => 0⟩, _, (cellsOf ns, 0), .refl, ⟨⟨⟨hd, hn, cellsOf_ne ns, cellsOf_len hl, hdn⟩, fun _ => Iff.rfl, rfl⟩, fun _ z => z.elim, fun _ z => z.elim⟩, fm_law (m := 9), ?_⟩
    obtain ⟨s', e⟩ := law04_ok (TB := tb da) (da := da) rfl rfl rfl rfl rfl rfl rfl rfl rfl rfl rfl rfl rfl rfl rfl rfl rfl rfl rfl rfl (cellsOf ns, 0)
    exact outs_true (G := drS da na) e q
end

theorem all_mk {l : PySem.W.OpenLaw} {w : World} {K : PySem.W.Frag} {h : Heap} {mg : Str → Option Value} {fa : Addr} (X : K.In h) (G : h.Ns mainGlobals mg) (hfa : mg "law" = some (.ref fa))
    {f_is_int : Addr} {od_is_int an_is_int : Option Addr} {sl_is_int : Array (Option Value)} {oc_is_int kV_is_int dc_is_int pm_is_int cd_is_int ct_is_int : Value}
    (a_is_int : PySem.W.nsIn K mainGlobals "is_int" = some (some (.ref f_is_int))) (l_is_int : K.lookup f_is_int = some ⟨oc_is_int, od_is_int, .func (PySem.W.fnOf "is_int" "is_int" (defArgs (topS 7)) (defBody (topS 7)) (defScope (topS 7)) .none kV_is_int dc_is_int pm_is_int an_is_int cd_is_int ct_is_int), sl_is_int⟩) (c_is_int : PySem.W.codeIn K cd_is_int "is_int" = true) (k_is_int : PySem.W.keepIn K (.ref f_is_int) = true)
    {f_is_row : Addr} {od_is_row an_is_row : Option Addr} {sl_is_row : Array (Option Value)} {oc_is_row kV_is_row dc_is_row pm_is_row cd_is_row ct_is_row : Value}
    (a_is_row : PySem.W.nsIn K mainGlobals "is_row" = some (some (.ref f_is_row))) (l_is_row : K.lookup f_is_row = some ⟨oc_is_row, od_is_row, .func (PySem.W.fnOf "is_row" "is_row" (defArgs (topS 8)) (defBody (topS 8)) (defScope (topS 8)) .none kV_is_row dc_is_row pm_is_row an_is_row cd_is_row ct_is_row), sl_is_row⟩) (c_is_row : PySem.W.codeIn K cd_is_row "is_row" = true) (k_is_row : PySem.W.keepIn K (.ref f_is_row) = true)
    {f_check_row : Addr} {od_check_row an_check_row : Option Addr} {sl_check_row : Array (Option Value)} {oc_check_row kV_check_row dc_check_row pm_check_row cd_check_row ct_check_row : Value}
    (a_check_row : PySem.W.nsIn K mainGlobals "check_row" = some (some (.ref f_check_row))) (l_check_row : K.lookup f_check_row = some ⟨oc_check_row, od_check_row, .func (PySem.W.fnOf "check_row" "check_row" (defArgs (topS 9)) (defBody (topS 9)) (defScope (topS 9)) .none kV_check_row dc_check_row pm_check_row an_check_row cd_check_row ct_check_row), sl_check_row⟩) (c_check_row : PySem.W.codeIn K cd_check_row "check_row" = true) (k_check_row : PySem.W.keepIn K (.ref f_check_row) = true)
    {f_check_radius : Addr} {od_check_radius an_check_radius : Option Addr} {sl_check_radius : Array (Option Value)} {oc_check_radius kV_check_radius dc_check_radius pm_check_radius cd_check_radius ct_check_radius : Value}
    (a_check_radius : PySem.W.nsIn K mainGlobals "check_radius" = some (some (.ref f_check_radius))) (l_check_radius : K.lookup f_check_radius = some ⟨oc_check_radius, od_check_radius, .func (PySem.W.fnOf "check_radius" "check_radius" (defArgs (topS 10)) (defBody (topS 10)) (defScope (topS 10)) .none kV_check_radius dc_check_radius pm_check_radius an_check_radius cd_check_radius ct_check_radius), sl_check_radius⟩) (c_check_radius : PySem.W.codeIn K cd_check_radius "check_radius" = true) (k_check_radius : PySem.W.keepIn K (.ref f_check_radius) = true)
    {f_check_both : Addr} {od_check_both an_check_both : Option Addr} {sl_check_both : Array (Option Value)} {oc_check_both kV_check_both dc_check_both pm_check_both cd_check_both ct_check_both : Value}
    (a_check_both : PySem.W.nsIn K mainGlobals "check_both" = some (some (.ref f_check_both))) (l_check_both : K.lookup f_check_both = some ⟨oc_check_both, od_check_both, .func (PySem.W.fnOf "check_both" "check_both" (defArgs (topS 11)) (defBody (topS 11)) (defScope (topS 11)) .none kV_check_both dc_check_both pm_check_both an_check_both cd_check_both ct_check_both), sl_check_both⟩) (c_check_both : PySem.W.codeIn K cd_check_both "check_both" = true) (k_check_both : PySem.W.keepIn K (.ref f_check_both) = true)
    {f_longer : Addr} {od_longer an_longer : Option Addr} {sl_longer : Array (Option Value)} {oc_longer kV_longer dc_longer pm_longer cd_longer ct_longer : Value}
    (a_longer : PySem.W.nsIn K mainGlobals "longer" = some (some (.ref f_longer))) (l_longer : K.lookup f_longer = some ⟨oc_longer, od_longer, .func (PySem.W.fnOf "longer" "longer" (defArgs (topS 13)) (defBody (topS 13)) (defScope (topS 13)) .none kV_longer dc_longer pm_longer an_longer cd_longer ct_longer), sl_longer⟩) (c_longer : PySem.W.codeIn K cd_longer "longer" = true) (k_longer : PySem.W.keepIn K (.ref f_longer) = true)
    {f_median : Addr} {od_median an_median : Option Addr} {sl_median : Array (Option Value)} {oc_median kV_median dc_median pm_median cd_median ct_median : Value}
    (a_median : PySem.W.nsIn K mainGlobals "median" = some (some (.ref f_median))) (l_median : K.lookup f_median = some ⟨oc_median, od_median, .func (PySem.W.fnOf "median" "median" (defArgs (topS 14)) (defBody (topS 14)) (defScope (topS 14)) .none kV_median dc_median pm_median an_median cd_median ct_median), sl_median⟩) (c_median : PySem.W.codeIn K cd_median "median" = true) (k_median : PySem.W.keepIn K (.ref f_median) = true)
    {f_is_even_run : Addr} {od_is_even_run an_is_even_run : Option Addr} {sl_is_even_run : Array (Option Value)} {oc_is_even_run kV_is_even_run dc_is_even_run pm_is_even_run cd_is_even_run ct_is_even_run : Value}
    (a_is_even_run : PySem.W.nsIn K mainGlobals "is_even_run" = some (some (.ref f_is_even_run))) (l_is_even_run : K.lookup f_is_even_run = some ⟨oc_is_even_run, od_is_even_run, .func (PySem.W.fnOf "is_even_run" "is_even_run" (defArgs (topS 16)) (defBody (topS 16)) (defScope (topS 16)) .none kV_is_even_run dc_is_even_run pm_is_even_run an_is_even_run cd_is_even_run ct_is_even_run), sl_is_even_run⟩) (c_is_even_run : PySem.W.codeIn K cd_is_even_run "is_even_run" = true) (k_is_even_run : PySem.W.keepIn K (.ref f_is_even_run) = true)
    {f_is_root : Addr} {od_is_root an_is_root : Option Addr} {sl_is_root : Array (Option Value)} {oc_is_root kV_is_root dc_is_root pm_is_root cd_is_root ct_is_root : Value}
    (a_is_root : PySem.W.nsIn K mainGlobals "is_root" = some (some (.ref f_is_root))) (l_is_root : K.lookup f_is_root = some ⟨oc_is_root, od_is_root, .func (PySem.W.fnOf "is_root" "is_root" (defArgs (topS 17)) (defBody (topS 17)) (defScope (topS 17)) .none kV_is_root dc_is_root pm_is_root an_is_root cd_is_root ct_is_root), sl_is_root⟩) (c_is_root : PySem.W.codeIn K cd_is_root "is_root" = true) (k_is_root : PySem.W.keepIn K (.ref f_is_root) = true)
    {f_first_turn : Addr} {od_first_turn an_first_turn : Option Addr} {sl_first_turn : Array (Option Value)} {oc_first_turn kV_first_turn dc_first_turn pm_first_turn cd_first_turn ct_first_turn : Value}
    (a_first_turn : PySem.W.nsIn K mainGlobals "first_turn" = some (some (.ref f_first_turn))) (l_first_turn : K.lookup f_first_turn = some ⟨oc_first_turn, od_first_turn, .func (PySem.W.fnOf "first_turn" "first_turn" (defArgs (topS 18)) (defBody (topS 18)) (defScope (topS 18)) .none kV_first_turn dc_first_turn pm_first_turn an_first_turn cd_first_turn ct_first_turn), sl_first_turn⟩) (c_first_turn : PySem.W.codeIn K cd_first_turn "first_turn" = true) (k_first_turn : PySem.W.keepIn K (.ref f_first_turn) = true)
    {f_greatest_radius : Addr} {od_greatest_radius an_greatest_radius : Option Addr} {sl_greatest_radius : Array (Option Value)} {oc_greatest_radius kV_greatest_radius dc_greatest_radius pm_greatest_radius cd_greatest_radius ct_greatest_radius : Value}
    (a_greatest_radius : PySem.W.nsIn K mainGlobals "greatest_radius" = some (some (.ref f_greatest_radius))) (l_greatest_radius : K.lookup f_greatest_radius = some ⟨oc_greatest_radius, od_greatest_radius, .func (PySem.W.fnOf "greatest_radius" "greatest_radius" (defArgs (topS 19)) (defBody (topS 19)) (defScope (topS 19)) .none kV_greatest_radius dc_greatest_radius pm_greatest_radius an_greatest_radius cd_greatest_radius ct_greatest_radius), sl_greatest_radius⟩) (c_greatest_radius : PySem.W.codeIn K cd_greatest_radius "greatest_radius" = true) (k_greatest_radius : PySem.W.keepIn K (.ref f_greatest_radius) = true)
    {f_rows_on_the_way : Addr} {od_rows_on_the_way an_rows_on_the_way : Option Addr} {sl_rows_on_the_way : Array (Option Value)} {oc_rows_on_the_way kV_rows_on_the_way dc_rows_on_the_way pm_rows_on_the_way cd_rows_on_the_way ct_rows_on_the_way : Value}
    (a_rows_on_the_way : PySem.W.nsIn K mainGlobals "rows_on_the_way" = some (some (.ref f_rows_on_the_way))) (l_rows_on_the_way : K.lookup f_rows_on_the_way = some ⟨oc_rows_on_the_way, od_rows_on_the_way, .func (PySem.W.fnOf "rows_on_the_way" "rows_on_the_way" (defArgs (topS 21)) (defBody (topS 21)) (defScope (topS 21)) .none kV_rows_on_the_way dc_rows_on_the_way pm_rows_on_the_way an_rows_on_the_way cd_rows_on_the_way ct_rows_on_the_way), sl_rows_on_the_way⟩) (c_rows_on_the_way : PySem.W.codeIn K cd_rows_on_the_way "rows_on_the_way" = true) (k_rows_on_the_way : PySem.W.keepIn K (.ref f_rows_on_the_way) = true)
    {f_root_of : Addr} {od_root_of an_root_of : Option Addr} {sl_root_of : Array (Option Value)} {oc_root_of kV_root_of dc_root_of pm_root_of cd_root_of ct_root_of : Value}
    (a_root_of : PySem.W.nsIn K mainGlobals "root_of" = some (some (.ref f_root_of))) (l_root_of : K.lookup f_root_of = some ⟨oc_root_of, od_root_of, .func (PySem.W.fnOf "root_of" "root_of" (defArgs (topS 22)) (defBody (topS 22)) (defScope (topS 22)) .none kV_root_of dc_root_of pm_root_of an_root_of cd_root_of ct_root_of), sl_root_of⟩) (c_root_of : PySem.W.codeIn K cd_root_of "root_of" = true) (k_root_of : PySem.W.keepIn K (.ref f_root_of) = true)
    {f_law_pick : Addr} {od_law_pick an_law_pick : Option Addr} {sl_law_pick : Array (Option Value)} {oc_law_pick kV_law_pick dc_law_pick pm_law_pick cd_law_pick ct_law_pick : Value}
    (a_law_pick : PySem.W.nsIn K mainGlobals "_law_pick" = some (some (.ref f_law_pick))) (l_law_pick : K.lookup f_law_pick = some ⟨oc_law_pick, od_law_pick, .func (PySem.W.fnOf "_law_pick" "_law_pick" (defArgs (topS 26)) (defBody (topS 26)) (defScope (topS 26)) .none kV_law_pick dc_law_pick pm_law_pick an_law_pick cd_law_pick ct_law_pick), sl_law_pick⟩) (c_law_pick : PySem.W.codeIn K cd_law_pick "_law_pick" = true) (k_law_pick : PySem.W.keepIn K (.ref f_law_pick) = true)
    {f_law_true : Addr} {od_law_true an_law_true : Option Addr} {sl_law_true : Array (Option Value)} {oc_law_true kV_law_true dc_law_true pm_law_true cd_law_true ct_law_true : Value}
    (a_law_true : PySem.W.nsIn K mainGlobals "_law_true" = some (some (.ref f_law_true))) (l_law_true : K.lookup f_law_true = some ⟨oc_law_true, od_law_true, .func (PySem.W.fnOf "_law_true" "_law_true" (defArgs (topS 27)) (defBody (topS 27)) (defScope (topS 27)) .none kV_law_true dc_law_true pm_law_true an_law_true cd_law_true ct_law_true), sl_law_true⟩) (c_law_true : PySem.W.codeIn K cd_law_true "_law_true" = true) (k_law_true : PySem.W.keepIn K (.ref f_law_true) = true)
    {f_law_row : Addr} {od_law_row an_law_row : Option Addr} {sl_law_row : Array (Option Value)} {oc_law_row kV_law_row dc_law_row pm_law_row cd_law_row ct_law_row : Value}
    (a_law_row : PySem.W.nsIn K mainGlobals "_law_row" = some (some (.ref f_law_row))) (l_law_row : K.lookup f_law_row = some ⟨oc_law_row, od_law_row, .func (PySem.W.fnOf "_law_row" "_law_row" (defArgs (topS 28)) (defBody (topS 28)) (defScope (topS 28)) .none kV_law_row dc_law_row pm_law_row an_law_row cd_law_row ct_law_row), sl_law_row⟩) (c_law_row : PySem.W.codeIn K cd_law_row "_law_row" = true) (k_law_row : PySem.W.keepIn K (.ref f_law_row) = true)
    {f_law_near : Addr} {od_law_near an_law_near : Option Addr} {sl_law_near : Array (Option Value)} {oc_law_near kV_law_near dc_law_near pm_law_near cd_law_near ct_law_near : Value}
    (a_law_near : PySem.W.nsIn K mainGlobals "_law_near" = some (some (.ref f_law_near))) (l_law_near : K.lookup f_law_near = some ⟨oc_law_near, od_law_near, .func (PySem.W.fnOf "_law_near" "_law_near" (defArgs (topS 29)) (defBody (topS 29)) (defScope (topS 29)) .none kV_law_near dc_law_near pm_law_near an_law_near cd_law_near ct_law_near), sl_law_near⟩) (c_law_near : PySem.W.codeIn K cd_law_near "_law_near" = true) (k_law_near : PySem.W.keepIn K (.ref f_law_near) = true)
    {f_law_median : Addr} {od_law_median an_law_median : Option Addr} {sl_law_median : Array (Option Value)} {oc_law_median kV_law_median dc_law_median pm_law_median cd_law_median ct_law_median : Value}
    (a_law_median : PySem.W.nsIn K mainGlobals "_law_median" = some (some (.ref f_law_median))) (l_law_median : K.lookup f_law_median = some ⟨oc_law_median, od_law_median, .func (PySem.W.fnOf "_law_median" "_law_median" (defArgs (topS 30)) (defBody (topS 30)) (defScope (topS 30)) .none kV_law_median dc_law_median pm_law_median an_law_median cd_law_median ct_law_median), sl_law_median⟩) (c_law_median : PySem.W.codeIn K cd_law_median "_law_median" = true) (k_law_median : PySem.W.keepIn K (.ref f_law_median) = true)
    {f_law_calm : Addr} {od_law_calm an_law_calm : Option Addr} {sl_law_calm : Array (Option Value)} {oc_law_calm kV_law_calm dc_law_calm pm_law_calm cd_law_calm ct_law_calm : Value}
    (a_law_calm : PySem.W.nsIn K mainGlobals "_law_calm" = some (some (.ref f_law_calm))) (l_law_calm : K.lookup f_law_calm = some ⟨oc_law_calm, od_law_calm, .func (PySem.W.fnOf "_law_calm" "_law_calm" (defArgs (topS 31)) (defBody (topS 31)) (defScope (topS 31)) .none kV_law_calm dc_law_calm pm_law_calm an_law_calm cd_law_calm ct_law_calm), sl_law_calm⟩) (c_law_calm : PySem.W.codeIn K cd_law_calm "_law_calm" = true) (k_law_calm : PySem.W.keepIn K (.ref f_law_calm) = true)
    {f_law_draw : Addr} {od_law_draw an_law_draw : Option Addr} {sl_law_draw : Array (Option Value)} {oc_law_draw kV_law_draw dc_law_draw pm_law_draw cd_law_draw ct_law_draw : Value}
    (a_law_draw : PySem.W.nsIn K mainGlobals "_law_draw" = some (some (.ref f_law_draw))) (l_law_draw : K.lookup f_law_draw = some ⟨oc_law_draw, od_law_draw, .func (PySem.W.fnOf "_law_draw" "_law_draw" (defArgs (topS 25)) (defBody (topS 25)) (defScope (topS 25)) .none kV_law_draw dc_law_draw pm_law_draw an_law_draw cd_law_draw ct_law_draw), sl_law_draw⟩) (c_law_draw : PySem.W.codeIn K cd_law_draw "_law_draw" = true) (k_law_draw : PySem.W.keepIn K (.ref f_law_draw) = true)
    {f_law_start : Addr} {od_law_start an_law_start : Option Addr} {sl_law_start : Array (Option Value)} {oc_law_start kV_law_start dc_law_start pm_law_start cd_law_start ct_law_start : Value}
    (a_law_start : PySem.W.nsIn K mainGlobals "_law_start" = some (some (.ref f_law_start))) (l_law_start : K.lookup f_law_start = some ⟨oc_law_start, od_law_start, .func (PySem.W.fnOf "_law_start" "_law_start" (defArgs (topS 24)) (defBody (topS 24)) (defScope (topS 24)) .none kV_law_start dc_law_start pm_law_start an_law_start cd_law_start ct_law_start), sl_law_start⟩) (c_law_start : PySem.W.codeIn K cd_law_start "_law_start" = true) (k_law_start : PySem.W.keepIn K (.ref f_law_start) = true)
    {f_law : Addr} {od_law an_law : Option Addr} {sl_law : Array (Option Value)} {oc_law kV_law dc_law pm_law cd_law ct_law : Value}
    (a_law : PySem.W.nsIn K mainGlobals "law" = some (some (.ref f_law))) (l_law : K.lookup f_law = some ⟨oc_law, od_law, .func (PySem.W.fnOf "law" "law" (defArgs (topS 32)) (defBody (topS 32)) (defScope (topS 32)) .none kV_law dc_law pm_law an_law cd_law ct_law), sl_law⟩) (c_law : PySem.W.codeIn K cd_law "law" = true) (k_law : PySem.W.keepIn K (.ref f_law) = true)
    (z_len : PySem.W.nsIn K mainGlobals "len" = some none)
    (z_min : PySem.W.nsIn K mainGlobals "min" = some none)
    (z_max : PySem.W.nsIn K mainGlobals "max" = some none)
    (z_sorted : PySem.W.nsIn K mainGlobals "sorted" = some none)
    (z_sum : PySem.W.nsIn K mainGlobals "sum" = some none)
    (z_all : PySem.W.nsIn K mainGlobals "all" = some none)
    (z_any : PySem.W.nsIn K mainGlobals "any" = some none)
    (z_abs : PySem.W.nsIn K mainGlobals "abs" = some none)
    (z_list : PySem.W.nsIn K mainGlobals "list" = some none)
    (z_tuple : PySem.W.nsIn K mainGlobals "tuple" = some none)
    (z_int : PySem.W.nsIn K mainGlobals "int" = some none)
    (z_bool : PySem.W.nsIn K mainGlobals "bool" = some none)
    (z_str : PySem.W.nsIn K mainGlobals "str" = some none)
    (z_isinstance : PySem.W.nsIn K mainGlobals "isinstance" = some none)
    (z_range : PySem.W.nsIn K mainGlobals "range" = some none)
    (z_enumerate : PySem.W.nsIn K mainGlobals "enumerate" = some none)
    (z_zip : PySem.W.nsIn K mainGlobals "zip" = some none)
    {t_MOST_VALUES : Tok} (y_MOST_VALUES : PySem.W.nsIn K mainGlobals "MOST_VALUES" = some (some (.int 12 t_MOST_VALUES)))
    {t_MOST_VALUE : Tok} (y_MOST_VALUE : PySem.W.nsIn K mainGlobals "MOST_VALUE" = some (some (.int 9 t_MOST_VALUE)))
    {t_MOST_RADIUS : Tok} (y_MOST_RADIUS : PySem.W.nsIn K mainGlobals "MOST_RADIUS" = some (some (.int 3 t_MOST_RADIUS)))
    : ∃ fd : FuncData, (∀ (s : Shared) (v : Value), BindsTo s fd ⟨[v], []⟩ [("script", v)]) ∧ ∀ base : Heap, K.In base → base.Ns mainGlobals mg → FnOk l.prog w K mg base CX0 8 fa fd ["script"] (spLaw K) := by
  have e := hfa.symm.trans (PySem.W.mg_of X G a_law)
  cases e
  have b : ∀ x ∈ bltNames, mg x = none := by
    intro x hx
    simp only [bltNames, List.mem_cons, List.not_mem_nil, or_false] at hx
    rcases hx with rfl | rfl | rfl | rfl | rfl | rfl | rfl | rfl | rfl | rfl | rfl | rfl | rfl | rfl | rfl | rfl | rfl
    · exact PySem.W.mg_none_of X G z_len
    · exact PySem.W.mg_none_of X G z_min
    · exact PySem.W.mg_none_of X G z_max
    · exact PySem.W.mg_none_of X G z_sorted
    · exact PySem.W.mg_none_of X G z_sum
    · exact PySem.W.mg_none_of X G z_all
    · exact PySem.W.mg_none_of X G z_any
    · exact PySem.W.mg_none_of X G z_abs
    · exact PySem.W.mg_none_of X G z_list
    · exact PySem.W.mg_none_of X G z_tuple
    · exact PySem.W.mg_none_of X G z_int
    · exact PySem.W.mg_none_of X G z_bool
    · exact PySem.W.mg_none_of X G z_str
    · exact PySem.W.mg_none_of X G z_isinstance
    · exact PySem.W.mg_none_of X G z_range
    · exact PySem.W.mg_none_of X G z_enumerate
    · exact PySem.W.mg_none_of X G z_zip
  have c : CstOk mg csts := (cst_int (PySem.W.mg_of X G y_MOST_VALUES) (cst_int (PySem.W.mg_of X G y_MOST_VALUE) (cst_int (PySem.W.mg_of X G y_MOST_RADIUS) cst_nil)))
  have d_is_int : DefAt K mg "is_int" (topS 7) ["value", "low", "high"] := ⟨_, _, fun_mk (st := topS 7) l_is_int c_is_int k_is_int, PySem.W.mg_of X G a_is_int, (fun_mk (st := topS 7) l_is_int c_is_int k_is_int).binds (ps := ["value", "low", "high"]) fun _ _ _ _ _ _ us hl => match us, hl with | [_, _, _], _ => rfl⟩
  have d_is_row : DefAt K mg "is_row" (topS 8) ["value"] := ⟨_, _, fun_mk (st := topS 8) l_is_row c_is_row k_is_row, PySem.W.mg_of X G a_is_row, (fun_mk (st := topS 8) l_is_row c_is_row k_is_row).binds (ps := ["value"]) fun _ _ _ _ _ _ us hl => match us, hl with | [_], _ => rfl⟩
  have d_check_row : DefAt K mg "check_row" (topS 9) ["value"] := ⟨_, _, fun_mk (st := topS 9) l_check_row c_check_row k_check_row, PySem.W.mg_of X G a_check_row, (fun_mk (st := topS 9) l_check_row c_check_row k_check_row).binds (ps := ["value"]) fun _ _ _ _ _ _ us hl => match us, hl with | [_], _ => rfl⟩
  have d_check_radius : DefAt K mg "check_radius" (topS 10) ["value"] := ⟨_, _, fun_mk (st := topS 10) l_check_radius c_check_radius k_check_radius, PySem.W.mg_of X G a_check_radius, (fun_mk (st := topS 10) l_check_radius c_check_radius k_check_radius).binds (ps := ["value"]) fun _ _ _ _ _ _ us hl => match us, hl with | [_], _ => rfl⟩
  have d_check_both : DefAt K mg "check_both" (topS 11) ["row", "radius"] := ⟨_, _, fun_mk (st := topS 11) l_check_both c_check_both k_check_both, PySem.W.mg_of X G a_check_both, (fun_mk (st := topS 11) l_check_both c_check_both k_check_both).binds (ps := ["row", "radius"]) fun _ _ _ _ _ _ us hl => match us, hl with | [_, _], _ => rfl⟩
  have d_longer : DefAt K mg "longer" (topS 13) ["row", "count"] := ⟨_, _, fun_mk (st := topS 13) l_longer c_longer k_longer, PySem.W.mg_of X G a_longer, (fun_mk (st := topS 13) l_longer c_longer k_longer).binds (ps := ["row", "count"]) fun _ _ _ _ _ _ us hl => match us, hl with | [_, _], _ => rfl⟩
  have d_median : DefAt K mg "median" (topS 14) ["row", "radius"] := ⟨_, _, fun_mk (st := topS 14) l_median c_median k_median, PySem.W.mg_of X G a_median, (fun_mk (st := topS 14) l_median c_median k_median).binds (ps := ["row", "radius"]) fun _ _ _ _ _ _ us hl => match us, hl with | [_, _], _ => rfl⟩
  have d_is_even_run : DefAt K mg "is_even_run" (topS 16) ["values"] := ⟨_, _, fun_mk (st := topS 16) l_is_even_run c_is_even_run k_is_even_run, PySem.W.mg_of X G a_is_even_run, (fun_mk (st := topS 16) l_is_even_run c_is_even_run k_is_even_run).binds (ps := ["values"]) fun _ _ _ _ _ _ us hl => match us, hl with | [_], _ => rfl⟩
  have d_is_root : DefAt K mg "is_root" (topS 17) ["row", "radius"] := ⟨_, _, fun_mk (st := topS 17) l_is_root c_is_root k_is_root, PySem.W.mg_of X G a_is_root, (fun_mk (st := topS 17) l_is_root c_is_root k_is_root).binds (ps := ["row", "radius"]) fun _ _ _ _ _ _ us hl => match us, hl with | [_, _], _ => rfl⟩
  have d_first_turn : DefAt K mg "first_turn" (topS 18) ["row", "radius"] := ⟨_, _, fun_mk (st := topS 18) l_first_turn c_first_turn k_first_turn, PySem.W.mg_of X G a_first_turn, (fun_mk (st := topS 18) l_first_turn c_first_turn k_first_turn).binds (ps := ["row", "radius"]) fun _ _ _ _ _ _ us hl => match us, hl with | [_, _], _ => rfl⟩
  have d_greatest_radius : DefAt K mg "greatest_radius" (topS 19) ["row"] := ⟨_, _, fun_mk (st := topS 19) l_greatest_radius c_greatest_radius k_greatest_radius, PySem.W.mg_of X G a_greatest_radius, (fun_mk (st := topS 19) l_greatest_radius c_greatest_radius k_greatest_radius).binds (ps := ["row"]) fun _ _ _ _ _ _ us hl => match us, hl with | [_], _ => rfl⟩
  have d_rows_on_the_way : DefAt K mg "rows_on_the_way" (topS 21) ["row", "radius"] := ⟨_, _, fun_mk (st := topS 21) l_rows_on_the_way c_rows_on_the_way k_rows_on_the_way, PySem.W.mg_of X G a_rows_on_the_way, (fun_mk (st := topS 21) l_rows_on_the_way c_rows_on_the_way k_rows_on_the_way).binds (ps := ["row", "radius"]) fun _ _ _ _ _ _ us hl => match us, hl with | [_, _], _ => rfl⟩
  have d_root_of : DefAt K mg "root_of" (topS 22) ["row", "radius"] := ⟨_, _, fun_mk (st := topS 22) l_root_of c_root_of k_root_of, PySem.W.mg_of X G a_root_of, (fun_mk (st := topS 22) l_root_of c_root_of k_root_of).binds (ps := ["row", "radius"]) fun _ _ _ _ _ _ us hl => match us, hl with | [_, _], _ => rfl⟩
  have d_law_pick : DefAt K mg "_law_pick" (topS 26) ["draws", "choices"] := ⟨_, _, fun_mk (st := topS 26) l_law_pick c_law_pick k_law_pick, PySem.W.mg_of X G a_law_pick, (fun_mk (st := topS 26) l_law_pick c_law_pick k_law_pick).binds (ps := ["draws", "choices"]) fun _ _ _ _ _ _ us hl => match us, hl with | [_, _], _ => rfl⟩
  have d_law_true : DefAt K mg "_law_true" (topS 27) ["value", "expected"] := ⟨_, _, fun_mk (st := topS 27) l_law_true c_law_true k_law_true, PySem.W.mg_of X G a_law_true, (fun_mk (st := topS 27) l_law_true c_law_true k_law_true).binds (ps := ["value", "expected"]) fun _ _ _ _ _ _ us hl => match us, hl with | [_, _], _ => rfl⟩
  have d_law_row : DefAt K mg "_law_row" (topS 28) ["draws", "most"] := ⟨_, _, fun_mk (st := topS 28) l_law_row c_law_row k_law_row, PySem.W.mg_of X G a_law_row, (fun_mk (st := topS 28) l_law_row c_law_row k_law_row).binds (ps := ["draws", "most"]) fun _ _ _ _ _ _ us hl => match us, hl with | [_, _], _ => rfl⟩
  have d_law_near : DefAt K mg "_law_near" (topS 29) ["row", "place"] := ⟨_, _, fun_mk (st := topS 29) l_law_near c_law_near k_law_near, PySem.W.mg_of X G a_law_near, (fun_mk (st := topS 29) l_law_near c_law_near k_law_near).binds (ps := ["row", "place"]) fun _ _ _ _ _ _ us hl => match us, hl with | [_, _], _ => rfl⟩
  have d_law_median : DefAt K mg "_law_median" (topS 30) ["row", "radius"] := ⟨_, _, fun_mk (st := topS 30) l_law_median c_law_median k_law_median, PySem.W.mg_of X G a_law_median, (fun_mk (st := topS 30) l_law_median c_law_median k_law_median).binds (ps := ["row", "radius"]) fun _ _ _ _ _ _ us hl => match us, hl with | [_, _], _ => rfl⟩
  have d_law_calm : DefAt K mg "_law_calm" (topS 31) ["row", "radius"] := ⟨_, _, fun_mk (st := topS 31) l_law_calm c_law_calm k_law_calm, PySem.W.mg_of X G a_law_calm, (fun_mk (st := topS 31) l_law_calm c_law_calm k_law_calm).binds (ps := ["row", "radius"]) fun _ _ _ _ _ _ us hl => match us, hl with | [_, _], _ => rfl⟩
  have d_law_draw : DefAt K mg "_law_draw" (topS 25) ["draws", "limit"] := ⟨_, _, fun_mk (st := topS 25) l_law_draw c_law_draw k_law_draw, PySem.W.mg_of X G a_law_draw, (fun_mk (st := topS 25) l_law_draw c_law_draw k_law_draw).binds (ps := ["draws", "limit"]) fun _ _ _ _ _ _ us hl => match us, hl with | [_, _], _ => rfl⟩
  have d_law_start : DefAt K mg "_law_start" (topS 24) ["script"] := ⟨_, _, fun_mk (st := topS 24) l_law_start c_law_start k_law_start, PySem.W.mg_of X G a_law_start, (fun_mk (st := topS 24) l_law_start c_law_start k_law_start).binds (ps := ["script"]) fun _ _ _ _ _ _ us hl => match us, hl with | [_], _ => rfl⟩
  exact ⟨PySem.W.fnOf "law" "law" (defArgs (topS 32)) (defBody (topS 32)) (defScope (topS 32)) .none kV_law dc_law pm_law an_law cd_law ct_law, fun s v => .of_eq rfl, fun base _ _ => ok_law (fun_mk (st := topS 32) l_law c_law k_law) b c d_is_int d_is_row d_check_row d_check_radius d_check_both d_longer d_median d_is_even_run d_is_root d_first_turn d_greatest_radius d_rows_on_the_way d_root_of d_law_pick d_law_true d_law_row d_law_near d_law_median d_law_calm d_law_draw d_law_start⟩
end MR
open PySem PySem.W PyProof.Rows
set_option maxHeartbeats 0 in
theorem PySem.Challenge.cw_medianroots_k04_whole_roots_holds : PySem.Challenge.rw_medianroots_k04_whole_roots.Holds := by
  w_on; o_law; k_head; (case hw => w_witness2)
  k_fill
  refine L2.walk_of (l := PySem.Challenge.rw_medianroots_k04_whole_roots) (n := 63) (k := 8) (x := "script") (CX := fun _ => L2.CX0) (sp := fun w => MR.spLaw _) rfl (by decide) rfl ⟨rfl, by decide, by decide⟩ (fun w h Y => PySem.W.kIn_of Y) ?F (fun _ _ a ns hl _ hS => ⟨a, ns, rfl, hS, hl, fun _ => rfl⟩) (fun _ _ _ _ _ h => h)
  case F =>
    intro w mg fa h KX G hmg
    refine' MR.all_mk KX G hmg ?a_is_int ?l_is_int ?c_is_int ?k_is_int ?a_is_row ?l_is_row ?c_is_row ?k_is_row ?a_check_row ?l_check_row ?c_check_row ?k_check_row ?a_check_radius ?l_check_radius ?c_check_radius ?k_check_radius ?a_check_both ?l_check_both ?c_check_both ?k_check_both ?a_longer ?l_longer ?c_longer ?k_longer ?a_median ?l_median ?c_median ?k_median ?a_is_even_run ?l_is_even_run ?c_is_even_run ?k_is_even_run ?a_is_root ?l_is_root ?c_is_root ?k_is_root ?a_first_turn ?l_first_turn ?c_first_turn ?k_first_turn ?a_greatest_radius ?l_greatest_radius ?c_greatest_radius ?k_greatest_radius ?a_rows_on_the_way ?l_rows_on_the_way ?c_rows_on_the_way ?k_rows_on_the_way ?a_root_of ?l_root_of ?c_root_of ?k_root_of ?a_law_pick ?l_law_pick ?c_law_pick ?k_law_pick ?a_law_true ?l_law_true ?c_law_true ?k_law_true ?a_law_row ?l_law_row ?c_law_row ?k_law_row ?a_law_near ?l_law_near ?c_law_near ?k_law_near ?a_law_median ?l_law_median ?c_law_median ?k_law_median ?a_law_calm ?l_law_calm ?c_law_calm ?k_law_calm ?a_law_draw ?l_law_draw ?c_law_draw ?k_law_draw ?a_law_start ?l_law_start ?c_law_start ?k_law_start ?a_law ?l_law ?c_law ?k_law ?z_len ?z_min ?z_max ?z_sorted ?z_sum ?z_all ?z_any ?z_abs ?z_list ?z_tuple ?z_int ?z_bool ?z_str ?z_isinstance ?z_range ?z_enumerate ?z_zip ?y_MOST_VALUES ?y_MOST_VALUE ?y_MOST_RADIUS
    (case a_is_int => k_is); (case l_is_int => k_is); (case c_is_int => k_is); (case k_is_int => k_is); (case a_is_row => k_is); (case l_is_row => k_is); (case c_is_row => k_is); (case k_is_row => k_is); (case a_check_row => k_is); (case l_check_row => k_is); (case c_check_row => k_is); (case k_check_row => k_is); (case a_check_radius => k_is); (case l_check_radius => k_is); (case c_check_radius => k_is); (case k_check_radius => k_is); (case a_check_both => k_is); (case l_check_both => k_is); (case c_check_both => k_is); (case k_check_both => k_is); (case a_longer => k_is); (case l_longer => k_is); (case c_longer => k_is); (case k_longer => k_is); (case a_median => k_is); (case l_median => k_is); (case c_median => k_is); (case k_median => k_is); (case a_is_even_run => k_is); (case l_is_even_run => k_is); (case c_is_even_run => k_is); (case k_is_even_run => k_is); (case a_is_root => k_is); (case l_is_root => k_is); (case c_is_root => k_is); (case k_is_root => k_is); (case a_first_turn => k_is); (case l_first_turn => k_is); (case c_first_turn => k_is); (case k_first_turn => k_is); (case a_greatest_radius => k_is); (case l_greatest_radius => k_is); (case c_greatest_radius => k_is); (case k_greatest_radius => k_is); (case a_rows_on_the_way => k_is); (case l_rows_on_the_way => k_is); (case c_rows_on_the_way => k_is); (case k_rows_on_the_way => k_is); (case a_root_of => k_is); (case l_root_of => k_is); (case c_root_of => k_is); (case k_root_of => k_is); (case a_law_pick => k_is); (case l_law_pick => k_is); (case c_law_pick => k_is); (case k_law_pick => k_is); (case a_law_true => k_is); (case l_law_true => k_is); (case c_law_true => k_is); (case k_law_true => k_is); (case a_law_row => k_is); (case l_law_row => k_is); (case c_law_row => k_is); (case k_law_row => k_is); (case a_law_near => k_is); (case l_law_near => k_is); (case c_law_near => k_is); (case k_law_near => k_is); (case a_law_median => k_is); (case l_law_median => k_is); (case c_law_median => k_is); (case k_law_median => k_is); (case a_law_calm => k_is); (case l_law_calm => k_is); (case c_law_calm => k_is); (case k_law_calm => k_is); (case a_law_draw => k_is); (case l_law_draw => k_is); (case c_law_draw => k_is); (case k_law_draw => k_is); (case a_law_start => k_is); (case l_law_start => k_is); (case c_law_start => k_is); (case k_law_start => k_is); (case a_law => k_is); (case l_law => k_is); (case c_law => k_is); (case k_law => k_is); (case z_len => k_is); (case z_min => k_is); (case z_max => k_is); (case z_sorted => k_is); (case z_sum => k_is); (case z_all => k_is); (case z_any => k_is); (case z_abs => k_is); (case z_list => k_is); (case z_tuple => k_is); (case z_int => k_is); (case z_bool => k_is); (case z_str => k_is); (case z_isinstance => k_is); (case z_range => k_is); (case z_enumerate => k_is); (case z_zip => k_is); (case y_MOST_VALUES => k_is); (case y_MOST_VALUE => k_is); (case y_MOST_RADIUS => k_is)

