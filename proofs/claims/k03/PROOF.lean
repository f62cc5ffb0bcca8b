import PyProof.Rows.All
import Wide.All
import OpenK.AllK
import Wide.FinOn
import HandS.Base
import HandS.Call
import HandS.List
import HandS.Comp
import HandS.Ends
import HandS.Dict
import HandS.Iter
import HandS.Words
import HandS.WordsList
import HandS.Conv
import HandS.Wide
import HandS.Evl
import HandS.Zip
import HandS.EndBits
import HandS.Walk
import HandS.IsInst
import HandS.Style
import KE.KMinBuiltin
import HandS.SortKw
import HandS.Nested
import KE.SortKeyHeap
import KE.KLam
import HandS.ExcValue
import KE.RegKIsAll
import HandS.HeadWalk
import PySem.Challenge.RW_headcounts_k03_whole_foremost
set_option Elab.async false
set_option linter.all false
set_option maxRecDepth 100000
set_option maxHeartbeats 4000000
/-! Plain laws of counting: no program in sight. -/
namespace Hc

/-- what one pair (a ahead of b) adds to the cell (i, j) -/
def dlt (i j a b : Nat) : Int := (if a = i ∧ b = j then 1 else 0) - (if b = i ∧ a = j then 1 else 0)
def dsum (i j a : Nat) (l : List Nat) : Int := (l.map fun b => dlt i j a b).sum
def psum (i j : Nat) : List Nat → Int
  | [] => 0
  | a :: l => dsum i j a l + psum i j l
/-- the first p places taken as the one ahead -/
def psA (i j : Nat) : Nat → List Nat → Int
  | 0, _ => 0
  | _ + 1, [] => 0
  | p + 1, a :: l => dsum i j a l + psA i j p l
def cnt (bs : List (List Nat × Int)) (i j : Nat) : Int := (bs.map fun b => b.2 * psum i j b.1).sum

theorem dlt_swap (i j a b : Nat) : dlt i j b a = - dlt i j a b := by
  unfold dlt
  have e1 : (b = i ∧ a = j) ↔ (b = i ∧ a = j) := Iff.rfl
  by_cases h1 : a = i ∧ b = j <;> by_cases h2 : b = i ∧ a = j <;> simp [h1, h2] <;> omega
theorem dlt_neg (i j a b : Nat) : dlt j i a b = - dlt i j a b := by
  unfold dlt
  have e1 : (a = j ∧ b = i) ↔ (b = i ∧ a = j) := And.comm
  have e2 : (b = j ∧ a = i) ↔ (a = i ∧ b = j) := And.comm
  simp only [e1, e2]
  omega
theorem sum_append_int : ∀ (l m : List Int), (l ++ m).sum = l.sum + m.sum
  | [], m => by simp
  | a :: l, m => by rw [List.cons_append, List.sum_cons, List.sum_cons, sum_append_int l m]; omega
theorem dsum_append (i j a : Nat) (l m : List Nat) : dsum i j a (l ++ m) = dsum i j a l + dsum i j a m := by
  unfold dsum
  rw [List.map_append, sum_append_int]
theorem dsum_nil (i j a : Nat) : dsum i j a [] = 0 := rfl
theorem dsum_cons (i j a b : Nat) (l : List Nat) : dsum i j a (b :: l) = dlt i j a b + dsum i j a l := by
  unfold dsum
  rw [List.map_cons, List.sum_cons]
theorem dsum_one (i j a b : Nat) : dsum i j a [b] = dlt i j a b := by rw [dsum_cons, dsum_nil]; omega
theorem dsum_take_succ (i j a : Nat) (l : List Nat) (q : Nat) (x : Nat) (h : l[q]? = some x) : dsum i j a (l.take (q + 1)) = dsum i j a (l.take q) + dlt i j a x := by
  rw [List.take_add_one, h, dsum_append]
  show _ + dsum i j a [x] = _
  rw [dsum_one]
/-- the mirror image: those ahead of y -/
def esum (i j y : Nat) (l : List Nat) : Int := (l.map fun b => dlt i j b y).sum
theorem esum_append (i j a : Nat) (l m : List Nat) : esum i j a (l ++ m) = esum i j a l + esum i j a m := by
  unfold esum
  rw [List.map_append, sum_append_int]
theorem esum_cons (i j a b : Nat) (l : List Nat) : esum i j a (b :: l) = dlt i j b a + esum i j a l := by
  unfold esum
  rw [List.map_cons, List.sum_cons]
theorem esum_nil (i j a : Nat) : esum i j a [] = 0 := rfl
theorem esum_take_succ (i j a : Nat) (l : List Nat) (q : Nat) (x : Nat) (h : l[q]? = some x) : esum i j a (l.take (q + 1)) = esum i j a (l.take q) + dlt i j x a := by
  rw [List.take_add_one, h, esum_append]
  show _ + esum i j a [x] = _
  rw [esum_cons, esum_nil]
  omega
theorem esum_dsum (i j y : Nat) : ∀ l : List Nat, esum i j y l = - dsum i j y l
  | [] => rfl
  | a :: l => by rw [esum_cons, dsum_cons, esum_dsum i j y l, dlt_swap]; omega
theorem psum_snoc (i j y : Nat) : ∀ l : List Nat, psum i j (l ++ [y]) = psum i j l + esum i j y l
  | [] => by simp [psum, dsum, esum]
  | a :: l => by
    show dsum i j a (l ++ [y]) + psum i j (l ++ [y]) = dsum i j a l + psum i j l + esum i j y (a :: l)
    rw [psum_snoc i j y l, dsum_append, dsum_one, esum_cons]
    omega
theorem dsum_reverse (i j a : Nat) : ∀ l : List Nat, dsum i j a l.reverse = dsum i j a l
  | [] => rfl
  | b :: l => by rw [List.reverse_cons, dsum_append, dsum_reverse i j a l, dsum_one, dsum_cons]; omega
theorem psum_reverse (i j : Nat) : ∀ l : List Nat, psum i j l.reverse = - psum i j l
  | [] => rfl
  | a :: l => by
    rw [List.reverse_cons, psum_snoc, psum_reverse i j l, esum_dsum, dsum_reverse]
    show - psum i j l + - dsum i j a l = - (dsum i j a l + psum i j l)
    omega
theorem psum_swap (i j : Nat) : ∀ l : List Nat, psum j i l = - psum i j l
  | [] => rfl
  | a :: l => by
    show dsum j i a l + psum j i l = -(dsum i j a l + psum i j l)
    have e : dsum j i a l = - dsum i j a l := by
      induction l with
      | nil => rfl
      | cons b l ih => rw [dsum_cons, dsum_cons, ih, dlt_neg]; omega
    rw [e, psum_swap i j l]
    omega
theorem psA_succ (i j : Nat) : ∀ (p : Nat) (l : List Nat) (a : Nat), l[p]? = some a → psA i j (p + 1) l = psA i j p l + dsum i j a (l.drop (p + 1))
  | 0, [], _, h => by simp at h
  | 0, b :: l, a, h => by
    have e : b = a := by simpa using h
    subst e
    show dsum i j b l + psA i j 0 l = psA i j 0 (b :: l) + dsum i j b l
    show dsum i j b l + 0 = 0 + dsum i j b l
    omega
  | p + 1, [], _, h => by simp at h
  | p + 1, b :: l, a, h => by
    have h' : l[p]? = some a := by simpa using h
    show dsum i j b l + psA i j (p + 1) l = dsum i j b l + psA i j p l + dsum i j a (l.drop (p + 1))
    rw [psA_succ i j p l a h']
    omega
theorem psA_all (i j : Nat) : ∀ (l : List Nat), psA i j l.length l = psum i j l
  | [] => rfl
  | a :: l => by
    show dsum i j a l + psA i j l.length l = dsum i j a l + psum i j l
    rw [psA_all i j l]
/-- the first q places, each with those ahead of it -/
theorem psum_take_succ (i j : Nat) (l : List Nat) (q y : Nat) (h : l[q]? = some y) : psum i j (l.take (q + 1)) = psum i j (l.take q) + esum i j y (l.take q) := by
  rw [List.take_add_one, h]
  exact psum_snoc i j y (l.take q)

/-- a pair put into a table, two cells at once -/
theorem put_two (f : Nat → Nat → Int) (k m : Nat) (z : Int) (i j : Nat) : (if i = m ∧ j = k then (if m = k ∧ k = m then f k m + z else f m k) - z else if i = k ∧ j = m then f k m + z else f i j) = f i j + z * dlt i j k m := by
  unfold dlt
  by_cases h1 : i = m ∧ j = k
  · obtain ⟨rfl, rfl⟩ := h1
    by_cases h2 : i = j
    · subst h2
      simp
    · have h3 : ¬ j = i := fun e => h2 e.symm
      simp [h2, h3]
      omega
  · rw [if_neg h1]
    by_cases h2 : i = k ∧ j = m
    · obtain ⟨rfl, rfl⟩ := h2
      have h3 : ¬ (i = j) := fun e => h1 ⟨e, e.symm⟩
      have h4 : ¬ (j = i) := fun e => h3 e.symm
      simp [h3, h4]
    · have h3 : ¬ (k = i ∧ m = j) := fun e => h2 ⟨e.1.symm, e.2.symm⟩
      have h4 : ¬ (m = i ∧ k = j) := fun e => h1 ⟨e.1.symm, e.2.symm⟩
      rw [if_neg h2, if_neg h3, if_neg h4]
      simp
theorem cnt_nil (i j : Nat) : cnt [] i j = 0 := rfl
theorem cnt_append (bs cs : List (List Nat × Int)) (i j : Nat) : cnt (bs ++ cs) i j = cnt bs i j + cnt cs i j := by
  unfold cnt
  rw [List.map_append, sum_append_int]
theorem cnt_take_succ (bs : List (List Nat × Int)) (k : Nat) (b : List Nat × Int) (h : bs[k]? = some b) (i j : Nat) : cnt (bs.take (k + 1)) i j = cnt (bs.take k) i j + b.2 * psum i j b.1 := by
  rw [List.take_add_one, h, cnt_append]
  show _ + (b.2 * psum i j b.1 + 0) = _
  omega
theorem cnt_reverse (bs : List (List Nat × Int)) (i j : Nat) : cnt (bs.map fun b => (b.1.reverse, b.2)) i j = - cnt bs i j := by
  induction bs with
  | nil => rfl
  | cons b bs ih =>
    have e1 : cnt (b :: bs) i j = b.2 * psum i j b.1 + cnt bs i j := by unfold cnt; rw [List.map_cons, List.sum_cons]
    have e2 : cnt ((b :: bs).map fun b => (b.1.reverse, b.2)) i j = b.2 * psum i j b.1.reverse + cnt (bs.map fun b => (b.1.reverse, b.2)) i j := by unfold cnt; rw [List.map_cons, List.map_cons, List.sum_cons]
    rw [e1, e2, ih, psum_reverse, Int.mul_neg]
    omega
theorem cnt_swap (bs : List (List Nat × Int)) (i j : Nat) : cnt bs j i = - cnt bs i j := by
  induction bs with
  | nil => rfl
  | cons b bs ih =>
    have e1 : ∀ i j, cnt (b :: bs) i j = b.2 * psum i j b.1 + cnt bs i j := fun i j => by unfold cnt; rw [List.map_cons, List.sum_cons]
    rw [e1, e1, ih, psum_swap, Int.mul_neg]
    omega
theorem cnt_parts (bs : List (List Nat × Int)) (k i j : Nat) : cnt (bs.take k) i j + cnt (bs.drop k) i j = cnt bs i j := by
  rw [← cnt_append, List.take_append_drop]
end Hc

namespace Hc
open PySem PySem.Spec PyProof.Rows L2 Evl

theorem bt_int : bootBuiltins "int" = some (.type "int") := PyProof.Rows.boot_int
theorem bt_bool : bootBuiltins "bool" = some (.type "bool") := PyProof.Rows.boot_bool
theorem bt_list : bootBuiltins "list" = some (.type "list") := PyProof.Rows.boot_list
theorem bt_tuple : bootBuiltins "tuple" = some (.type "tuple") := PyProof.Rows.boot_tuple
theorem bt_set : bootBuiltins "set" = some (.type "set") := PyProof.Rows.boot_set
theorem bt_str : bootBuiltins "str" = some (.type "str") := PyProof.Rows.boot_str
/-- products of any two ints that the model multiplies -/
theorem op_mulG {X : Cx} : OpR X (binaryOp .Mult) (rI (fun i j => IntMulOk i j) fun i j => .int (i * j)) := opI fun _ _ _ _ _ _ _ hc q => mul_int q hc

/-! ### lists of ints, rows -/
def iv (ns : List Int) : List V := ns.map V.int
def nv (ks : List Nat) : List V := ks.map fun (k : Nat) => V.int (k : Int)
def rowV (n : Nat) (g : Nat → Int) : List V := (List.range n).map fun j => V.int (g j)
theorem nv_iv (ks : List Nat) : nv ks = iv (ks.map fun (k : Nat) => (k : Int)) := by
  unfold nv iv
  rw [List.map_map]
  rfl
theorem iv_length (ns : List Int) : (iv ns).length = ns.length := by unfold iv; rw [List.length_map]
theorem nv_length (ks : List Nat) : (nv ks).length = ks.length := by unfold nv; rw [List.length_map]
theorem rowV_length (n : Nat) (g : Nat → Int) : (rowV n g).length = n := by
  unfold rowV
  rw [List.length_map, List.length_range]
theorem rowV_get {n j : Nat} {g : Nat → Int} (h : j < n) : (rowV n g)[j]? = some (.int (g j)) := by
  unfold rowV
  rw [List.getElem?_map, List.getElem?_range h]
  rfl
theorem rowV_iv (n : Nat) (g : Nat → Int) : rowV n g = iv ((List.range n).map g) := by
  unfold rowV iv
  rw [List.map_map]
  rfl
theorem rowV_congr {n : Nat} {g g' : Nat → Int} (h : ∀ j, j < n → g j = g' j) : rowV n g = rowV n g' := by
  unfold rowV
  refine List.map_congr_left fun j hj => ?_
  rw [h j (List.mem_range.mp hj)]
theorem rowV_set {n b : Nat} {g : Nat → Int} {v : Int} : (rowV n g).set b (.int v) = rowV n (fun j => if j = b then v else g j) := by
  apply List.ext_getElem?
  intro j
  rw [List.getElem?_set]
  by_cases hj : j < n
  · rw [rowV_length, rowV_get (g := fun j => if j = b then v else g j) hj]
    by_cases e : b = j
    · subst e
      rw [if_pos rfl, if_pos hj, if_pos rfl]
    · rw [if_neg e, rowV_get hj, if_neg (fun q => e q.symm)]
  · have e1 : (rowV n g)[j]? = none := List.getElem?_eq_none (by rw [rowV_length]; omega)
    have e2 : (rowV n (fun j => if j = b then v else g j))[j]? = none := List.getElem?_eq_none (by rw [rowV_length]; omega)
    rw [e1, e2, rowV_length]
    split
    · split
      · omega
      · rfl
    · rfl
theorem nv_get {ks : List Nat} {i : Nat} {x : V} (h : (nv ks)[i]? = some x) : ∃ k, ks[i]? = some k ∧ x = .int (k : Int) := by
  unfold nv at h
  rw [List.getElem?_map] at h
  cases e : ks[i]? with
  | none => rw [e] at h; cases h
  | some k => rw [e] at h; exact ⟨k, rfl, (Option.some.inj h).symm⟩
theorem iv_get {ks : List Int} {i : Nat} {x : V} (h : (iv ks)[i]? = some x) : ∃ k, ks[i]? = some k ∧ x = .int k := by
  unfold iv at h
  rw [List.getElem?_map] at h
  cases e : ks[i]? with
  | none => rw [e] at h; cases h
  | some k => rw [e] at h; exact ⟨k, rfl, (Option.some.inj h).symm⟩
theorem sq_mono {K : PySem.W.Frag} {H H' : Hp} {a : Addr} {xs : List V} (e : Ex H H') (h : SqL K H a xs) : SqL K H' a xs := ex_l e h
theorem iv_flat (ns : List Int) : (iv ns).all flatV = true := by
  unfold iv
  rw [List.all_map]
  exact List.all_eq_true.mpr fun _ _ => rfl

/-! ### cuts -/
theorem cut_from (xs : List V) (k : Nat) : cutV xs (some (k : Int)) none = xs.drop k := by
  unfold cutV
  rw [HT.sIx_nat, HT.sIx_none]
  by_cases h : k ≤ xs.length
  · rw [Nat.min_eq_left h]
    exact List.take_of_length_le (by rw [List.length_drop]; omega)
  · rw [Nat.min_eq_right (by omega), List.drop_length, List.drop_of_length_le (by omega)]
    simp
theorem cut_to (xs : List V) (k : Nat) : cutV xs none (some (k : Int)) = xs.take k := by
  unfold cutV
  rw [HT.sIx_nat, HT.sIx_none]
  show (xs.drop 0).take (min k xs.length - 0) = xs.take k
  rw [List.drop_zero, Nat.sub_zero]
  by_cases h : k ≤ xs.length
  · rw [Nat.min_eq_left h]
  · rw [Nat.min_eq_right (by omega), List.take_length, List.take_of_length_le (by omega)]
theorem cut_m1 (xs : List V) : cutV xs none (some (-1)) = xs.dropLast := by
  unfold cutV
  rw [HT.sIx_none]
  show (xs.drop 0).take ((if (-1 : Int) < 0 then ((-1 : Int) + (xs.length : Int)).toNat else min (-1 : Int).toNat xs.length) - 0) = xs.dropLast
  rw [if_pos (by omega), List.drop_zero, Nat.sub_zero, List.dropLast_eq_take]
  congr 1
  omega

/-! ### tables -/
structure Tab (H0 H : Hp) (t : Addr) (rs : List Addr) (n : Nat) (f : Nat → Nat → Int) : Prop where
  len : rs.length = n
  top : H t = some (.lst (rs.map V.ref))
  row : ∀ i r, rs[i]? = some r → H r = some (.lst (rowV n (f i)))
  nd : rs.Nodup
  ft : H0 t = none
  fr : ∀ r, r ∈ rs → H0 r = none
def TabR (K : PySem.W.Frag) (H : Hp) (v : V) (n : Nat) (f : Nat → Nat → Int) : Prop :=
  ∃ (t : Addr) (rs : List Addr), v = V.ref t ∧ rs.length = n ∧ SqL K H t (rs.map V.ref) ∧ ∀ i r, rs[i]? = some r → SqL K H r (rowV n (f i))
section
variable {K : PySem.W.Frag} {H0 H H' : Hp} {t : Addr} {rs : List Addr} {n : Nat} {f f' : Nat → Nat → Int} {v : V}
theorem Tab.notop (T : Tab H0 H t rs n f) : t ∉ rs := fun h => by
  obtain ⟨i, hi, e⟩ := List.mem_iff_getElem.mp h
  have e1 : rs[i]? = some t := by rw [List.getElem?_eq_getElem hi, e]
  have h1 := T.row i t e1
  rw [T.top] at h1
  have h2 : rs.map V.ref = rowV n (f i) := by injection Option.some.inj h1
  have h3 : (rs.map V.ref)[i]? = (rowV n (f i))[i]? := by rw [h2]
  rw [List.getElem?_map, e1, rowV_get (by rw [← T.len]; exact hi)] at h3
  injection h3 with h4
  cases h4
theorem Tab.mono (T : Tab H0 H t rs n f) (e : Ex H H') : Tab H0 H' t rs n f :=
  ⟨T.len, e _ _ T.top, fun i r h => e _ _ (T.row i r h), T.nd, T.ft, T.fr⟩
theorem Tab.congr (T : Tab H0 H t rs n f) (h : ∀ i j, i < n → j < n → f i j = f' i j) : Tab H0 H t rs n f' :=
  ⟨T.len, T.top, fun i r e => by
    have hi : i < n := by rw [← T.len]; exact (List.getElem?_eq_some_iff.mp e).1
    rw [← rowV_congr (fun j hj => h i j hi hj)]
    exact T.row i r e, T.nd, T.ft, T.fr⟩
theorem Tab.base {Hb : Hp} (T : Tab H0 H t rs n f) (e : Ex Hb H0) : Tab Hb H t rs n f :=
  ⟨T.len, T.top, T.row, T.nd, fresh_back e T.ft, fun r h => fresh_back e (T.fr r h)⟩
theorem Tab.at_ {i : Nat} (T : Tab H0 H t rs n f) (h : i < n) : ∃ r, rs[i]? = some r ∧ r ∈ rs ∧ (rs.map V.ref)[i]? = some (V.ref r) ∧ H r = some (.lst (rowV n (f i))) := by
  have hi : i < rs.length := by rw [T.len]; exact h
  refine ⟨rs[i], List.getElem?_eq_getElem hi, List.getElem_mem hi, ?_, T.row i _ (List.getElem?_eq_getElem hi)⟩
  rw [List.getElem?_map, List.getElem?_eq_getElem hi]
  rfl
theorem nodup_at {α : Type} {l : List α} (h : l.Nodup) {i j : Nat} {x : α} (a : l[i]? = some x) (b : l[j]? = some x) : i = j := nd_ix h a b
/-- one cell is set -/
theorem Tab.put {a b : Nat} {r : Addr} {z : Int} (T : Tab H0 H t rs n f) (hr : rs[a]? = some r) : Tab H0 (upd H r (.lst ((rowV n (f a)).set b (.int z)))) t rs n (fun i j => if i = a ∧ j = b then z else f i j) := by
  have hm : r ∈ rs := List.mem_of_getElem? hr
  have nt : t ≠ r := fun e => T.notop (e ▸ hm)
  refine ⟨T.len, by rw [upd_ne nt]; exact T.top, fun i r' h => ?_, T.nd, T.ft, T.fr⟩
  by_cases e : r' = r
  · subst e
    have ei : i = a := nd_ix T.nd h hr
    subst ei
    rw [upd_same, rowV_set]
    congr 2
    refine rowV_congr fun j _ => ?_
    by_cases ej : j = b
    · rw [if_pos ej, if_pos ⟨rfl, ej⟩]
    · rw [if_neg ej, if_neg (fun q => ej q.2)]
  · rw [upd_ne e, T.row i r' h]
    congr 2
    refine rowV_congr fun j _ => ?_
    have ei : i ≠ a := fun q => e (by subst q; rw [h] at hr; exact Option.some.inj hr)
    rw [if_neg (fun q => ei q.1)]
/-- what is older stands when a row is written -/
theorem Tab.exMut {r : Addr} {o : HO} (T : Tab H0 H t rs n f) (e : Ex H0 H) (hr : r ∈ rs) : Ex H0 (upd H r o) := e.mut (T.fr r hr)
theorem Tab.rd (T : Tab H0 H t rs n f) : TabR K H (.ref t) n f := ⟨t, rs, rfl, T.len, sq_of T.top, fun i r h => sq_of (T.row i r h)⟩
theorem TabR.mono (T : TabR K H v n f) (e : Ex H H') : TabR K H' v n f := by
  obtain ⟨t, rs, h1, h2, h3, h4⟩ := T
  exact ⟨t, rs, h1, h2, ex_l e h3, fun i r h => ex_l e (h4 i r h)⟩
theorem TabR.congr (T : TabR K H v n f) (h : ∀ i j, i < n → j < n → f i j = f' i j) : TabR K H v n f' := by
  obtain ⟨t, rs, h1, h2, h3, h4⟩ := T
  refine ⟨t, rs, h1, h2, h3, fun i r e => ?_⟩
  have hi : i < n := by rw [← h2]; exact (List.getElem?_eq_some_iff.mp e).1
  rw [← rowV_congr (fun j hj => h i j hi hj)]
  exact h4 i r e
theorem TabR.at_ (T : TabR K H v n f) : ∃ (t : Addr) (xs : List V), v = .ref t ∧ SqL K H t xs ∧ xs.length = n ∧ ∀ i, i < n → ∃ r, xs[i]? = some (.ref r) ∧ SqL K H r (rowV n (f i)) := by
  obtain ⟨t, rs, h1, h2, h3, h4⟩ := T
  refine ⟨t, _, h1, h3, by rw [List.length_map]; exact h2, fun i hi => ?_⟩
  have hi' : i < rs.length := by omega
  refine ⟨rs[i], ?_, h4 i _ (List.getElem?_eq_getElem hi')⟩
  rw [List.getElem?_map, List.getElem?_eq_getElem hi']
  rfl
end

/-! ### deep data -/
def dRow (n : Nat) (g : Nat → Int) : PyData := .list ((List.range n).map fun j => .int (g j))
def dTab (n : Nat) (f : Nat → Nat → Int) : PyData := .list ((List.range n).map fun i => dRow n (f i))
def dBal (b : List Nat × Int) : PyData := .tuple [.list (b.1.map fun (k : Nat) => .int (k : Int)), .int b.2]
def dBals (bs : List (List Nat × Int)) : PyData := .list (bs.map dBal)
theorem dpAll_of {K : PySem.W.Frag} {H : Hp} : ∀ {xs : List V} {ds : List PyData}, xs.length = ds.length → (∀ (i : Nat) (x : V) (d : PyData), xs[i]? = some x → ds[i]? = some d → Dp K H x d) → DpAll K H xs ds
  | [], [], _, _ => .nil
  | x :: xs, d :: ds, hl, h => .cons (h 0 x d rfl rfl) (dpAll_of (by simpa using hl) fun i y e hy he => h (i + 1) y e (by simpa using hy) (by simpa using he))
  | [], _ :: _, hl, _ => by simp at hl
  | _ :: _, [], hl, _ => by simp at hl
theorem dpAll_ints {K : PySem.W.Frag} {H : Hp} : ∀ (ns : List Int), DpAll K H (iv ns) (ns.map PyData.int)
  | [] => .nil
  | n :: ns => .cons (.int n) (dpAll_ints ns)
theorem dp_ints {K : PySem.W.Frag} {H : Hp} {a : Addr} {ns : List Int} (h : SqL K H a (iv ns)) : Dp K H (.ref a) (.list (ns.map PyData.int)) := .lst h (dpAll_ints ns)
theorem dp_row {K : PySem.W.Frag} {H : Hp} {a : Addr} {n : Nat} {g : Nat → Int} (h : SqL K H a (rowV n g)) : Dp K H (.ref a) (dRow n g) := by
  rw [rowV_iv] at h
  have e := dp_ints h
  rw [List.map_map] at e
  exact e
theorem TabR.dp {K : PySem.W.Frag} {H : Hp} {v : V} {n : Nat} {f : Nat → Nat → Int} (T : TabR K H v n f) : Dp K H v (dTab n f) := by
  obtain ⟨t, rs, rfl, h2, h3, h4⟩ := T
  refine .lst h3 (dpAll_of (by rw [List.length_map, List.length_map, List.length_range, h2]) fun i x d hx hd => ?_)
  rw [List.getElem?_map] at hx hd
  cases e : rs[i]? with
  | none => rw [e] at hx; cases hx
  | some r =>
    rw [e] at hx
    have hi : i < n := by rw [← h2]; exact (List.getElem?_eq_some_iff.mp e).1
    rw [List.getElem?_range hi] at hd
    cases hx
    cases hd
    exact dp_row (h4 i r e)
theorem lay_all : ∀ (ds : List PyData), (∀ d ∈ ds, d.canLay0 = true) → PyData.canLayAll0 ds = true
  | [], _ => by simp [PyData.canLayAll0]
  | d :: ds, h => by
    rw [PyData.canLayAll0, h d (List.mem_cons_self ..), lay_all ds fun e he => h e (List.mem_cons_of_mem _ he)]
    rfl
theorem lay_list (ds : List PyData) (h : ∀ d ∈ ds, d.canLay0 = true) : (PyData.list ds).canLay0 = true := by
  rw [PyData.canLay0]
  exact lay_all ds h
theorem lay_tup (ds : List PyData) (h : ∀ d ∈ ds, d.canLay0 = true) : (PyData.tuple ds).canLay0 = true := by
  rw [PyData.canLay0]
  exact lay_all ds h
theorem lay_int (i : Int) : (PyData.int i).canLay0 = true := by simp [PyData.canLay0]
theorem lay_row (n : Nat) (g : Nat → Int) : (dRow n g).canLay0 = true := lay_list _ fun d hd => by
  obtain ⟨j, _, rfl⟩ := List.mem_map.mp hd
  exact lay_int _
theorem lay_tab (n : Nat) (f : Nat → Nat → Int) : (dTab n f).canLay0 = true := lay_list _ fun d hd => by
  obtain ⟨j, _, rfl⟩ := List.mem_map.mp hd
  exact lay_row _ _
theorem lay_bal (b : List Nat × Int) : (dBal b).canLay0 = true := lay_tup _ fun d hd => by
  rcases List.mem_cons.mp hd with rfl | hd
  · refine lay_list _ fun e he => ?_
    obtain ⟨j, _, rfl⟩ := List.mem_map.mp he
    exact lay_int _
  · rcases List.mem_cons.mp hd with rfl | hd
    · exact lay_int _
    · cases hd
theorem lay_bals (bs : List (List Nat × Int)) : (dBals bs).canLay0 = true := lay_list _ fun d hd => by
  obtain ⟨b, _, rfl⟩ := List.mem_map.mp hd
  exact lay_bal _
end Hc

namespace Hc
open PySem PySem.Spec PyProof.Rows L2 Evl

theorem depth_all : ∀ (ds : List PyData) (k : Nat), (∀ d ∈ ds, d.depth ≤ k) → PyData.depthAll ds ≤ k
  | [], k, _ => by rw [PyData.depthAll]; exact Nat.zero_le _
  | d :: ds, k, h => by
    rw [PyData.depthAll]
    exact Nat.max_le.mpr ⟨h d (List.mem_cons_self ..), depth_all ds k fun e he => h e (List.mem_cons_of_mem _ he)⟩
theorem depth_list {ds : List PyData} {k : Nat} (h : ∀ d ∈ ds, d.depth ≤ k) : (PyData.list ds).depth ≤ k + 1 := by
  rw [PyData.depth]
  exact Nat.succ_le_succ (depth_all ds k h)
theorem depth_tup {ds : List PyData} {k : Nat} (h : ∀ d ∈ ds, d.depth ≤ k) : (PyData.tuple ds).depth ≤ k + 1 := by
  rw [PyData.depth]
  exact Nat.succ_le_succ (depth_all ds k h)
theorem depth_int (i : Int) : (PyData.int i).depth ≤ 0 := by rw [PyData.depth]; exact Nat.le_refl _
theorem shaped_of {d : PyData} {k : Nat} (h : d.canLay0 = true) (hk : d.depth ≤ k) (h6 : k ≤ 64) : SeqAt.shaped d = true := by
  unfold SeqAt.shaped
  rw [h, decide_eq_true (Nat.le_trans hk h6)]
  rfl
theorem depth_ints (ns : List Int) : (PyData.list (ns.map PyData.int)).depth ≤ 1 := depth_list fun d hd => by
  obtain ⟨j, _, rfl⟩ := List.mem_map.mp hd
  exact depth_int _
theorem shaped_ints (ns : List Int) : SeqAt.shaped (.list (ns.map PyData.int)) = true := shaped_of (lay_list _ fun d hd => by
  obtain ⟨j, _, rfl⟩ := List.mem_map.mp hd
  exact lay_int _) (depth_ints ns) (by decide)
theorem depth_row (n : Nat) (g : Nat → Int) : (dRow n g).depth ≤ 1 := depth_list fun d hd => by
  obtain ⟨j, _, rfl⟩ := List.mem_map.mp hd
  exact depth_int _
theorem shaped_row (n : Nat) (g : Nat → Int) : SeqAt.shaped (dRow n g) = true := shaped_of (lay_row n g) (depth_row n g) (by decide)
theorem depth_tab (n : Nat) (f : Nat → Nat → Int) : (dTab n f).depth ≤ 2 := depth_list fun d hd => by
  obtain ⟨j, _, rfl⟩ := List.mem_map.mp hd
  exact depth_row _ _
theorem shaped_tab (n : Nat) (f : Nat → Nat → Int) : SeqAt.shaped (dTab n f) = true := shaped_of (lay_tab n f) (depth_tab n f) (by decide)
theorem depth_bal (b : List Nat × Int) : (dBal b).depth ≤ 2 := depth_tup fun d hd => by
  rcases List.mem_cons.mp hd with rfl | hd
  · refine depth_list fun e he => ?_
    obtain ⟨j, _, rfl⟩ := List.mem_map.mp he
    exact depth_int _
  · rcases List.mem_cons.mp hd with rfl | hd
    · exact Nat.le_trans (depth_int _) (Nat.zero_le _)
    · cases hd
theorem shaped_bals (bs : List (List Nat × Int)) : SeqAt.shaped (dBals bs) = true := shaped_of (lay_bals bs) (depth_list fun d hd => by
  obtain ⟨b, _, rfl⟩ := List.mem_map.mp hd
  exact depth_bal b) (by decide)
theorem dTab_congr {n : Nat} {f g : Nat → Nat → Int} (h : ∀ i j, i < n → j < n → f i j = g i j) : dTab n f = dTab n g := by
  unfold dTab dRow
  congr 1
  refine List.map_congr_left fun i hi => ?_
  congr 1
  refine List.map_congr_left fun j hj => ?_
  rw [h i j (List.mem_range.mp hi) (List.mem_range.mp hj)]
theorem eqv_tab {n : Nat} {f g : Nat → Nat → Int} (h : ∀ i j, i < n → j < n → f i j = g i j) : PyData.eqv (dTab n f) (dTab n g) = true := by
  rw [dTab_congr h]
  exact SeqAt.eqv_refl _ (lay_tab n g)

/-! ### ballots -/
theorem Paired.get {α β : Type} {F : α → β → Prop} : ∀ {l : List α} {m : List β} {i : Nat} {x : α}, Paired F l m → l[i]? = some x → ∃ y, m[i]? = some y ∧ F x y
  | _, _, _, _, .nil, h => by simp at h
  | _, _, 0, _, .cons r _, h => by
    cases (show some _ = some _ from h)
    exact ⟨_, rfl, r⟩
  | _, _, i + 1, x, .cons _ t, h => by
    obtain ⟨y, h1, h2⟩ := Paired.get (i := i) (x := x) t (by simpa using h)
    exact ⟨y, by simpa using h1, h2⟩
theorem Paired.take {α β : Type} {F : α → β → Prop} : ∀ {l : List α} {m : List β} (k : Nat), Paired F l m → Paired F (l.take k) (m.take k)
  | _, _, 0, _ => .nil
  | _, _, _ + 1, .nil => .nil
  | _, _, k + 1, .cons r t => .cons r (Paired.take k t)
theorem Paired.drop {α β : Type} {F : α → β → Prop} : ∀ {l : List α} {m : List β} (k : Nat), Paired F l m → Paired F (l.drop k) (m.drop k)
  | _, _, 0, r => r
  | _, _, _ + 1, .nil => .nil
  | _, _, k + 1, .cons _ t => Paired.drop k t
theorem Paired.append {α β : Type} {F : α → β → Prop} : ∀ {l l' : List α} {m m' : List β}, Paired F l m → Paired F l' m' → Paired F (l ++ l') (m ++ m')
  | _, _, _, _, .nil, s => s
  | _, _, _, _, .cons r t, s => .cons r (Paired.append t s)
theorem Paired.len {α β : Type} {F : α → β → Prop} : ∀ {l : List α} {m : List β}, Paired F l m → l.length = m.length
  | _, _, .nil => rfl
  | _, _, .cons _ t => by rw [List.length_cons, List.length_cons, Paired.len t]
def BalR (K : PySem.W.Frag) (H : Hp) (x : V) (b : List Nat × Int) : Prop := ∃ (t l : Addr), x = .ref t ∧ SqT K H t [.ref l, .int b.2] ∧ SqL K H l (nv b.1)
def BalsR (K : PySem.W.Frag) (H : Hp) (v : V) (bs : List (List Nat × Int)) : Prop := ∃ (a : Addr) (xs : List V), v = .ref a ∧ SqL K H a xs ∧ Paired (BalR K H) xs bs
section
variable {K : PySem.W.Frag} {H H' : Hp} {v x : V} {bs : List (List Nat × Int)} {b : List Nat × Int}
theorem BalR.mono (h : BalR K H x b) (e : Ex H H') : BalR K H' x b := by
  obtain ⟨t, l, h1, h2, h3⟩ := h
  exact ⟨t, l, h1, ex_t e h2, ex_l e h3⟩
theorem BalsR.mono (h : BalsR K H v bs) (e : Ex H H') : BalsR K H' v bs := by
  obtain ⟨a, xs, h1, h2, h3⟩ := h
  exact ⟨a, xs, h1, ex_l e h2, Paired.mapP h3 fun _ _ q => q.mono e⟩
theorem BalR.dp (h : BalR K H x b) : Dp K H x (dBal b) := by
  obtain ⟨t, l, rfl, h2, h3⟩ := h
  refine .tup h2 (.cons ?_ (.cons (.int _) .nil))
  rw [nv_iv] at h3
  have e := dp_ints h3
  rw [List.map_map] at e
  exact e
theorem BalsR.dp (h : BalsR K H v bs) : Dp K H v (dBals bs) := by
  obtain ⟨a, xs, rfl, h2, h3⟩ := h
  refine .lst h2 (dpAll_of (by rw [List.length_map]; exact Paired.len h3) fun i x d hx hd => ?_)
  obtain ⟨b, hb, r⟩ := Paired.get h3 hx
  rw [List.getElem?_map, hb] at hd
  cases hd
  exact r.dp
end

/-! ### comprehensions -/
/-- all but D stands -/
def ExB (D : Addr) (H H' : Hp) : Prop := ∀ a o, a ≠ D → H a = some o → H' a = some o
theorem Ex.exB {D : Addr} {H H' : Hp} (e : Ex H H') : ExB D H H' := fun a o _ h => e a o h
theorem exB_upd {D : Addr} {H : Hp} {o : HO} : ExB D H (upd H D o) := fun a u n h => by rw [upd_ne n]; exact h
section
variable {J : It} {n : Nat} {G : Hp → Prop} {Y : Nat → Hp → V → Hp → Prop} {g : TG} {tt : TT} {te : TE} {vs : List Nat} {σ : L2.St} {H1 : Hp} {D : Addr} {Qd : Hp → Prop}
/-- every turn gives one item; what is known of the items so far -/
theorem lc_acc (w : Walk J n G Y) (hD : H1 D = none) (hn : n ≤ 100000) (hG : ∀ H, Ex H1 H → G H) (I : List V → Hp → Prop) (hI : ∀ ys Ha Hb, I ys Ha → ExB D Ha Hb → I ys Hb) (h0 : I [] (upd H1 D (.lst [])))
    (hs : ∀ (i : Nat) (x : V) (H H' : Hp) (ys : List V), i < n → Ex H1 H → H D = some (.lst ys) → ys.length = i → I ys H → Y i H x H' → ∀ Qc : VK, (∀ y H4, Ex H H4 → I (ys ++ [y]) H4 → Qc y H4) → g x (wipe σ vs) H' fun σ2 H2 => wipe σ2 vs = wipe σ vs ∧ te σ2 H2 Qc)
    (hd : ∀ H ys, Ex H1 H → H D = some (.lst ys) → ys.length = n → I ys H → Qd H) :
    ∃ W : Nat → Nat → Hp → Prop, (∃ m, W 0 m (upd H1 D (.lst []))) ∧ ∀ i m H, W i m H → (J.stop i H ∧ Qd H) ∨ (J.go i H ∧ ∃ Nx : Hp → Prop, (∀ H', Nx H' → ∃ m', m' < m ∧ W (i + 1) m' H') ∧ ∀ x H', J.yld i H x H' → g x (wipe σ vs) H' fun σ2 H2 => wipe σ2 vs = wipe σ vs ∧ tYes σ2 H2 fun b H3 => if b = true then te σ2 H3 fun y H4 => ∃ acc, H4 D = some (.lst acc) ∧ acc.length < sizeLine ∧ Nx (upd H4 D (.lst (acc ++ [y]))) else Nx H3) := by
  refine lc_it w (fun i H => ∃ ys, Ex H1 H ∧ H D = some (.lst ys) ∧ ys.length = i ∧ I ys H) ⟨[], Ex.new hD, upd_same, rfl, h0⟩ (fun i H _ ⟨_, e, _⟩ => hG H e) ?_ (fun H ⟨ys, e, h1, h2, h3⟩ => hd H ys e h1 h2 h3)
  rintro i x H H' hi ⟨ys, e, h1, h2, h3⟩ hy
  exact hs i x H H' ys hi e h1 h2 h3 hy _ fun y H4 e4 h5 => ⟨ys, e4 _ _ h1, sz_lt (by omega), ys ++ [y], (e.trans e4).mut hD, upd_same, by rw [List.length_append, h2]; rfl, hI _ _ _ h5 exB_upd⟩
/-- items by value -/
theorem lc_vals (w : Walk J n G Y) (hD : H1 D = none) (hn : n ≤ 100000) (hG : ∀ H, Ex H1 H → G H) (v : Nat → V)
    (hs : ∀ (i : Nat) (x : V) (H H' : Hp), i < n → Ex H1 H → Y i H x H' → ∀ Qc : VK, (∀ H4, Ex H H4 → Qc (v i) H4) → g x (wipe σ vs) H' fun σ2 H2 => wipe σ2 vs = wipe σ vs ∧ te σ2 H2 Qc)
    (hd : ∀ H, Ex H1 H → H D = some (.lst ((List.range n).map v)) → Qd H) :
    ∃ W : Nat → Nat → Hp → Prop, (∃ m, W 0 m (upd H1 D (.lst []))) ∧ ∀ i m H, W i m H → (J.stop i H ∧ Qd H) ∨ (J.go i H ∧ ∃ Nx : Hp → Prop, (∀ H', Nx H' → ∃ m', m' < m ∧ W (i + 1) m' H') ∧ ∀ x H', J.yld i H x H' → g x (wipe σ vs) H' fun σ2 H2 => wipe σ2 vs = wipe σ vs ∧ tYes σ2 H2 fun b H3 => if b = true then te σ2 H3 fun y H4 => ∃ acc, H4 D = some (.lst acc) ∧ acc.length < sizeLine ∧ Nx (upd H4 D (.lst (acc ++ [y]))) else Nx H3) := by
  refine lc_acc w hD hn hG (fun ys _ => ys = (List.range ys.length).map v) (fun _ _ _ h _ => h) rfl ?_ (fun H ys e h1 h2 h3 => hd H e (by rw [h1, h3, h2]))
  intro i x H H' ys hi e h1 h2 h3 hy Qc hq
  refine hs i x H H' hi e hy Qc fun H4 e4 => hq _ H4 e4 ?_
  rw [List.length_append, List.length_singleton, List.range_succ, List.map_append, ← h3, h2]
  rfl
/-- new lists -/
structure Rows (H0 H : Hp) (ps : List Addr) (L : Nat → List V) : Prop where
  at_ : ∀ i p, ps[i]? = some p → H p = some (.lst (L i))
  nd : ps.Nodup
  fr : ∀ p, p ∈ ps → H0 p = none
theorem lc_rows (w : Walk J n G Y) (hD : H1 D = none) (hn : n ≤ 100000) (hG : ∀ H, Ex H1 H → G H) (L : Nat → List V)
    (hs : ∀ (i : Nat) (x : V) (H H' : Hp), i < n → Ex H1 H → Y i H x H' → ∀ Qc : VK, (∀ p H4, H p = none → Ex H H4 → H4 p = some (.lst (L i)) → Qc (.ref p) H4) → g x (wipe σ vs) H' fun σ2 H2 => wipe σ2 vs = wipe σ vs ∧ te σ2 H2 Qc)
    (hd : ∀ H ps, Ex H1 H → H D = some (.lst (ps.map V.ref)) → ps.length = n → Rows H1 H ps L → Qd H) :
    ∃ W : Nat → Nat → Hp → Prop, (∃ m, W 0 m (upd H1 D (.lst []))) ∧ ∀ i m H, W i m H → (J.stop i H ∧ Qd H) ∨ (J.go i H ∧ ∃ Nx : Hp → Prop, (∀ H', Nx H' → ∃ m', m' < m ∧ W (i + 1) m' H') ∧ ∀ x H', J.yld i H x H' → g x (wipe σ vs) H' fun σ2 H2 => wipe σ2 vs = wipe σ vs ∧ tYes σ2 H2 fun b H3 => if b = true then te σ2 H3 fun y H4 => ∃ acc, H4 D = some (.lst acc) ∧ acc.length < sizeLine ∧ Nx (upd H4 D (.lst (acc ++ [y]))) else Nx H3) := by
  refine lc_acc w hD hn hG (fun ys H => ∃ ps, ys = ps.map V.ref ∧ D ∉ ps ∧ Rows H1 H ps L) ?_ ⟨[], rfl, by simp, fun _ _ h => by simp at h, List.nodup_nil, fun _ h => by simp at h⟩ ?_ ?_
  · rintro ys Ha Hb ⟨ps, h1, h2, h3⟩ e
    exact ⟨ps, h1, h2, fun i p h => e _ _ (fun q => h2 (q ▸ List.mem_of_getElem? h)) (h3.at_ i p h), h3.nd, h3.fr⟩
  · rintro i x H H' ys hi e h1 h2 ⟨ps, h3, h4, h5⟩ hy Qc hq
    refine hs i x H H' hi e hy Qc fun p H4 np e4 hp => hq _ H4 e4 ⟨ps ++ [p], ?_, ?_, ?_, ?_, ?_⟩
    · rw [h3, List.map_append]
      rfl
    · intro hm
      rcases List.mem_append.mp hm with q | q
      · exact h4 q
      · have e5 : D = p := by simpa using q
        rw [e5, np] at h1
        cases h1
    · intro k q hk
      have hl : ps.length = i := by rw [← h2, h3, List.length_map]
      rw [List.getElem?_append] at hk
      split at hk
      · exact e4 _ _ (h5.at_ k q hk)
      · rename_i hge
        have ek : k - ps.length = 0 := by
          have := (List.getElem?_eq_some_iff.mp hk).1
          simp at this
          omega
        rw [ek] at hk
        have e6 : q = p := by simpa using hk.symm
        rw [e6, hp, show k = i by omega]
    · rw [List.nodup_append]
      refine ⟨h5.nd, by simp, ?_⟩
      intro a ha b hb e7
      have e8 : b = p := by simpa using hb
      obtain ⟨k, hk, ek⟩ := List.mem_iff_getElem.mp ha
      have := h5.at_ k a (by rw [List.getElem?_eq_getElem hk, ek])
      rw [e7, e8, np] at this
      cases this
    · intro q hq'
      rcases List.mem_append.mp hq' with z | z
      · exact h5.fr q z
      · have e8 : q = p := by simpa using z
        rw [e8]
        exact fresh_back e np
  · rintro H ys e h1 h2 ⟨ps, h3, h4, h5⟩
    exact hd H ps e (by rw [h1, h3]) (by rw [← h2, h3, List.length_map]) h5
/-- new pairs of a new list of candidates and a number -/
structure BalsN (H0 H : Hp) (D : Addr) (ts ls : List Addr) (bs : List (List Nat × Int)) : Prop where
  top : H D = some (.lst (ts.map V.ref))
  lt : ts.length = bs.length
  ll : ls.length = bs.length
  at_ : ∀ (i : Nat) (t l : Addr) (b : List Nat × Int), ts[i]? = some t → ls[i]? = some l → bs[i]? = some b → H t = some (.tup [.ref l, .int b.2]) ∧ H l = some (.lst (nv b.1))
  nd : ls.Nodup
  fl : ∀ l, l ∈ ls → H0 l = none
  ft : ∀ t, t ∈ ts → H0 t = none
  fD : H0 D = none
theorem BalsN.rd {K : PySem.W.Frag} {H0 H : Hp} {D : Addr} {ts ls : List Addr} {bs : List (List Nat × Int)} (B : BalsN H0 H D ts ls bs) : BalsR K H (.ref D) bs := by
  refine ⟨D, _, rfl, sq_of B.top, ?_⟩
  have gen : ∀ (ts ls : List Addr) (bs : List (List Nat × Int)), ts.length = bs.length → ls.length = bs.length → (∀ (i : Nat) (t l : Addr) (b : List Nat × Int), ts[i]? = some t → ls[i]? = some l → bs[i]? = some b → H t = some (.tup [.ref l, .int b.2]) ∧ H l = some (.lst (nv b.1))) → Paired (BalR K H) (ts.map V.ref) bs := by
    intro ts
    induction ts with
    | nil =>
      intro ls bs hl _ _
      cases bs with
      | nil => exact .nil
      | cons _ _ => simp at hl
    | cons t ts ih =>
      intro ls bs hl hl2 h
      cases bs with
      | nil => simp at hl
      | cons b bs =>
        cases ls with
        | nil => simp at hl2
        | cons l ls =>
          obtain ⟨q1, q2⟩ := h 0 t l b rfl rfl rfl
          refine .cons ⟨t, l, rfl, st_of q1, sq_of q2⟩ (ih ls bs (by simpa using hl) (by simpa using hl2) fun i t' l' b' a1 a2 a3 => h (i + 1) t' l' b' (by simpa using a1) (by simpa using a2) (by simpa using a3))
  exact gen ts ls bs B.lt B.ll B.at_
theorem lc_bals (w : Walk J n G Y) (hD : H1 D = none) (hn : n ≤ 100000) (hG : ∀ H, Ex H1 H → G H) (bs : List (List Nat × Int)) (hbs : bs.length = n)
    (hs : ∀ (i : Nat) (x : V) (H H' : Hp) (b : List Nat × Int), i < n → bs[i]? = some b → Ex H1 H → Y i H x H' → ∀ Qc : VK, (∀ p l H4, H p = none → H l = none → Ex H H4 → H4 p = some (.tup [.ref l, .int b.2]) → H4 l = some (.lst (nv b.1)) → Qc (.ref p) H4) → g x (wipe σ vs) H' fun σ2 H2 => wipe σ2 vs = wipe σ vs ∧ te σ2 H2 Qc)
    (hd : ∀ H ts ls, Ex H1 H → BalsN H1 H D ts ls bs → Qd H) :
    ∃ W : Nat → Nat → Hp → Prop, (∃ m, W 0 m (upd H1 D (.lst []))) ∧ ∀ i m H, W i m H → (J.stop i H ∧ Qd H) ∨ (J.go i H ∧ ∃ Nx : Hp → Prop, (∀ H', Nx H' → ∃ m', m' < m ∧ W (i + 1) m' H') ∧ ∀ x H', J.yld i H x H' → g x (wipe σ vs) H' fun σ2 H2 => wipe σ2 vs = wipe σ vs ∧ tYes σ2 H2 fun b H3 => if b = true then te σ2 H3 fun y H4 => ∃ acc, H4 D = some (.lst acc) ∧ acc.length < sizeLine ∧ Nx (upd H4 D (.lst (acc ++ [y]))) else Nx H3) := by
  refine lc_acc w hD hn hG (fun ys H => ∃ ts ls : List Addr, ys = ts.map V.ref ∧ ls.length = ts.length ∧ D ∉ ts ∧ D ∉ ls ∧ (∀ (i : Nat) (t l : Addr) (b : List Nat × Int), ts[i]? = some t → ls[i]? = some l → bs[i]? = some b → H t = some (.tup [.ref l, .int b.2]) ∧ H l = some (.lst (nv b.1))) ∧ ls.Nodup ∧ (∀ l, l ∈ ls → H1 l = none) ∧ (∀ l, l ∈ ts → H1 l = none) ∧ (∀ l, l ∈ ls → H l ≠ none)) ?_ ⟨[], [], rfl, rfl, by simp, by simp, fun _ _ _ _ h => by simp at h, List.nodup_nil, fun _ h => by simp at h, fun _ h => by simp at h, fun _ h => by simp at h⟩ ?_ ?_
  · rintro ys Ha Hb ⟨ts, ls, h1, h2, h3, h4, h5, h6, h7, h8, h9⟩ e
    refine ⟨ts, ls, h1, h2, h3, h4, fun i t l b ht hl hb => ?_, h6, h7, h8, fun l hl => ?_⟩
    · obtain ⟨q1, q2⟩ := h5 i t l b ht hl hb
      exact ⟨e _ _ (fun q => h3 (q ▸ List.mem_of_getElem? ht)) q1, e _ _ (fun q => h4 (q ▸ List.mem_of_getElem? hl)) q2⟩
    · have := h9 l hl
      cases q : Ha l with
      | none => exact absurd q this
      | some o =>
        rw [e _ _ (fun q => h4 (q ▸ hl)) q]
        simp
  · rintro i x H H' ys hi e h1 h2 ⟨ts, ls, h3, h4, h5, h6, h7, h8, h9, h10, h11⟩ hy Qc hq
    have hb : i < bs.length := by omega
    have eL : ts.length = i := by rw [← h2, h3, List.length_map]
    refine hs i x H H' bs[i] hi (List.getElem?_eq_getElem hb) e hy Qc fun p l H4 np nl e4 hp hl => hq _ H4 e4 ⟨ts ++ [p], ls ++ [l], ?_, ?_, ?_, ?_, ?_, ?_, ?_, ?_, ?_⟩
    · rw [h3, List.map_append]
      rfl
    · rw [List.length_append, List.length_append, h4]
      rfl
    · intro hm
      rcases List.mem_append.mp hm with q | q
      · exact h5 q
      · have e5 : D = p := by simpa using q
        rw [e5, np] at h1
        cases h1
    · intro hm
      rcases List.mem_append.mp hm with q | q
      · exact h6 q
      · have e5 : D = l := by simpa using q
        rw [e5, nl] at h1
        cases h1
    · intro k t l' b ht hl' hbk
      rw [List.getElem?_append] at ht hl'
      by_cases hk : k < ts.length
      · rw [if_pos hk] at ht
        rw [if_pos (by omega)] at hl'
        obtain ⟨q1, q2⟩ := h7 k t l' b ht hl' hbk
        exact ⟨e4 _ _ q1, e4 _ _ q2⟩
      · rw [if_neg hk] at ht
        rw [if_neg (by omega)] at hl'
        have ek : k - ts.length = 0 := by
          have := (List.getElem?_eq_some_iff.mp ht).1
          simp at this
          omega
        rw [ek] at ht
        rw [h4, ek] at hl'
        have e6 : t = p := by simpa using ht.symm
        have e7 : l' = l := by simpa using hl'.symm
        have e8 : k = i := by omega
        subst e8
        rw [List.getElem?_eq_getElem hb] at hbk
        cases hbk
        rw [e6, e7]
        exact ⟨hp, hl⟩
    · rw [List.nodup_append]
      refine ⟨h8, by simp, ?_⟩
      intro a ha b hb' e7
      have e8 : b = l := by simpa using hb'
      exact h11 a ha (by rw [e7, e8]; exact nl)
    · intro q hq'
      rcases List.mem_append.mp hq' with z | z
      · exact h9 q z
      · have e8 : q = l := by simpa using z
        rw [e8]
        exact fresh_back e nl
    · intro q hq'
      rcases List.mem_append.mp hq' with z | z
      · exact h10 q z
      · have e8 : q = p := by simpa using z
        rw [e8]
        exact fresh_back e np
    · intro q hq'
      rcases List.mem_append.mp hq' with z | z
      · have := h11 q z
        cases w : H q with
        | none => exact absurd w this
        | some o => rw [e4 _ _ w]; simp
      · have e8 : q = l := by simpa using z
        rw [e8, hl]
        simp
  · rintro H ys e h1 h2 ⟨ts, ls, h3, h4, h5, h6, h7, h8, h9, h10, h11⟩
    have eL : ts.length = n := by rw [← h2, h3, List.length_map]
    have hts : H D = some (.lst (ts.map V.ref)) := by rw [h1, h3]
    exact hd H ts ls e ⟨hts, by omega, by omega, h7, h8, h9, h10, hD⟩
end
end Hc
namespace Hc
open PySem PySem.Spec PyProof.Rows L2 Evl
theorem rgV_nv (n : Nat) : rgV 0 (n : Int) = nv (List.range n) := by
  unfold rgV nv
  rw [show ((n : Int) - 0).toNat = n by omega]
  refine List.map_congr_left fun i _ => ?_
  rw [Int.zero_add]
theorem eqvAll_ints : ∀ (ns ms : List Int), PyData.eqvAll (ns.map PyData.int) (ms.map PyData.int) = decide (ns = ms)
  | [], [] => by simp [PyData.eqvAll]
  | [], _ :: _ => by simp [PyData.eqvAll]
  | _ :: _, [] => by simp [PyData.eqvAll]
  | n :: ns, m :: ms => by
    rw [List.map_cons, List.map_cons, PyData.eqvAll, eqvAll_ints ns ms, PyData.eqv]
    by_cases h1 : n = m <;> by_cases h2 : ns = ms <;> simp [h1, h2]
theorem eqv_ints (ns ms : List Int) : PyData.eqv (.list (ns.map PyData.int)) (.list (ms.map PyData.int)) = decide (ns = ms) := by
  rw [PyData.eqv]
  exact eqvAll_ints ns ms
theorem map_const_bl (n : Nat) (b : Bool) : ((List.range n).map fun _ => V.bl b) = ((List.range n).map fun _ => b).map V.bl := by
  rw [List.map_map]
  rfl
theorem all_const_true (n : Nat) : ((List.range n).map fun _ => true).all id = true := by
  rw [List.all_map]
  exact List.all_eq_true.mpr fun _ _ => rfl
theorem itT {c : Bool} {A B : Prop} (h : c = true) (k : A) : if c = true then A else B := by rw [if_pos h]; exact k
theorem itF {c : Bool} {A B : Prop} (h : c = false) (k : B) : if c = true then A else B := by rw [if_neg (by rw [h]; decide)]; exact k
theorem it2 {c : Bool} {A B : Prop} (h1 : c = true → A) (h2 : c = false → B) : if c = true then A else B := by
  cases c with
  | true => rw [if_pos rfl]; exact h1 rfl
  | false => rw [if_neg (by decide)]; exact h2 rfl
theorem rep_row (n : Nat) : (List.replicate n [V.int 0]).flatten = rowV n (fun _ => 0) := by
  unfold rowV
  rw [List.map_const', List.length_range]
  induction n with
  | zero => rfl
  | succ n ih => rw [List.replicate_succ, List.flatten_cons, ih, List.replicate_succ]; rfl
theorem nv_drop (ks : List Nat) (k : Nat) : (nv ks).drop k = nv (ks.drop k) := by unfold nv; rw [List.map_drop]
theorem nv_take (ks : List Nat) (k : Nat) : (nv ks).take k = nv (ks.take k) := by unfold nv; rw [List.map_take]
theorem cut_nv_from (ks : List Nat) (k : Nat) : cutV (nv ks) (some ((k : Int) + 1)) none = nv (ks.drop (k + 1)) := by
  rw [show ((k : Int) + 1) = ((k + 1 : Nat) : Int) from rfl, cut_from, nv_drop]
theorem cut_nv_to (ks : List Nat) (k : Nat) : cutV (nv ks) none (some (k : Int)) = nv (ks.take k) := by rw [cut_to, nv_take]
theorem Rows.tab {H0 H : Hp} {D : Addr} {ps : List Addr} {n : Nat} {f : Nat → Nat → Int} (hD : H0 D = none) (h : H D = some (.lst (ps.map V.ref))) (hl : ps.length = n) (R : Rows H0 H ps (fun i => rowV n (f i))) : Tab H0 H D ps n f :=
  ⟨hl, h, R.at_, R.nd, hD, R.fr⟩
theorem rgOk_nat {n : Nat} (h : n ≤ 1000) : RgOk 0 (n : Int) := RgOk.of_le (by omega) (by omega) (by omega) (by omega)
end Hc
namespace Hc
open PySem PySem.Spec PyProof.Rows L2 Evl
/-! ### great numbers -/
def Big (B : Nat) (x : Int) : Prop := x.natAbs < 2 ^ B
theorem Big.mono {B C : Nat} {x : Int} (h : Big B x) (hc : B ≤ C) : Big C x := Nat.lt_of_lt_of_le h (Nat.pow_le_pow_right (by decide) hc)
theorem Big.mul {B C : Nat} {x y : Int} (h : Big B x) (k : Big C y) : Big (B + C) (x * y) := by
  unfold Big at *
  rw [Int.natAbs_mul, Nat.pow_add]
  exact Nat.mul_lt_mul'' h k
theorem Big.add {B : Nat} {x y : Int} (h : Big B x) (k : Big B y) : Big (B + 1) (x + y) := by
  unfold Big at *
  have := Int.natAbs_add_le x y
  rw [Nat.pow_succ]
  omega
theorem big_bits {B : Nat} {x : Int} (h0 : 0 < B) (h : Big B x) : Builtin.Int.intBits x ≤ B := by
  have h1 := PySem.Flt.log2_lt_of h0 h
  unfold Builtin.Int.intBits
  split
  · exact Nat.zero_le _
  · omega
theorem big_of_bits {x : Int} {B : Nat} (h : Builtin.Int.intBits x ≤ B) : Big B x := by
  unfold Builtin.Int.intBits at h
  unfold Big
  split at h
  · rename_i e
    have e0 : x = 0 := by simpa using e
    rw [e0]
    exact Nat.pow_pos (by decide)
  · exact Nat.lt_of_lt_of_le Nat.lt_log2_self (Nat.pow_le_pow_right (by decide) h)
theorem mulOk_big {B C : Nat} {x y : Int} (h : Big B x) (k : Big C y) (hB : 0 < B) (hC : 0 < C) (hs : B + C ≤ 100000000) : IntMulOk x y := by
  have h1 := big_bits hB h
  have h2 := big_bits hC k
  have e : bitsLine = 134217728 := by decide
  intro z
  rw [Bool.and_eq_true] at z
  have z2 := of_decide_eq_true z.2
  rw [e] at z2
  omega
theorem mulOk_small {x y : Int} (h1 : -(2 ^ 64) < x) (h2 : x < 2 ^ 64) : IntMulOk x y := PySem.IntMulOk.of_left (PySem.intBits_le_64 h1 h2)
theorem mulOk_smallR {x y : Int} (h1 : -(2 ^ 64) < y) (h2 : y < 2 ^ 64) : IntMulOk x y := PySem.IntMulOk.of_right (PySem.intBits_le_64 h1 h2)
theorem big_small {x : Int} {B : Nat} (hB : 64 ≤ B) (h1 : -(2 ^ 64) < x) (h2 : x < 2 ^ 64) : Big B x := Big.mono (B := 64) (by unfold Big; omega) hB
theorem divW_small {i j : Int} (h1 : 0 < j) (h2 : j < 1000000) : CDivW i j := by
  refine ⟨h1, ?_⟩
  have : j.natAbs < 2 ^ 20 := by omega
  exact Nat.lt_trans (PySem.Flt.log2_lt_of (by decide) this) (by decide)
theorem Big.div {B : Nat} {x j : Int} (h : Big B x) (hj : 0 < j) : Big B (x / j) := by
  unfold Big at *
  refine Nat.lt_of_le_of_lt ?_ h
  exact Int.natAbs_ediv_le_natAbs x j
theorem big_sum : ∀ (ns : List Int) (B : Nat), (∀ n ∈ ns, Big B n) → Big (B + ns.length) ns.sum
  | [], B, _ => by
    show (0 : Nat) < 2 ^ (B + 0)
    exact Nat.pow_pos (by decide)
  | n :: ns, B, h => by
    rw [List.sum_cons]
    have h1 := big_sum ns B fun m hm => h m (List.mem_cons_of_mem _ hm)
    exact Big.add ((h n (List.mem_cons_self ..)).mono (Nat.le_add_right _ _)) h1
end Hc
namespace Hc
open PySem PySem.Spec PyProof.Rows L2 Evl
/-! ### the heap without one object -/
def rem (H : Hp) (F : Addr) : Hp := fun a => if a = F then none else H a
theorem rem_ne {H : Hp} {F a : Addr} (h : a ≠ F) : rem H F a = H a := by unfold rem; rw [if_neg h]
theorem rem_ex {H : Hp} {F : Addr} : Ex (rem H F) H := fun a o h => by
  unfold rem at h
  split at h
  · cases h
  · exact h
theorem rem_mono {H H' : Hp} {F : Addr} (e : Ex H H') : Ex (rem H F) (rem H' F) := fun a o h => by
  unfold rem at h ⊢
  split at h
  · cases h
  · rename_i n
    rw [if_neg n]
    exact e a o h
theorem rem_upd {H : Hp} {F : Addr} {o : HO} : rem (upd H F o) F = rem H F := by
  funext a
  unfold rem
  split
  · rfl
  · rename_i n
    rw [upd_ne n]
theorem rem_exB {H H' : Hp} {F : Addr} (e : ExB F H H') : Ex (rem H F) (rem H' F) := fun a o h => by
  unfold rem at h ⊢
  split at h
  · cases h
  · rename_i n
    rw [if_neg n]
    exact e a o n h
theorem rem_none {H : Hp} {F : Addr} (h : H F = none) : rem H F = H := by
  funext a
  unfold rem
  split
  · rename_i e
    rw [e, h]
  · rfl
end Hc
namespace Hc
open PySem PySem.Spec PyProof.Rows L2 Evl
/-! ### the rules with the written part named -/
section
variable {X : Cx} {e l : Expr} {te tl : TE} {tg : Expr} {pos p : Pos}
theorem isiK (K : PySem.W.Frag) (h : X.K = K := by rfl) : CallR X (.builtin "isinstance") (rIsi K) := by cases h; exact call_isi
theorem ixLK (K : PySem.W.Frag) (h : X.K = K := by rfl) : IxR X (rIxL K) := by cases h; exact ix_list
theorem ixTK (K : PySem.W.Frag) (h : X.K = K := by rfl) : IxR X (rIxT K) := by cases h; exact ix_tup
theorem slLK (K : PySem.W.Frag) (h : X.K = K := by rfl) : SlR X (rSlL K) := by cases h; exact sl_list
theorem allK (K : PySem.W.Frag) (h : X.K = K := by rfl) (hc : X.calm = true := by rfl) : CallR X (.builtin "all") (rAll K) := by cases h; exact cr_all hc
theorem anyK (K : PySem.W.Frag) (h : X.K = K := by rfl) (hc : X.calm = true := by rfl) : CallR X (.builtin "any") (rAny K) := by cases h; exact cr_any hc
theorem sumK (K : PySem.W.Frag) (h : X.K = K := by rfl) (hc : X.calm = true := by rfl) : CallR X (.builtin "sum") (rSum K) := by cases h; exact cr_sum hc
theorem minK (K : PySem.W.Frag) (h : X.K = K := by rfl) (hc : X.calm = true := by rfl) : CallR X (.builtin "min") (rMin K) := by cases h; exact cr_min hc
theorem maxK (K : PySem.W.Frag) (h : X.K = K := by rfl) (hc : X.calm = true := by rfl) : CallR X (.builtin "max") (rMax K) := by cases h; exact cr_max hc
theorem sortK (K : PySem.W.Frag) (h : X.K = K := by rfl) : CallR X (.builtin "sorted") (rSorted K) := by cases h; exact cr_sorted
theorem lenK (K : PySem.W.Frag) (h : X.K = K := by rfl) : CallR X (.builtin "len") (rLenS K) := by cases h; exact call_len_seq
theorem listK (K : PySem.W.Frag) (h : X.K = K := by rfl) : CallR X (.type "list") (rListS K) := by cases h; exact call_list_of
theorem inK (K : PySem.W.Frag) (h : X.K = K := by rfl) : OpR X (compareOp .In) (rIn K false) := by cases h; exact op_in_seq
theorem notInK (K : PySem.W.Frag) (h : X.K = K := by rfl) : OpR X (compareOp .NotIn) (rIn K true) := by cases h; exact op_notIn_seq
theorem eqDK (K : PySem.W.Frag) (hu : X.A.units + 64 < cLine) (h : X.K = K := by rfl) : OpR X (compareOp .Eq) (rEqD K) := by cases h; exact op_eqD hu
theorem neDK (K : PySem.W.Frag) (hu : X.A.units + 64 < cLine) (h : X.K = K := by rfl) : OpR X (compareOp .NotEq) (rNeD K) := by cases h; exact op_neD hu
theorem piL (K : PySem.W.Frag) (hl : PE X l tl) (h : X.K = K := by rfl) : PI X tg l (iList K tl) := by cases h; exact pi_list hl
theorem piT (K : PySem.W.Frag) (hl : PE X l tl) (h : X.K = K := by rfl) : PI X tg l (iTup K tl) := by cases h; exact pi_tup hl
theorem piE (K : PySem.W.Frag) {ta : TA} {tpos : Pos} {elts : List Expr} {kk : Nat} (hg : Gl X "enumerate") (hm : X.mg "enumerate" = none) (ha : PA X [e] ta) (hs : starEach [e] X.env = [(false, eval e X.env)] := by rfl) (h : X.K = K := by rfl) : PI X (.Tuple elts kk tpos) (.Call (.Name "enumerate" p) [e] [] pos) (iEnum K ta) := by cases h; exact pi_enum hg hm ha hs
theorem piZ (K : PySem.W.Frag) {e2 : Expr} {ta : TA} {tpos : Pos} {elts : List Expr} {kk : Nat} (hg : Gl X "zip") (hm : X.mg "zip" = none) (ha : PA X [e, e2] ta) (hs : starEach [e, e2] X.env = (false, eval e X.env) :: starEach [e2] X.env := by rfl) (hpl : (backTo pos (starEach [e2] X.env)).any (·.1) = false := by rfl) (h : X.K = K := by rfl) : PI X (.Tuple elts kk tpos) (.Call (.Name "zip" p) [e, e2] [] pos) (iZip K ta) := by cases h; exact pi_zip hg hm ha hs hpl
theorem pgT (K : PySem.W.Frag) {es : List Expr} {k : Nat} {t : TGs} {n : Nat} (h : PGs X es t) (hn : (assignEach es X.env).length = n := by rfl) (hst : (assignEach es X.env).findIdx? (·.1) = none := by rfl) (hK : X.K = K := by rfl) (hc : X.calm = true := by rfl) : PG X (.Tuple es k pos) (gTup K n t) := by cases hK; exact pg_tup hc h hn hst
end
end Hc
namespace Hc
open PySem PySem.Spec PyProof.Rows L2 Evl
theorem revLK {X : Cx} {e : Expr} {te : TE} {k : Nat} {p1 p2 p3 pos : Pos} (K : PySem.W.Frag) (he : PE X e te) (h : X.K = K := by rfl) : PE X (.Subscript e (.Slice none none (some (.UnaryOp .USub (.Constant (.int 1) k p1) p2)) p3) pos) (tRevL K te) := by cases h; exact pe_revL he
end Hc
namespace Hc
open PySem PySem.Spec PyProof.Rows L2 Evl
/-! ### rows from a place on -/
def dRows (n k : Nat) (f : Nat → Nat → Int) : PyData := .list (((List.range n).drop k).map fun i => dRow n (f i))
theorem lay_rows (n k : Nat) (f : Nat → Nat → Int) : (dRows n k f).canLay0 = true := lay_list _ fun d hd => by
  obtain ⟨j, _, rfl⟩ := List.mem_map.mp hd
  exact lay_row _ _
theorem shaped_rows (n k : Nat) (f : Nat → Nat → Int) : SeqAt.shaped (dRows n k f) = true := shaped_of (lay_rows n k f) (depth_list fun d hd => by
  obtain ⟨j, _, rfl⟩ := List.mem_map.mp hd
  exact depth_row _ _) (by decide)
theorem dp_rows {K : PySem.W.Frag} {H : Hp} {a : Addr} {rs : List Addr} {n k : Nat} {f : Nat → Nat → Int} (hl : rs.length = n) (h : SqL K H a ((rs.drop k).map V.ref)) (hr : ∀ i r, k ≤ i → rs[i]? = some r → SqL K H r (rowV n (f i))) : Dp K H (.ref a) (dRows n k f) := by
  refine .lst h (dpAll_of (by rw [List.length_map, List.length_map, List.length_drop, List.length_drop, List.length_range, hl]) fun i x d hx hd => ?_)
  rw [List.getElem?_map, List.getElem?_drop] at hx hd
  cases e : rs[k + i]? with
  | none => rw [e] at hx; cases hx
  | some r =>
    rw [e] at hx
    have hi : k + i < n := by rw [← hl]; exact (List.getElem?_eq_some_iff.mp e).1
    rw [List.getElem?_range hi] at hd
    cases hx
    cases hd
    exact dp_row (hr (k + i) r (Nat.le_add_right _ _) e)
end Hc

/-! Plain laws of ballots that make a table: no program in sight. -/
namespace Hc
theorem cnt_cons (b : List Nat × Int) (bs : List (List Nat × Int)) (i j : Nat) : cnt (b :: bs) i j = b.2 * psum i j b.1 + cnt bs i j := by
  unfold cnt
  rw [List.map_cons, List.sum_cons]
def restOf (n a b : Nat) : List Nat := (List.range n).filter fun k => !(k == a || k == b)
def twoB (n a b : Nat) (m : Int) : List (List Nat × Int) := [(a :: b :: restOf n a b, m), ((restOf n a b).reverse ++ [a, b], m)]
theorem psum_two (i j a b : Nat) (r : List Nat) : psum i j (a :: b :: r) + psum i j (r.reverse ++ [a, b]) = 2 * dlt i j a b := by
  have e1 : psum i j (a :: b :: r) = dsum i j a (b :: r) + (dsum i j b r + psum i j r) := rfl
  have e2 : psum i j (r.reverse ++ [a, b]) = psum i j ((r.reverse ++ [a]) ++ [b]) := by rw [List.append_assoc]; rfl
  rw [e1, e2, psum_snoc, psum_snoc, esum_append, psum_reverse, esum_dsum, esum_dsum, dsum_reverse, dsum_reverse, dsum_cons, esum_cons, esum_nil]
  omega
theorem cnt_two (n a b : Nat) (m : Int) (i j : Nat) : cnt (twoB n a b m) i j = 2 * m * dlt i j a b := by
  unfold twoB
  rw [cnt_cons, cnt_cons, cnt_nil]
  have h := psum_two i j a b (restOf n a b)
  show m * psum i j (a :: b :: restOf n a b) + (m * psum i j ((restOf n a b).reverse ++ [a, b]) + 0) = 2 * m * dlt i j a b
  rw [Int.add_zero, ← Int.mul_add, h, ← Int.mul_assoc, Int.mul_comm m 2]
theorem mem_restOf {n a b k : Nat} : k ∈ restOf n a b ↔ k < n ∧ k ≠ a ∧ k ≠ b := by
  unfold restOf
  rw [List.mem_filter, List.mem_range]
  simp
theorem two_perm {n a b : Nat} (ha : a < n) (hb : b < n) (hab : a ≠ b) : (a :: b :: restOf n a b).Perm (List.range n) := by
  have hr : (restOf n a b).Nodup := List.nodup_range.filter _
  have h1 : (a :: b :: restOf n a b).Nodup := by
    rw [List.nodup_cons, List.nodup_cons]
    refine ⟨fun h => ?_, fun h => (mem_restOf.mp h).2.2 rfl, hr⟩
    rcases List.mem_cons.mp h with e | e
    · exact hab e
    · exact (mem_restOf.mp e).2.1 rfl
  rw [List.perm_ext_iff_of_nodup h1 List.nodup_range]
  intro k
  rw [List.mem_cons, List.mem_cons, mem_restOf, List.mem_range]
  constructor
  · rintro (rfl | rfl | h)
    · exact ha
    · exact hb
    · exact h.1
  · intro h
    by_cases h1 : k = a
    · exact .inl h1
    · by_cases h2 : k = b
      · exact .inr (.inl h2)
      · exact .inr (.inr ⟨h, h1, h2⟩)
theorem two_perm2 {n a b : Nat} (ha : a < n) (hb : b < n) (hab : a ≠ b) : ((restOf n a b).reverse ++ [a, b]).Perm (List.range n) := by
  have h : ((restOf n a b).reverse ++ [a, b]).Perm ([a, b] ++ restOf n a b) := List.perm_append_comm.trans (List.Perm.append_left _ (List.reverse_perm _))
  exact h.trans (two_perm ha hb hab)
theorem dlt_self (i a b : Nat) : dlt i i a b = 0 := by
  unfold dlt
  have e : (a = i ∧ b = i) ↔ (b = i ∧ a = i) := And.comm
  simp only [e]
  omega
theorem esum_range (i j y : Nat) : ∀ m : Nat, esum i j y (List.range m) = (if y = j ∧ i < m then 1 else 0) - (if y = i ∧ j < m then 1 else 0)
  | 0 => by simp [esum]
  | m + 1 => by
    rw [List.range_succ, esum_append, esum_range i j y m, esum_cons, esum_nil]
    unfold dlt
    by_cases h1 : y = j <;> by_cases h2 : y = i <;> by_cases h3 : m = i <;> by_cases h4 : m = j <;> by_cases h5 : i < m <;> by_cases h6 : j < m <;> simp_all <;> omega
theorem psum_range (i j : Nat) : ∀ n : Nat, psum i j (List.range n) = (if i < j ∧ j < n then 1 else 0) - (if j < i ∧ i < n then 1 else 0)
  | 0 => by simp [psum]
  | n + 1 => by
    rw [List.range_succ, psum_snoc, psum_range i j n, esum_range]
    by_cases h1 : n = j <;> by_cases h2 : n = i <;> by_cases h3 : i < j <;> by_cases h4 : j < i <;> by_cases h5 : i < n <;> by_cases h6 : j < n <;> simp_all <;> omega
/-- f is a table of n -/
def Anti (n : Nat) (f : Nat → Nat → Int) : Prop := ∀ i j, i < n → j < n → f i j = - f j i
theorem Anti.self {n : Nat} {f : Nat → Nat → Int} (h : Anti n f) {i : Nat} (hi : i < n) : f i i = 0 := by
  have := h i i hi hi
  omega
theorem anti_cnt (n : Nat) (bs : List (List Nat × Int)) : Anti n (cnt bs) := fun i j _ _ => cnt_swap bs j i
/-- two tables that are alike above are alike -/
theorem anti_ext {n : Nat} {f g : Nat → Nat → Int} (hf : Anti n f) (hg : Anti n g) (h : ∀ i j, i < j → j < n → f i j = g i j) : ∀ i j, i < n → j < n → f i j = g i j := fun i j hi hj => by
  by_cases h1 : i < j
  · exact h i j h1 hj
  · by_cases h2 : j < i
    · rw [hf i j hi hj, hg i j hi hj, h j i h2 hi]
    · have e : i = j := by omega
      subst e
      rw [hf.self hi, hg.self hi]
/-- what is told so far: all pairs ahead of (one, other) are done, o for the others -/
def Done (n : Nat) (f : Nat → Nat → Int) (o : Int) (a b : Nat) (bs : List (List Nat × Int)) : Prop := ∀ i j, i < j → j < n → cnt bs i j = if i < a ∨ (i = a ∧ j < b) then f i j else o
theorem done_start {n : Nat} {f : Nat → Nat → Int} {o : Int} {bs : List (List Nat × Int)} (h : ∀ i j, i < j → j < n → cnt bs i j = o) : Done n f o 0 1 bs := fun i j hi hj => by
  rw [h i j hi hj, if_neg (by omega)]
theorem dlt_lt {i j a b : Nat} (h1 : i < j) (h2 : a < b) : dlt i j a b = if i = a ∧ j = b then 1 else 0 := by
  unfold dlt
  by_cases h : i = a ∧ j = b
  · obtain ⟨rfl, rfl⟩ := h
    have : ¬ (j = i ∧ i = j) := by omega
    simp [this]
  · rw [if_neg h, if_neg (by omega), if_neg (by omega)]
    rfl
theorem done_step {n a b : Nat} {f : Nat → Nat → Int} {o m : Int} {bs : List (List Nat × Int)} (h : Done n f o a b bs) (hab : a < b) (hm : f a b - o = 2 * m) : Done n f o a (b + 1) (bs ++ twoB n a b m) := fun i j hi hj => by
  rw [cnt_append, h i j hi hj, cnt_two, dlt_lt hi hab]
  by_cases e : i = a ∧ j = b
  · obtain ⟨rfl, rfl⟩ := e
    rw [if_neg (by omega), if_pos ⟨rfl, rfl⟩, if_pos (by omega)]
    omega
  · rw [if_neg e, Int.mul_zero, Int.add_zero]
    by_cases e2 : i < a ∨ (i = a ∧ j < b)
    · rw [if_pos e2, if_pos (by omega)]
    · rw [if_neg e2, if_neg (by omega)]
theorem done_back {n a b : Nat} {f : Nat → Nat → Int} {o m : Int} {bs : List (List Nat × Int)} (h : Done n f o a b bs) (hab : a < b) (hm : f a b - o = - (2 * m)) : Done n f o a (b + 1) (bs ++ twoB n b a m) := fun i j hi hj => by
  rw [cnt_append, h i j hi hj, cnt_two, dlt_swap i j a b, dlt_lt hi hab]
  by_cases e : i = a ∧ j = b
  · obtain ⟨rfl, rfl⟩ := e
    rw [if_neg (by omega), if_pos ⟨rfl, rfl⟩, if_pos (by omega)]
    omega
  · rw [if_neg e, show (-0 : Int) = 0 from rfl, Int.mul_zero, Int.add_zero]
    by_cases e2 : i < a ∨ (i = a ∧ j < b)
    · rw [if_pos e2, if_pos (by omega)]
    · rw [if_neg e2, if_neg (by omega)]
theorem done_same {n a b : Nat} {f : Nat → Nat → Int} {o : Int} {bs : List (List Nat × Int)} (h : Done n f o a b bs) (hm : f a b = o) : Done n f o a (b + 1) bs := fun i j hi hj => by
  rw [h i j hi hj]
  by_cases e : i = a ∧ j = b
  · obtain ⟨rfl, rfl⟩ := e
    rw [if_neg (by omega), if_pos (by omega), hm]
  · by_cases e2 : i < a ∨ (i = a ∧ j < b)
    · rw [if_pos e2, if_pos (by omega)]
    · rw [if_neg e2, if_neg (by omega)]
theorem done_row {n a : Nat} {f : Nat → Nat → Int} {o : Int} {bs : List (List Nat × Int)} (h : Done n f o a n bs) : Done n f o (a + 1) (a + 2) bs := fun i j hi hj => by
  rw [h i j hi hj]
  by_cases e2 : i < a ∨ (i = a ∧ j < n)
  · rw [if_pos e2, if_pos (by omega)]
  · rw [if_neg e2, if_neg (by omega)]
theorem done_all {n b : Nat} {f : Nat → Nat → Int} {o : Int} {bs : List (List Nat × Int)} (hf : Anti n f) (h : Done n f o n b bs) : ∀ i j, i < n → j < n → cnt bs i j = f i j :=
  anti_ext (anti_cnt n bs) hf fun i j hi hj => by rw [h i j hi hj, if_pos (by omega)]
/-- all numbers above are like the first one -/
def Alike (n : Nat) (f : Nat → Nat → Int) : Prop := ∀ i j, i < j → j < n → f i j % 2 = f 0 1 % 2
end Hc

namespace Hc
open PySem PySem.Spec PyProof.Rows L2 Evl
/-! ### one of two rules -/
theorem pe_alt {X : Cx} {e : Expr} {t u : TE} (h1 : PE X e t) (h2 : PE X e u) : PE X e (fun σ H Q => t σ H Q ∨ u σ H Q) := ⟨fun pins s σ H Q I h => h.elim (h1.run pins s σ H Q I) (h2.run pins s σ H Q I)⟩
/-! ### max, min of a pair of numbers -/
/-- a pair's walk, for the two built-ins alike: the better of the two is handed on -/
theorem pair_walk {prog : Program} {w : World} {B : Around} {op : CmpOp} {sh : Shared} {q : Addr} {x y : Int} {tx ty : Tok} {bt : Nat → Nat → Bool} {R : Value → Shared → Prop} {F : Value → Shared → Prop} (hB : B.handled = none) (hp : sh.heap.IsTuple q #[.int x tx, .int y ty])
    (hc : CmpOf prog w B op (fun i v => (#[Value.int x tx, Value.int y ty] : Array Value)[i]? = some v) bt) (done : ∀ v hh tt, (v = .int x tx ∧ bt 1 0 = false ∨ v = .int y ty ∧ bt 1 0 = true) → (∀ c o, sh.heap.get? c = some o → hh.get? c = some o) → R v { sh with heap := hh, toks := tt }) :
    wpAny (model prog w) B (pyIter (.ref q)) (fun it s2 => ∃ I fp wr n P St bt', it = .ref I ∧ Walks prog w B I fp wr n P St ∧ St 0 s2.heap ∧ (∀ c ∈ fp, c < s2.heap.objs.size) ∧ 0 < n ∧ CmpOf prog w B op P bt' ∧
      ∀ v hh tt, P (argBest bt' (n - 1)) v → (∀ c o, c ∉ wr → s2.heap.get? c = some o → hh.get? c = some o) → R v { s2 with heap := hh, toks := tt }) F sh := by
  have lt : q < sh.heap.objs.size := hp.elim fun _ z => Heap.lt_size z.1
  apply wpAny_pyIter_tuple hp
  refine ⟨_, _, _, _, _, _, bt, rfl, Walks.tuple hB _ q (Nat.ne_of_lt lt) #[Value.int x tx, Value.int y ty], ⟨⟨_, Heap.get?_push_size _ rfl, rfl, rfl⟩, hp.push _⟩, ?_, by simp, hc, ?_⟩
  · intro c hc2
    rw [Heap.size_push]
    have : c = sh.heap.objs.size ∨ c = q := by simpa using hc2
    rcases this with e | e <;> rw [e]
    · exact Nat.lt_succ_self _
    · exact Nat.lt_succ_of_lt lt
  · intro v hh tt best keep
    refine done v hh tt ?_ fun c o ho => keep c o (fun z => ?_) (Heap.get?_push_of_some _ ho)
    · cases hb : bt 1 0 <;> simp [argBest, hb] at best
      · exact .inl ⟨best.symm, rfl⟩
      · exact .inr ⟨best.symm, rfl⟩
    · have z1 : c = sh.heap.objs.size := by simpa using z
      exact Nat.lt_irrefl _ (z1 ▸ Heap.lt_size ho)
def rMaxT (K : PySem.W.Frag) : List V → Hp → VK → Prop := fun vs H Q => ∃ (p : Addr) (x y : Int), vs = [V.ref p] ∧ SqT K H p [.int x, .int y] ∧ Q (.int (max x y)) H
def rMinT (K : PySem.W.Frag) : List V → Hp → VK → Prop := fun vs H Q => ∃ (p : Addr) (x y : Int), vs = [V.ref p] ∧ SqT K H p [.int x, .int y] ∧ Q (.int (min x y)) H
theorem maxTK {X : Cx} (K : PySem.W.Frag) (h : X.K = K := by rfl) (hc : X.calm = true := by rfl) : CallR X (.builtin "max") (rMaxT K) := by
  subst h
  rintro pins sh σ H _ us Q I rel ⟨p, x, y, rfl, hp, want⟩
  obtain ⟨its, rv, tup, _⟩ := I.tuple hp
  obtain ⟨_, _, rfl, ⟨tx, rfl⟩, ⟨ty, rfl⟩⟩ := vals2 rv
  rw [Vals.ref1 rel]
  refine call_max_walk (pair_walk (I.ok.hd hc) tup (CmpOf.ints_gt (fun i => if i = 0 then x else y) fun i v hv => ?_) fun v hh tt hv keep => ?_)
  · match i, hv with
    | 0, hv => exact ⟨tx, (Option.some.inj hv).symm⟩
    | 1, hv => exact ⟨ty, (Option.some.inj hv).symm⟩
    | _ + 2, hv => simp at hv
  · refine ⟨.int (max x y), H, I.kept keep, ?_, want⟩
    rcases hv with ⟨rfl, z⟩ | ⟨rfl, z⟩
    · have z2 : ¬ y > x := of_decide_eq_false z
      exact ⟨tx, by rw [show max x y = x by omega]⟩
    · have z2 : y > x := of_decide_eq_true z
      exact ⟨ty, by rw [show max x y = y by omega]⟩
theorem minTK {X : Cx} (K : PySem.W.Frag) (h : X.K = K := by rfl) (hc : X.calm = true := by rfl) : CallR X (.builtin "min") (rMinT K) := by
  subst h
  rintro pins sh σ H _ us Q I rel ⟨p, x, y, rfl, hp, want⟩
  obtain ⟨its, rv, tup, _⟩ := I.tuple hp
  obtain ⟨_, _, rfl, ⟨tx, rfl⟩, ⟨ty, rfl⟩⟩ := vals2 rv
  rw [Vals.ref1 rel]
  refine call_min_walk (pair_walk (I.ok.hd hc) tup (CmpOf.ints_lt (fun i => if i = 0 then x else y) fun i v hv => ?_) fun v hh tt hv keep => ?_)
  · match i, hv with
    | 0, hv => exact ⟨tx, (Option.some.inj hv).symm⟩
    | 1, hv => exact ⟨ty, (Option.some.inj hv).symm⟩
    | _ + 2, hv => simp at hv
  · refine ⟨.int (min x y), H, I.kept keep, ?_, want⟩
    rcases hv with ⟨rfl, z⟩ | ⟨rfl, z⟩
    · have z2 : ¬ y < x := of_decide_eq_false z
      exact ⟨tx, by rw [show min x y = x by omega]⟩
    · have z2 : y < x := of_decide_eq_true z
      exact ⟨ty, by rw [show min x y = y by omega]⟩
/-! ### how many unlike numbers -/
theorem firstMet_facts (val : Nat → Int) : ∀ i, (firstMet val i).Nodup ∧ ∀ x, x ∈ firstMet val i ↔ ∃ j, j < i ∧ val j = x
  | 0 => by
    rw [firstMet_zero]
    exact ⟨List.nodup_nil, fun x => ⟨fun h => by simp at h, fun ⟨j, h, _⟩ => by omega⟩⟩
  | i + 1 => by
    obtain ⟨h1, h2⟩ := firstMet_facts val i
    have e : firstMet val (i + 1) = if (firstMet val i).any (· == val i) then firstMet val i else firstMet val i ++ [val i] := by rw [firstMet_succ]; rfl
    rw [e]
    by_cases hb : (firstMet val i).any (· == val i) = true
    · rw [if_pos hb]
      refine ⟨h1, fun x => ⟨fun hx => ?_, fun ⟨j, hj, ej⟩ => ?_⟩⟩
      · obtain ⟨j, hj, ej⟩ := (h2 x).mp hx
        exact ⟨j, by omega, ej⟩
      · by_cases hji : j < i
        · exact (h2 x).mpr ⟨j, hji, ej⟩
        · have : j = i := by omega
          subst this
          obtain ⟨y, hy, ey⟩ := List.any_eq_true.mp hb
          have ey2 : y = val j := eq_of_beq ey
          rw [← ej, ← ey2]
          exact hy
    · rw [if_neg hb]
      have hni : val i ∉ firstMet val i := fun hm => hb (List.any_eq_true.mpr ⟨_, hm, beq_self_eq_true _⟩)
      refine ⟨?_, fun x => ⟨fun hx => ?_, fun ⟨j, hj, ej⟩ => ?_⟩⟩
      · rw [List.nodup_append]
        refine ⟨h1, by simp, fun a ha b hb' e2 => ?_⟩
        have e3 : b = val i := by simpa using hb'
        exact hni (by rw [← e3, ← e2]; exact ha)
      · rcases List.mem_append.mp hx with hx | hx
        · obtain ⟨j, hj, ej⟩ := (h2 x).mp hx
          exact ⟨j, by omega, ej⟩
        · have e3 : x = val i := by simpa using hx
          exact ⟨i, by omega, e3.symm⟩
      · by_cases hji : j < i
        · exact List.mem_append_left _ ((h2 x).mpr ⟨j, hji, ej⟩)
        · have : j = i := by omega
          subst this
          rw [← ej]
          exact List.mem_append_right _ (List.mem_singleton.mpr rfl)
theorem firstMet_list (ns : List Int) : (firstMet (fun i => ns.getD i 0) ns.length).Nodup ∧ ∀ x, x ∈ firstMet (fun i => ns.getD i 0) ns.length ↔ x ∈ ns := by
  obtain ⟨h1, h2⟩ := firstMet_facts (fun i => ns.getD i 0) ns.length
  refine ⟨h1, fun x => (h2 x).trans ⟨fun ⟨j, hj, ej⟩ => ?_, fun hx => ?_⟩⟩
  · rw [← ej]
    show ns.getD j 0 ∈ ns
    rw [List.getD_eq_getElem?_getD, List.getElem?_eq_getElem hj]
    exact List.getElem_mem hj
  · obtain ⟨j, hj, ej⟩ := List.mem_iff_getElem.mp hx
    refine ⟨j, hj, ?_⟩
    show ns.getD j 0 = x
    rw [List.getD_eq_getElem?_getD, List.getElem?_eq_getElem hj]
    exact ej
/-- set(xs): a new set of what is in xs -/
def rSetL (K : PySem.W.Frag) : List V → Hp → VK → Prop := fun vs H Q => ∃ (l : Addr) (ns : List Int), vs = [.ref l] ∧ SqL K H l (ns.map V.int) ∧ ns.length ≤ 4000 ∧ ∀ (p : Addr) (d : List Int), H p = none → d.Nodup → (∀ x, x ∈ d ↔ x ∈ ns) → d.length ≤ ns.length → Q (.ref p) (upd H p (.set (fun k => d.any (· == k)) d.length))
theorem setLK {X : Cx} (K : PySem.W.Frag) (h : X.K = K := by rfl) (hc : X.calm = true := by rfl) : CallR X (.type "set") (rSetL K) := by
  subst h
  rintro pins sh σ H _ us Q I rel ⟨l, ns, rfl, hl, small, want⟩
  obtain ⟨its, rv, pl, _⟩ := I.list hl
  have len : its.length = ns.length := by simpa using rv.length.symm
  obtain ⟨u1, u2⟩ := firstMet_list ns
  rw [Vals.ref1 rel]
  have size : its.toArray.size = ns.length := by simpa using len
  apply call_set_list (I.ok.hd hc) pl.isList (ns := ns) (by simpa using rv.ints) (by rw [size]; unfold scanBound; omega)
  intro hh tt new keep
  rw [size] at new
  exact ⟨.ref _, _, I.laid (o := .set _ _) (fun c o ho => keep c o (Heap.lt_size ho) ho) (Nat.le_refl _) new, rfl, want _ _ (I.hok.fresh (Nat.le_refl _)) u1 u2 (firstMet_length_le _ _)⟩
/-- len of such a set -/
def rLenZ : List V → Hp → VK → Prop := fun vs H Q => ∃ (p : Addr) (S : Int → Bool) (n : Nat), vs = [.ref p] ∧ H p = some (.set S n) ∧ n ≤ 4000 ∧ Q (.int (n : Nat)) H
theorem lenZ {X : Cx} : CallR X (.builtin "len") rLenZ := by
  rintro pins sh σ H _ us Q I rel ⟨p, S, n, rfl, hp, small, want⟩
  rw [Vals.ref1 rel]
  obtain ⟨ob, es, ep, tb, at1, ex, dat, _, _, _, fit, num⟩ := (show sh.heap.SetOf (intKind X.prog X.w) p S n from I.hok p _ hp)
  apply call_len_set at1 ex dat fit (by omega)
  exact ⟨.int (n : Nat), H, I.tok _, ⟨_, by rw [num]⟩, want⟩
end Hc
namespace Hc
open PySem PySem.Spec PyProof.Rows L2 Evl
/-! ### instances of own classes -/
/-- an instance of C has C as its type -/
def Typ (K : PySem.W.Frag) (C : Addr) : Prop := ∀ (H : Hp) (a dx : Addr) (fs : List (Str × V)), H a = some (.ins C dx fs) → TyX K H (.ref a) (.ref C)
theorem tyx_ins {K : PySem.W.Frag} {H : Hp} {a C dx : Addr} {fs : List (Str × V)} (e : H a = some (.ins C dx fs)) (_cl : Cls K C) (y : Typ K C) : TyX K H (.ref a) (.ref C) := y H a dx fs e
end Hc
namespace Hc
open PySem PySem.Spec PyProof.Rows L2 Evl
/-! ### ranges by counts -/
theorem walk_rg0 {n : Nat} : Walk (Itr 0 n) n (fun _ => True) (fun i H x H' => H' = H ∧ x = .int ((i : Nat) : Int)) :=
  walk_range.mono (fun _ h => h) fun i H x H' _ _ y => ⟨y.1, y.2.trans (by show V.int (0 + (i : Int)) = _; rw [Int.zero_add])⟩
theorem walk_rg {a n : Nat} : Walk (Itr (a : Int) n) n (fun _ => True) (fun i H x H' => H' = H ∧ x = .int ((a + i : Nat) : Int)) :=
  walk_range.mono (fun _ h => h) fun i H x H' _ _ y => ⟨y.1, y.2.trans (by show V.int ((a : Int) + (i : Int)) = _; rw [Int.natCast_add])⟩
end Hc
namespace Hc
open PySem PySem.Spec PyProof.Rows L2 Evl
/-! ### three comparisons in a row, as a value -/
/-- one link: the next thing, the comparison, and, if it holds, what is left of the row -/
def tLink (r : R2) (tb : TE) (Nx : V → Hp → Prop) (No : Hp → Prop) (x : V) : L2.St → Hp → Prop := fun σ H => tb σ H fun y H1 => r x y H1 fun z H2 => ∃ k, z = .bl k ∧ (if k = true then Nx y H2 else No H2)
theorem link_run {X : Cx} {b : Expr} {tb : TE} {pos : Pos} {op op' : CmpOp} {ops : List CmpOp} {r : R2} {more : Sem Value} {rest : List (Sem Value)} {Nx : V → Hp → Prop} {Q : VK} {pins : List (Addr × Obj)} {sh : Shared} {σ : L2.St} {H : Hp} {x : V} {u : Value}
    (ho : OpR X (compareOp op) r) (hb : PE X b tb) (I : Inv X pins σ H sh) (rx : RelV x u) (h : tLink r tb Nx (Q (.bl false)) x σ H)
    (go : ∀ y v s' H', Inv X pins σ H' s' → RelV y v → Nx y H' → wpAny (model X.prog X.w) X.A (compareChain pos v (op' :: ops) (more :: rest)) (EP X pins σ Q) X.xe s') :
    wpAny (model X.prog X.w) X.A (compareChain pos u (op :: op' :: ops) (eval b X.env :: more :: rest)) (EP X pins σ Q) X.xe sh := by
  apply chain_link
  refine thn (hb.run pins sh σ H _ I h) ?_
  rintro v s1 ⟨y, H1, I1, ry, q1⟩
  refine thn (ho pins s1 σ H1 x y u v _ I1 rx ry q1) ?_
  rintro c s2 ⟨_, H2, I2, rc, k, rfl, q2⟩
  cases rc
  apply wpAny_truthy_bool
  by_cases hk : k = true
  · subst hk
    exact go y v s2 H2 I2 ry q2
  · have : k = false := by simpa using hk
    subst this
    exact ⟨.bl false, H2, I2, rfl, q2⟩
def tChain3 (r r' r'' : R2) (ta tb tc td : TE) : TE := fun σ H Q => ta σ H fun x H1 => tLink r tb (fun y H2 => tLink r' tc (fun w' H3 => td σ H3 fun v' H4 => r'' w' v' H4 Q) (Q (.bl false)) y σ H2) (Q (.bl false)) x σ H1
theorem pe_chain3 {X : Cx} {a b c d : Expr} {ta tb tc td : TE} {pos : Pos} {op op' op'' : CmpOp} {r r' r'' : R2} (ho : OpR X (compareOp op) r) (ho' : OpR X (compareOp op') r') (ho'' : OpR X (compareOp op'') r'') (ha : PE X a ta) (hb : PE X b tb) (hc : PE X c tc) (hd : PE X d td)
    (hm : lastMarks [op, op', op''] [b, c, d] = false := by with_unfolding_all rfl) : PE X (.Compare a [op, op', op''] [b, c, d] pos) (tChain3 r r' r'' ta tb tc td) := by
  constructor
  intro pins sh σ H Q I h
  apply Compare_chain (hm := hm)
  refine thn (ha.run pins sh σ H _ I h) ?_
  rintro u s1 ⟨x, H1, I1, rx, q1⟩
  refine link_run ho hb I1 rx q1 fun y v s2 H2 I2 ry q2 => link_run ho' hc I2 ry q2 fun w' z s3 H3 I3 rz q3 => chain_last ?_
  exact thn (hd.run pins s3 σ H3 _ I3 q3) fun e s4 ⟨v', H4, I4, rv, q4⟩ => ho'' pins s4 σ H4 w' v' z e Q I4 rz rv q4
end Hc
namespace Hc
open PySem PySem.Spec PyProof.Rows L2 Evl
theorem BalsN.exB {H0 H H' : Hp} {x D : Addr} {ts ls : List Addr} {bs : List (List Nat × Int)} (B : BalsN H0 H D ts ls bs) (hx : H0 x ≠ none) (e : ExB x H H') : BalsN H0 H' D ts ls bs := by
  have nD : D ≠ x := fun q => hx (q ▸ B.fD)
  refine ⟨e _ _ nD B.top, B.lt, B.ll, fun i t l b ht hl hb => ?_, B.nd, B.fl, B.ft, B.fD⟩
  obtain ⟨h1, h2⟩ := B.at_ i t l b ht hl hb
  exact ⟨e _ _ (fun q => hx (q ▸ B.ft t (List.mem_of_getElem? ht))) h1, e _ _ (fun q => hx (q ▸ B.fl l (List.mem_of_getElem? hl))) h2⟩
theorem BalsN.mono {H0 H H' : Hp} {D : Addr} {ts ls : List Addr} {bs : List (List Nat × Int)} (B : BalsN H0 H D ts ls bs) (e : Ex H H') : BalsN H0 H' D ts ls bs :=
  ⟨e _ _ B.top, B.lt, B.ll, fun i t l b ht hl hb => ⟨e _ _ (B.at_ i t l b ht hl hb).1, e _ _ (B.at_ i t l b ht hl hb).2⟩, B.nd, B.fl, B.ft, B.fD⟩
theorem BalsN.base {Hb H0 H : Hp} {D : Addr} {ts ls : List Addr} {bs : List (List Nat × Int)} (B : BalsN H0 H D ts ls bs) (e : Ex Hb H0) : BalsN Hb H D ts ls bs :=
  ⟨B.top, B.lt, B.ll, B.at_, B.nd, fun l h => fresh_back e (B.fl l h), fun t h => fresh_back e (B.ft t h), fresh_back e B.fD⟩
end Hc
namespace Hc
open PySem PySem.Spec PyProof.Rows L2 Evl
section
variable {J : It} {n : Nat} {G : Hp → Prop} {Y : Nat → Hp → V → Hp → Prop} {g : TG} {tt : TT} {te : TE} {vs : List Nat} {σ : L2.St} {H1 : Hp} {D : Addr} {Qd : Hp → Prop}
/-- some of the items, by value -/
theorem lc_filt (w : Walk J n G Y) (hD : H1 D = none) (hn : n ≤ 90000) (hG : ∀ H, Ex H1 H → G H) (p : Nat → Bool) (v : Nat → V)
    (hs : ∀ (i : Nat) (x : V) (H H' : Hp), i < n → Ex H1 H → Y i H x H' → ∀ (A : Hp → Prop) (Qc : VK), (∀ H3, Ex H H3 → p i = false → A H3) → (∀ H4, Ex H H4 → p i = true → Qc (v i) H4) → g x (wipe σ vs) H' fun σ2 H2 => wipe σ2 vs = wipe σ vs ∧ tt σ2 H2 fun b H3 => if b = true then te σ2 H3 Qc else A H3)
    (hd : ∀ H, Ex H1 H → H D = some (.lst (((List.range n).filter p).map v)) → Qd H) :
    ∃ W : Nat → Nat → Hp → Prop, (∃ m, W 0 m (upd H1 D (.lst []))) ∧ ∀ i m H, W i m H → (J.stop i H ∧ Qd H) ∨ (J.go i H ∧ ∃ Nx : Hp → Prop, (∀ H', Nx H' → ∃ m', m' < m ∧ W (i + 1) m' H') ∧ ∀ x H', J.yld i H x H' → g x (wipe σ vs) H' fun σ2 H2 => wipe σ2 vs = wipe σ vs ∧ tt σ2 H2 fun b H3 => if b = true then te σ2 H3 fun y H4 => ∃ acc, H4 D = some (.lst acc) ∧ acc.length < sizeLine ∧ Nx (upd H4 D (.lst (acc ++ [y]))) else Nx H3) := by
  refine lc_it w (fun i H => i ≤ n ∧ Ex H1 H ∧ H D = some (.lst (((List.range i).filter p).map v))) ⟨Nat.zero_le _, Ex.new hD, upd_same⟩ (fun i H _ ⟨_, e, _⟩ => hG H e) ?_ (fun H ⟨_, e, h1⟩ => hd H e h1)
  rintro i x H H' hi ⟨_, e, h1⟩ hy
  refine hs i x H H' hi e hy _ _ (fun H3 e3 hp => ⟨hi, e.trans e3, ?_⟩) (fun H4 e4 hp => ⟨_, e4 _ _ h1, ?_, hi, (e.trans e4).mut hD, ?_⟩)
  · rw [e3 _ _ h1, List.range_succ, List.filter_append]
    simp [hp]
  · refine sz_lt ?_
    rw [List.length_map]
    have := List.length_filter_le p (List.range i)
    rw [List.length_range] at this
    omega
  · rw [upd_same, List.range_succ, List.filter_append]
    simp [hp]
end
theorem eqV_int (i j : Int) : eqV (.int i) (.int j) = (i == j) := rfl
theorem dec_int (i j : Int) : decide (V.int i = V.int j) = decide (i = j) := by
  by_cases h : i = j
  · rw [decide_eq_true h, decide_eq_true (by rw [h])]
  · rw [decide_eq_false h, decide_eq_false (fun e => h (by injection e))]
theorem dec_bl (i j : Bool) : decide (V.bl i = V.bl j) = (i == j) := by
  cases i <;> cases j <;> rfl
/-- two new ballots -/
theorem balsN_two {H0 H : Hp} {D t1 t2 l1 l2 : Addr} {b1 b2 : List Nat × Int} (top : H D = some (.lst [.ref t1, .ref t2])) (h1 : H t1 = some (.tup [.ref l1, .int b1.2])) (h2 : H l1 = some (.lst (nv b1.1))) (h3 : H t2 = some (.tup [.ref l2, .int b2.2])) (h4 : H l2 = some (.lst (nv b2.1)))
    (ne : l1 ≠ l2) (f1 : H0 l1 = none) (f2 : H0 l2 = none) (f3 : H0 t1 = none) (f4 : H0 t2 = none) (f5 : H0 D = none) : BalsN H0 H D [t1, t2] [l1, l2] [b1, b2] := by
  refine ⟨top, rfl, rfl, fun i t l b ht hl hb => ?_, ?_, fun l hl => ?_, fun t ht => ?_, f5⟩
  · match i with
    | 0 =>
      cases (show some t1 = some t from ht)
      cases (show some l1 = some l from hl)
      cases (show some b1 = some b from hb)
      exact ⟨h1, h2⟩
    | 1 =>
      cases (show some t2 = some t from ht)
      cases (show some l2 = some l from hl)
      cases (show some b2 = some b from hb)
      exact ⟨h3, h4⟩
    | k + 2 => simp at ht
  · simp [ne]
  · rcases List.mem_cons.mp hl with rfl | hl
    · exact f1
    · have e : l = l2 := by simpa using hl
      rw [e]
      exact f2
  · rcases List.mem_cons.mp ht with rfl | ht
    · exact f3
    · have e : t = t2 := by simpa using ht
      rw [e]
      exact f4
theorem ne_of_fresh {H : Hp} {a b : Addr} {o : HO} (h : H a = some o) (hb : H b = none) : a ≠ b := fun e => by
  rw [e, hb] at h
  cases h
theorem paired_of {K : PySem.W.Frag} {H : Hp} : ∀ (ts ls : List Addr) (bs : List (List Nat × Int)), ts.length = bs.length → ls.length = bs.length → (∀ (i : Nat) (t l : Addr) (b : List Nat × Int), ts[i]? = some t → ls[i]? = some l → bs[i]? = some b → H t = some (.tup [.ref l, .int b.2]) ∧ H l = some (.lst (nv b.1))) → Paired (BalR K H) (ts.map V.ref) bs
  | [], _, [], _, _, _ => .nil
  | [], _, _ :: _, hl, _, _ => by simp at hl
  | _ :: _, _, [], hl, _, _ => by simp at hl
  | _ :: _, [], _ :: _, _, hl, _ => by simp at hl
  | t :: ts, l :: ls, b :: bs, hl, hl2, h => by
    obtain ⟨q1, q2⟩ := h 0 t l b rfl rfl rfl
    exact .cons ⟨t, l, rfl, st_of q1, sq_of q2⟩ (paired_of ts ls bs (by simpa using hl) (by simpa using hl2) fun i t' l' b' a1 a2 a3 => h (i + 1) t' l' b' (by simpa using a1) (by simpa using a2) (by simpa using a3))
theorem BalsN.paired {K : PySem.W.Frag} {H0 H : Hp} {D : Addr} {ts ls : List Addr} {bs : List (List Nat × Int)} (B : BalsN H0 H D ts ls bs) : Paired (BalR K H) (ts.map V.ref) bs := paired_of ts ls bs B.lt B.ll B.at_
/-- new ballots without F -/
theorem BalsN.rem {K : PySem.W.Frag} {H0 H : Hp} {F D : Addr} {ts ls : List Addr} {bs : List (List Nat × Int)} (B : BalsN H0 H D ts ls bs) (hF : H0 F ≠ none) : Paired (BalR K (Hc.rem H F)) (ts.map V.ref) bs := by
  have ne : ∀ a, H0 a = none → a ≠ F := fun a h e => hF (by rw [← e]; exact h)
  refine paired_of ts ls bs B.lt B.ll fun i t l b ht hl hb => ?_
  rw [rem_ne (ne _ (B.ft t (List.mem_of_getElem? ht))), rem_ne (ne _ (B.fl l (List.mem_of_getElem? hl)))]
  exact B.at_ i t l b ht hl hb
end Hc
namespace Hc
open PySem PySem.Spec PyProof.Rows L2 Evl
theorem ex_made {H : Hp} {x dx C : Addr} (nx : H x = none) (ndx : H dx = none) (ne : dx ≠ x) : Ex H (upd (upd H dx (.own x)) x (.ins C dx [])) := (Ex.new ndx).trans (Ex.new (by rw [upd_ne ne.symm]; exact nx))
theorem ex_after {H H3 : Hp} {x dx C : Addr} (nx : H x = none) (ndx : H dx = none) (ne : dx ≠ x) (eB : ExB x (upd (upd H dx (.own x)) x (.ins C dx [])) H3) : Ex H H3 := fun a o ha => eB a o (ne_of_fresh ha nx) (ex_made nx ndx ne a o ha)
end Hc
namespace Hc
open PySem PySem.Spec PyProof.Rows L2 Evl
/-! ### ballots whose lists are the program's own -/
def BalW (H : Hp) (x : V) (b : List Nat × Int) : Prop := ∃ (t l : Addr), x = .ref t ∧ H t = some (.tup [.ref l, .int b.2]) ∧ H l = some (.lst (nv b.1))
def BalsW (H : Hp) (v : V) (bs : List (List Nat × Int)) : Prop := ∃ (a : Addr) (xs : List V), v = .ref a ∧ H a = some (.lst xs) ∧ Paired (BalW H) xs bs
section
variable {K : PySem.W.Frag} {H H' : Hp} {v x : V} {bs : List (List Nat × Int)} {b : List Nat × Int}
theorem BalW.mono (h : BalW H x b) (e : Ex H H') : BalW H' x b := by
  obtain ⟨t, l, h1, h2, h3⟩ := h
  exact ⟨t, l, h1, e _ _ h2, e _ _ h3⟩
theorem BalsW.mono (h : BalsW H v bs) (e : Ex H H') : BalsW H' v bs := by
  obtain ⟨a, xs, h1, h2, h3⟩ := h
  exact ⟨a, xs, h1, e _ _ h2, Paired.mapP h3 fun _ _ q => q.mono e⟩
theorem BalW.rd (h : BalW H x b) : BalR K H x b := by
  obtain ⟨t, l, h1, h2, h3⟩ := h
  exact ⟨t, l, h1, st_of h2, sq_of h3⟩
theorem BalsW.rd (h : BalsW H v bs) : BalsR K H v bs := by
  obtain ⟨a, xs, h1, h2, h3⟩ := h
  exact ⟨a, xs, h1, sq_of h2, Paired.mapP h3 fun _ _ q => q.rd⟩
end
theorem pairedW_of {H : Hp} : ∀ (ts ls : List Addr) (bs : List (List Nat × Int)), ts.length = bs.length → ls.length = bs.length → (∀ (i : Nat) (t l : Addr) (b : List Nat × Int), ts[i]? = some t → ls[i]? = some l → bs[i]? = some b → H t = some (.tup [.ref l, .int b.2]) ∧ H l = some (.lst (nv b.1))) → Paired (BalW H) (ts.map V.ref) bs
  | [], _, [], _, _, _ => .nil
  | [], _, _ :: _, hl, _, _ => by simp at hl
  | _ :: _, _, [], hl, _, _ => by simp at hl
  | _ :: _, [], _ :: _, _, hl, _ => by simp at hl
  | t :: ts, l :: ls, b :: bs, hl, hl2, h => by
    obtain ⟨q1, q2⟩ := h 0 t l b rfl rfl rfl
    exact .cons ⟨t, l, rfl, q1, q2⟩ (pairedW_of ts ls bs (by simpa using hl) (by simpa using hl2) fun i t' l' b' a1 a2 a3 => h (i + 1) t' l' b' (by simpa using a1) (by simpa using a2) (by simpa using a3))
theorem BalsN.w {H0 H : Hp} {D : Addr} {ts ls : List Addr} {bs : List (List Nat × Int)} (B : BalsN H0 H D ts ls bs) : BalsW H (.ref D) bs := ⟨D, _, rfl, B.top, pairedW_of ts ls bs B.lt B.ll B.at_⟩
end Hc
namespace Hc
open PySem PySem.Spec PyProof.Rows L2 Evl
theorem rowV_take {n i : Nat} {g : Nat → Int} (h : i ≤ n) : (rowV n g).take i = rowV i g := by
  unfold rowV
  rw [← List.map_take, List.take_range, Nat.min_eq_left h]
end Hc
namespace Hc
open PySem PySem.Spec PyProof.Rows L2 Evl
/-! ### told ballots, the first one's line made longer, one more behind -/
theorem balsN_neB {H0 H : Hp} {B : Addr} {ts ls : List Addr} {bs : List (List Nat × Int)} (BN : BalsN H0 H B ts ls bs) {i : Nat} {l : Addr} (hl : ls[i]? = some l) : l ≠ B := fun e => by
  subst e
  have hi : i < ls.length := (List.getElem?_eq_some_iff.mp hl).1
  have hb : i < bs.length := by rw [← BN.ll]; exact hi
  have ht : i < ts.length := by rw [BN.lt]; exact hb
  obtain ⟨_, h2⟩ := BN.at_ i _ l _ (List.getElem?_eq_getElem ht) hl (List.getElem?_eq_getElem hb)
  rw [BN.top] at h2
  have h3 : ts.map V.ref = nv bs[i].1 := by injection Option.some.inj h2
  cases hts : ts with
  | nil => rw [hts] at ht; simp at ht
  | cons t0 ts' =>
    rw [hts] at h3
    unfold nv at h3
    cases hb1 : bs[i].1 with
    | nil => rw [hb1] at h3; simp at h3
    | cons k ks =>
      rw [hb1] at h3
      simp at h3
theorem balsW_bent {H0 H H' : Hp} {B tp p : Addr} {ts ls : List Addr} {bs : List (List Nat × Int)} (BN : BalsN H0 H B ts ls bs) (hB : H' B = some (.lst (ts.map V.ref ++ [.ref tp]))) (htp : H' tp = some (.tup [.ref p, .int 1])) (hp : H' p = some (.lst (nv [0])))
    (hl : ∀ l b, ls[0]? = some l → bs[0]? = some b → H' l = some (.lst (nv (b.1 ++ [0])))) (hk : ∀ a o, a ≠ B → ls[0]? ≠ some a → H a = some o → H' a = some o) :
    BalsW H' (.ref B) ((bs.take 1).map (fun b => (b.1 ++ [0], b.2)) ++ bs.drop 1 ++ [([0], 1)]) := by
  refine ⟨B, _, rfl, hB, Paired.append ?_ (.cons ⟨tp, p, rfl, htp, hp⟩ .nil)⟩
  cases hbs : bs with
  | nil =>
    have h1 := BN.lt
    rw [hbs] at h1
    have h2 : ts = [] := List.length_eq_zero_iff.mp h1
    rw [h2]
    exact .nil
  | cons b0 bs' =>
    subst hbs
    have h1 := BN.lt
    have h2 := BN.ll
    cases hts : ts with
    | nil => rw [hts] at h1; simp at h1
    | cons t0 ts' =>
      cases hls : ls with
      | nil => rw [hls] at h2; simp at h2
      | cons l0 ls' =>
        subst hts hls
        have ne0 : ∀ {i : Nat} {t : Addr}, (t0 :: ts')[i]? = some t → t ≠ B ∧ (l0 :: ls')[0]? ≠ some t := fun {i t} ht => by
          have hi : i < (t0 :: ts').length := (List.getElem?_eq_some_iff.mp ht).1
          obtain ⟨q1, q2⟩ := BN.at_ i t _ _ ht (List.getElem?_eq_getElem (by omega : i < (l0 :: ls').length)) (List.getElem?_eq_getElem (by omega : i < (b0 :: bs').length))
          refine ⟨fun e => ?_, fun e => ?_⟩
          · rw [e, BN.top] at q1
            cases q1
          · have e2 : l0 = t := by simpa using e
            obtain ⟨_, q4⟩ := BN.at_ 0 t0 l0 b0 rfl rfl rfl
            rw [e2, q1] at q4
            cases q4
        refine .cons ⟨t0, l0, rfl, ?_, hl l0 b0 rfl rfl⟩ (pairedW_of ts' ls' bs' (by simpa using h1) (by simpa using h2) fun i t l b a1 a2 a3 => ?_)
        · obtain ⟨q1, q2⟩ := BN.at_ 0 t0 l0 b0 rfl rfl rfl
          exact hk _ _ (ne0 (i := 0) rfl).1 (ne0 (i := 0) rfl).2 q1
        · obtain ⟨q1, q2⟩ := BN.at_ (i + 1) t l b (by simpa using a1) (by simpa using a2) (by simpa using a3)
          have n1 := ne0 (i := i + 1) (t := t) (by simpa using a1)
          refine ⟨hk _ _ n1.1 n1.2 q1, hk _ _ (balsN_neB BN (i := i + 1) (by simpa using a2)) (fun e => ?_) q2⟩
          have e2 : l0 = l := by simpa using e
          have := nd_ix BN.nd (i := 0) (j := i + 1) (x := l) (by simpa using e) (by simpa using a2)
          omega
def dLines (bs : List (List Nat × Int)) : PyData := .list (bs.map fun b => .list (b.1.map fun (k : Nat) => .int (k : Int)))
theorem lay_line (ks : List Nat) : (PyData.list (ks.map fun (k : Nat) => .int (k : Int))).canLay0 = true := lay_list _ fun d hd => by
  obtain ⟨j, _, rfl⟩ := List.mem_map.mp hd
  exact lay_int _
theorem lay_lines (bs : List (List Nat × Int)) : (dLines bs).canLay0 = true := lay_list _ fun d hd => by
  obtain ⟨j, _, rfl⟩ := List.mem_map.mp hd
  exact lay_line _
theorem shaped_lines (bs : List (List Nat × Int)) : SeqAt.shaped (dLines bs) = true := shaped_of (lay_lines bs) (depth_list (k := 1) fun d hd => by
  obtain ⟨j, _, rfl⟩ := List.mem_map.mp hd
  refine depth_list (k := 0) fun e he => ?_
  obtain ⟨i, _, rfl⟩ := List.mem_map.mp he
  exact depth_int _) (by decide)
theorem dp_nv {K : PySem.W.Frag} {H : Hp} {a : Addr} {ks : List Nat} (h : SqL K H a (nv ks)) : Dp K H (.ref a) (.list (ks.map fun (k : Nat) => .int (k : Int))) := by
  rw [nv_iv] at h
  have e := dp_ints h
  rw [List.map_map] at e
  exact e
theorem dp_lines {K : PySem.W.Frag} {H : Hp} {a : Addr} {ps : List Addr} {bs : List (List Nat × Int)} (h : H a = some (.lst (ps.map V.ref))) (hl : ps.length = bs.length) (hp : ∀ (i : Nat) (p : Addr) (b : List Nat × Int), ps[i]? = some p → bs[i]? = some b → H p = some (.lst (nv b.1))) : Dp K H (.ref a) (dLines bs) := by
  refine .lst (sq_of h) (dpAll_of (by rw [List.length_map, List.length_map, hl]) fun i x d hx hd => ?_)
  rw [List.getElem?_map] at hx hd
  cases e : ps[i]? with
  | none => rw [e] at hx; cases hx
  | some p =>
    rw [e] at hx
    cases hx
    cases e2 : bs[i]? with
    | none => rw [e2] at hd; cases hd
    | some b =>
      rw [e2] at hd
      cases hd
      exact dp_nv (sq_of (hp i p b e e2))
theorem ecut1 (l : List Addr) : cutV (l.map V.ref) (some 1) none = (l.drop 1).map V.ref := by
  rw [show (1 : Int) = ((1 : Nat) : Int) from rfl, cut_from, List.map_drop]
theorem ecut0 (l : List Addr) : cutV (l.map V.ref) none (some 1) = (l.take 1).map V.ref := by
  rw [show (1 : Int) = ((1 : Nat) : Int) from rfl, cut_to, List.map_take]
end Hc
namespace Hc
open PySem PySem.Spec PyProof.Rows L2 Evl
theorem fldK {X : Cx} {e : Expr} {ta : TE} {f : Str} {pos : Pos} (K : PySem.W.Frag) (he : PE X e ta) (hb : attributeBase e f X.env (eval e X.env) = eval e X.env := by rfl) (h : X.K = K := by rfl) : PE X (.Attribute e f pos) (tFld K ta f) := by
  cases h
  exact pe_fld he hb
end Hc
namespace Hc
open PySem PySem.Spec PyProof.Rows L2 Evl
theorem rowV_reverse {n : Nat} {g : Nat → Int} : (rowV n g).reverse = rowV n (fun j => g (n - 1 - j)) := by
  apply List.ext_getElem?
  intro j
  by_cases hj : j < n
  · rw [List.getElem?_reverse (by rw [rowV_length]; exact hj), rowV_length, rowV_get (by omega), rowV_get hj]
  · rw [List.getElem?_eq_none (by rw [List.length_reverse, rowV_length]; omega), List.getElem?_eq_none (by rw [rowV_length]; omega)]
/-! ### written tables -/
def litF (ls : List (List Int)) (i j : Nat) : Int := (ls.getD i []).getD j 0
theorem rowV_lit {n : Nat} {l : List Int} (h : l.length = n) : rowV n (fun j => l.getD j 0) = iv l := by
  apply List.ext_getElem?
  intro j
  by_cases hj : j < n
  · unfold iv
    rw [rowV_get hj, List.getElem?_map, List.getElem?_eq_getElem (by omega), List.getD_eq_getElem?_getD, List.getElem?_eq_getElem (by omega)]
    rfl
  · rw [List.getElem?_eq_none (by rw [rowV_length]; omega), List.getElem?_eq_none (by rw [iv_length]; omega)]
theorem tabR_lit {K : PySem.W.Frag} {H : Hp} {t : Addr} {rs : List Addr} (ls : List (List Int)) (top : H t = some (.lst (rs.map V.ref))) (hsq : ∀ l ∈ ls, l.length = ls.length) (hr : Paired (fun r l => H r = some (.lst (iv l))) rs ls) : TabR K H (.ref t) ls.length (litF ls) := by
  refine ⟨t, rs, rfl, Paired.len hr, sq_of top, fun i r h => ?_⟩
  obtain ⟨l, h1, h2⟩ := Paired.get hr h
  have e : rowV ls.length (litF ls i) = iv l := by
    rw [← rowV_lit (hsq l (List.mem_of_getElem? h1))]
    refine rowV_congr fun j _ => ?_
    unfold litF
    rw [show ls.getD i [] = l by rw [List.getD_eq_getElem?_getD, h1]; rfl]
  rw [e]
  exact sq_of h2
end Hc
namespace Hc
open PySem PySem.Spec PyProof.Rows L2 Evl
theorem catTK {X : Cx} (K : PySem.W.Frag) (h : X.K = K := by rfl) : OpR X (binaryOp .Add) (rCatT K) := by cases h; exact op_catT
theorem ex_rem {H H' : Hp} {F : Addr} (e : Ex H H') (hF : H F = none) : Ex H (rem H' F) := fun a o ha => by
  rw [rem_ne (ne_of_fresh ha hF)]
  exact e a o ha
end Hc
namespace Hc
open PySem PySem.Spec PyProof.Rows L2 Evl
/-! ### a list of lists of ballots that grows -/
def GoodB (H : Hp) (x : V) : Prop := ∃ bs, BalsW H x bs ∧ bs.length ≤ 100 ∧ ∀ b ∈ bs, b.1.length < 60
theorem GoodB.mono {H H' : Hp} {x : V} (h : GoodB H x) (e : Ex H H') : GoodB H' x := by
  obtain ⟨bs, h1, h2, h3⟩ := h
  exact ⟨bs, h1.mono e, h2, h3⟩
def Tried (H : Hp) (F : Addr) (k : Nat) : Prop := ∃ xs, H F = some (.lst xs) ∧ xs.length ≤ k ∧ ∀ x ∈ xs, GoodB (rem H F) x
theorem Tried.push {H' H'' : Hp} {F : Addr} {k : Nat} {xs : List V} {p : V} (hl : xs.length ≤ k) (h : ∀ x ∈ xs, GoodB (rem H' F) x) (e : Ex H' H'') (hp : GoodB (rem H'' F) p) : Tried (upd H'' F (.lst (xs ++ [p]))) F (k + 1) := by
  refine ⟨_, upd_same, by rw [List.length_append]; show _ + 1 ≤ _; omega, fun x hx => ?_⟩
  rw [rem_upd]
  rcases List.mem_append.mp hx with hx | hx
  · exact (h x hx).mono (rem_mono e)
  · have : x = p := by simpa using hx
    rw [this]
    exact hp
theorem BalsN.remW {H0 H : Hp} {F D : Addr} {ts ls : List Addr} {bs : List (List Nat × Int)} (B : BalsN H0 H D ts ls bs) (hF : H0 F ≠ none) : BalsW (Hc.rem H F) (.ref D) bs := by
  have ne : ∀ a, H0 a = none → a ≠ F := fun a h e => hF (by rw [← e]; exact h)
  refine ⟨D, _, rfl, by rw [rem_ne (ne _ B.fD)]; exact B.top, pairedW_of ts ls bs B.lt B.ll fun i t l b ht hl hb => ?_⟩
  rw [rem_ne (ne _ (B.ft t (List.mem_of_getElem? ht))), rem_ne (ne _ (B.fl l (List.mem_of_getElem? hl)))]
  exact B.at_ i t l b ht hl hb
/-- ballots and more behind -/
theorem goodB_cat {H : Hp} {a : Addr} {xs ys : List V} {bs cs : List (List Nat × Int)} (h : H a = some (.lst (xs ++ ys))) (h1 : Paired (BalW H) xs bs) (h2 : Paired (BalW H) ys cs) (hl : bs.length + cs.length ≤ 100) (k1 : ∀ b ∈ bs, b.1.length < 60) (k2 : ∀ b ∈ cs, b.1.length < 60) : GoodB H (.ref a) :=
  ⟨bs ++ cs, ⟨a, _, rfl, h, Paired.append h1 h2⟩, by rw [List.length_append]; exact hl, fun b hb => (List.mem_append.mp hb).elim (k1 b) (k2 b)⟩
theorem rep_nv (n : Nat) : (List.replicate n [V.int 0]).flatten = nv (List.replicate n 0) := by
  unfold nv
  rw [List.map_replicate]
  induction n with
  | zero => rfl
  | succ n ih => rw [List.replicate_succ, List.flatten_cons, ih, List.replicate_succ]; rfl
end Hc
namespace Hc
open PySem PySem.Spec PyProof.Rows L2 Evl
theorem named {H H' : Hp} (e : Ex H H') : ∃ H5, H5 = H' := ⟨_, rfl⟩
end Hc

/-! Plain laws of rings and of lists without a thing twice: no program in sight. -/
namespace Hc
theorem perm_of_sub : ∀ (d l : List Int), d.Nodup → (∀ x ∈ d, x ∈ l) → l.length ≤ d.length → d.Perm l
  | [], l, _, _, hl => by
    have : l = [] := List.length_eq_zero_iff.mp (by simpa using hl)
    rw [this]
  | x :: d, l, hd, hs, hl => by
    rw [List.nodup_cons] at hd
    have hx : x ∈ l := hs x (List.mem_cons_self ..)
    have h1 : l.Perm (x :: l.erase x) := List.perm_cons_erase hx
    have h2 : d.Perm (l.erase x) := by
      refine perm_of_sub d (l.erase x) hd.2 (fun y hy => ?_) ?_
      · have hy2 : y ∈ l := hs y (List.mem_cons_of_mem _ hy)
        have hne : y ≠ x := fun e => hd.1 (e ▸ hy)
        exact (List.mem_erase_of_ne hne).mpr hy2
      · rw [List.length_erase_of_mem hx]
        have : l.length ≤ d.length + 1 := by simpa using hl
        omega
    exact (h2.cons x).trans h1.symm
theorem sub_len (d l : List Int) (hd : d.Nodup) (hs : ∀ x ∈ d, x ∈ l) : d.length ≤ l.length := by
  induction d generalizing l with
  | nil => simp
  | cons x d ih =>
    rw [List.nodup_cons] at hd
    have hx : x ∈ l := hs x (List.mem_cons_self ..)
    have h2 := ih (l.erase x) hd.2 (fun y hy => by
      have hy2 : y ∈ l := hs y (List.mem_cons_of_mem _ hy)
      have hne : y ≠ x := fun e => hd.1 (e ▸ hy)
      exact (List.mem_erase_of_ne hne).mpr hy2)
    rw [List.length_erase_of_mem hx] at h2
    have := List.length_pos_of_mem hx
    rw [List.length_cons]
    omega
theorem set_len {d l : List Int} (hd : d.Nodup) (hm : ∀ x, x ∈ d ↔ x ∈ l) : d.length = l.length ↔ l.Nodup := by
  constructor
  · intro h
    exact (perm_of_sub d l hd (fun x hx => (hm x).mp hx) (by omega)).nodup hd
  · intro h
    exact ((List.perm_ext_iff_of_nodup hd h).mpr hm).length_eq
/-! ### around -/
def at0 (ns : List Int) (i : Nat) : Int := ns.getD i 0
def ringBack (f : Nat → Nat → Int) (ns : List Int) : Bool := (List.range ns.length).all fun i => decide (0 < f (at0 ns (if i = 0 then ns.length - 1 else i - 1)).toNat (at0 ns i).toNat)
def ringFore (f : Nat → Nat → Int) (ns : List Int) : Bool := (List.range ns.length).all fun i => decide (0 < f (at0 ns i).toNat (at0 ns (if i + 1 = ns.length then 0 else i + 1)).toNat)
theorem ring_turn (f : Nat → Nat → Int) (ns : List Int) : ringBack f ns = ringFore f ns := by
  unfold ringBack ringFore
  rw [Bool.eq_iff_iff, List.all_eq_true, List.all_eq_true]
  constructor
  · intro h i hi
    rw [List.mem_range] at hi
    by_cases e : i + 1 = ns.length
    · have h1 := of_decide_eq_true (h 0 (List.mem_range.mpr (by omega)))
      rw [if_pos rfl] at h1
      rw [if_pos e]
      rw [show ns.length - 1 = i by omega] at h1
      exact decide_eq_true h1
    · have h1 := of_decide_eq_true (h (i + 1) (List.mem_range.mpr (by omega)))
      rw [if_neg (by omega), show i + 1 - 1 = i by omega] at h1
      rw [if_neg e]
      exact decide_eq_true h1
  · intro h i hi
    rw [List.mem_range] at hi
    by_cases e : i = 0
    · subst e
      have h1 := of_decide_eq_true (h (ns.length - 1) (List.mem_range.mpr (by omega)))
      rw [if_pos (by omega)] at h1
      rw [if_pos rfl]
      exact decide_eq_true h1
    · have h1 := of_decide_eq_true (h (i - 1) (List.mem_range.mpr (by omega)))
      rw [if_neg (by omega), show i - 1 + 1 = i by omega] at h1
      rw [if_neg e]
      exact decide_eq_true h1
def inB (n : Nat) (k : Int) : Bool := decide (0 ≤ k) && decide (k < (n : Int))
def shN (n : Nat) (f : Nat → Nat → Int) (w : Int) : Bool := inB n w && (List.range n).all fun j => decide (0 ≤ f w.toNat j)
def shR (n : Nat) (f : Nat → Nat → Int) (ns : List Int) : Bool := !ns.isEmpty && (decide ns.Nodup && (ns.all (inB n) && ringBack f ns))
end Hc

/-! Plain laws of strongest chains: no program in sight. -/
namespace Hc
/-- one more candidate let in between -/
def phase (m : Nat) (g : Nat → Nat → Int) (i j : Nat) : Int := if i ≠ j ∧ m ≠ i ∧ m ≠ j then max (g i j) (min (g i m) (g m j)) else g i j
def wid (f : Nat → Nat → Int) : Nat → Nat → Nat → Int
  | 0 => f
  | m + 1 => phase m (wid f m)
theorem phase_col (m : Nat) (g : Nat → Nat → Int) (i : Nat) : phase m g i m = g i m := if_neg fun h => h.2.2 rfl
theorem phase_row (m : Nat) (g : Nat → Nat → Int) (j : Nat) : phase m g m j = g m j := if_neg fun h => h.2.1 rfl
theorem phase_ge (m : Nat) (g : Nat → Nat → Int) (i j : Nat) : g i j ≤ phase m g i j := by
  unfold phase
  split <;> omega
/-- chains over those let in are no stronger -/
def Closed (m : Nat) (g : Nat → Nat → Int) : Prop := ∀ i j k, k < m → i ≠ j → k ≠ i → k ≠ j → min (g i k) (g k j) ≤ g i j
theorem closed_phase {m : Nat} {g : Nat → Nat → Int} (h : Closed m g) : Closed (m + 1) (phase m g) := fun i j k hk hij hki hkj => by
  by_cases e : k = m
  · subst e
    rw [phase_col, phase_row]
    unfold phase
    rw [if_pos ⟨hij, hki, hkj⟩]
    omega
  · have hkm : k < m := by omega
    have h1 := h i j k hkm hij hki hkj
    by_cases ei : i = m
    · subst ei
      rw [phase_row, phase_row]
      unfold phase
      rw [if_pos ⟨hkj, hki.symm, hij⟩]
      omega
    · by_cases ej : j = m
      · subst ej
        rw [phase_col, phase_col]
        unfold phase
        rw [if_pos ⟨hki.symm, fun q => hij q.symm, hkj.symm⟩]
        omega
      · have h2 := h i m k hkm ei hki e
        have h3 := h m j k hkm (fun q => ej q.symm) e hkj
        unfold phase
        rw [if_pos ⟨hki.symm, fun q => ei q.symm, fun q => e q.symm⟩, if_pos ⟨hkj, fun q => e q.symm, fun q => ej q.symm⟩, if_pos ⟨hij, fun q => ei q.symm, fun q => ej q.symm⟩]
        omega
theorem closed_wid (f : Nat → Nat → Int) : ∀ m, Closed m (wid f m)
  | 0 => fun _ _ _ h => by omega
  | m + 1 => closed_phase (closed_wid f m)
theorem wid_ge (f : Nat → Nat → Int) (i j : Nat) : ∀ m, f i j ≤ wid f m i j
  | 0 => Int.le_refl _
  | m + 1 => Int.le_trans (wid_ge f i j m) (phase_ge m _ i j)
theorem wid_self (f : Nat → Nat → Int) (i : Nat) : ∀ m, wid f m i i = f i i
  | 0 => rfl
  | m + 1 => by
    show phase m (wid f m) i i = f i i
    unfold phase
    rw [if_neg (fun h => h.1 rfl)]
    exact wid_self f i m
/-- whom chains reach whose numbers are all no less than L -/
inductive Reach (n : Nat) (f : Nat → Nat → Int) (L : Int) (i : Nat) : Nat → Prop where
  | me : Reach n f L i i
  | on {k j : Nat} (h : Reach n f L i k) (hk : k < n) (hj : j < n) (e : L ≤ f k j) : Reach n f L i j
theorem Reach.trans {n : Nat} {f : Nat → Nat → Int} {L : Int} {i k j : Nat} (a : Reach n f L i k) (b : Reach n f L k j) : Reach n f L i j := by
  induction b with
  | me => exact a
  | on _ hk hj e ih => exact .on ih hk hj e
theorem wid_reach {n : Nat} {f : Nat → Nat → Int} {L : Int} : ∀ m, m ≤ n → ∀ i j, i < n → j < n → i ≠ j → L ≤ wid f m i j → Reach n f L i j
  | 0, _, i, j, hi, hj, _, h => .on .me hi hj h
  | m + 1, hm, i, j, hi, hj, hij, h => by
    have h2 : L ≤ phase m (wid f m) i j := h
    unfold phase at h2
    by_cases c : i ≠ j ∧ m ≠ i ∧ m ≠ j
    · rw [if_pos c] at h2
      by_cases c2 : L ≤ wid f m i j
      · exact wid_reach m (by omega) i j hi hj hij c2
      · exact (wid_reach m (by omega) i m hi (by omega) (fun q => c.2.1 q.symm) (by omega)).trans (wid_reach m (by omega) m j (by omega) hj c.2.2 (by omega))
    · rw [if_neg c] at h2
      exact wid_reach m (by omega) i j hi hj hij h2
theorem reach_wid {n : Nat} {f : Nat → Nat → Int} {L : Int} {i j : Nat} (h : Reach n f L i j) : i ≠ j → L ≤ wid f n i j := by
  induction h with
  | me => exact fun h => absurd rfl h
  | @on k j h hk hj e ih =>
    intro hij
    have h1 : L ≤ wid f n k j := Int.le_trans e (wid_ge f k j n)
    by_cases c : i = k
    · subst c
      exact h1
    · by_cases c2 : k = j
      · subst c2
        exact ih c
      · have h2 := ih c
        have h3 := closed_wid f n i j k hk hij (fun q => c q.symm) c2
        omega
/-- each strength is one of the numbers -/
theorem wid_mem (f : Nat → Nat → Int) (n : Nat) : ∀ m, m ≤ n → ∀ i j, i < n → j < n → i ≠ j → ∃ a b, a < n ∧ b < n ∧ a ≠ b ∧ wid f m i j = f a b
  | 0, _, i, j, hi, hj, hij => ⟨i, j, hi, hj, hij, rfl⟩
  | m + 1, hm, i, j, hi, hj, hij => by
    show ∃ a b, a < n ∧ b < n ∧ a ≠ b ∧ phase m (wid f m) i j = f a b
    unfold phase
    by_cases c : i ≠ j ∧ m ≠ i ∧ m ≠ j
    · rw [if_pos c]
      by_cases c1 : min (wid f m i m) (wid f m m j) ≤ wid f m i j
      · rw [show max (wid f m i j) (min (wid f m i m) (wid f m m j)) = wid f m i j by omega]
        exact wid_mem f n m (by omega) i j hi hj hij
      · by_cases c2 : wid f m i m ≤ wid f m m j
        · rw [show max (wid f m i j) (min (wid f m i m) (wid f m m j)) = wid f m i m by omega]
          exact wid_mem f n m (by omega) i m hi (by omega) fun q => c.2.1 q.symm
        · rw [show max (wid f m i j) (min (wid f m i m) (wid f m m j)) = wid f m m j by omega]
          exact wid_mem f n m (by omega) m j (by omega) hj c.2.2
    · rw [if_neg c]
      exact wid_mem f n m (by omega) i j hi hj hij
/-! ### an order -/
/-- stronger there than back goes on -/
theorem beats_trans {n : Nat} {p : Nat → Nat → Int} (h : Closed n p) {a b c : Nat} (ha : a < n) (hb : b < n) (hc : c < n) (h1 : p b a < p a b) (h2 : p c b < p b c) : p c a < p a c := by
  have n1 : a ≠ b := fun e => by subst e; omega
  have n2 : b ≠ c := fun e => by subst e; omega
  by_cases n3 : a = c
  · subst n3
    omega
  · have k1 := h a c b hb n3 (fun e => n1 e.symm) n2
    have k2 := h b a c hc (fun e => n1 e.symm) (fun e => n2 e.symm) (fun e => n3 e.symm)
    have k3 := h c b a ha (fun e => n2 e.symm) n3 n1
    omega
theorem free_one {n : Nat} {p : Nat → Nat → Int} (h : Closed n p) : ∀ l : List Nat, l ≠ [] → (∀ x ∈ l, x < n) → ∃ x ∈ l, ∀ y ∈ l, p y x ≤ p x y
  | [], h0, _ => absurd rfl h0
  | [a], _, _ => ⟨a, by simp, fun y hy => by
    have : y = a := by simpa using hy
    rw [this]
    exact Int.le_refl _⟩
  | a :: b :: l, _, hl => by
    obtain ⟨x, hx, hm⟩ := free_one h (b :: l) (by simp) fun z hz => hl z (List.mem_cons_of_mem _ hz)
    have hxn := hl x (List.mem_cons_of_mem _ hx)
    have han := hl a (List.mem_cons_self ..)
    by_cases c : p a x ≤ p x a
    · exact ⟨x, List.mem_cons_of_mem _ hx, fun y hy => (List.mem_cons.mp hy).elim (fun e => e ▸ c) (hm y)⟩
    · refine ⟨a, List.mem_cons_self .., fun y hy => ?_⟩
      rcases List.mem_cons.mp hy with e | hy
      · rw [e]
        exact Int.le_refl _
      · by_cases c2 : p y a ≤ p a y
        · exact c2
        · have k := beats_trans h (hl y (List.mem_cons_of_mem _ hy)) han hxn (by omega) (by omega)
          have := hm y hy
          omega
def isFree (p : Nat → Nat → Int) (l : List Nat) (x : Nat) : Bool := l.all fun y => decide (p y x ≤ p x y)
/-- the first free one, then the rest -/
def ordGo (p : Nat → Nat → Int) : Nat → List Nat → List Nat
  | 0, _ => []
  | k + 1, l => match l.find? (isFree p l) with
    | some x => x :: ordGo p k (l.erase x)
    | none => []
def ordF (p : Nat → Nat → Int) (n : Nat) : List Nat := ordGo p n (List.range n)
theorem ordGo_good {n : Nat} {p : Nat → Nat → Int} (h : Closed n p) : ∀ (k : Nat) (l : List Nat), l.length = k → (∀ x ∈ l, x < n) → (ordGo p k l).Perm l ∧ (ordGo p k l).Pairwise fun a b => p b a ≤ p a b
  | 0, l, hk, _ => by
    rw [List.length_eq_zero_iff.mp hk]
    exact ⟨List.Perm.refl _, List.Pairwise.nil⟩
  | k + 1, l, hk, hl => by
    obtain ⟨x, hx, hm⟩ := free_one h l (fun e => by rw [e] at hk; simp at hk) hl
    have hfx : isFree p l x = true := List.all_eq_true.mpr fun y hy => decide_eq_true (hm y hy)
    show (match l.find? (isFree p l) with | some x => x :: ordGo p k (l.erase x) | none => []).Perm l ∧ List.Pairwise _ (match l.find? (isFree p l) with | some x => x :: ordGo p k (l.erase x) | none => [])
    cases hf : l.find? (isFree p l) with
    | none => exact absurd hfx (by simpa using List.find?_eq_none.mp hf x hx)
    | some z =>
      have hz : z ∈ l := List.mem_of_find?_eq_some hf
      have hzf := List.find?_some hf
      obtain ⟨i1, i2⟩ := ordGo_good h k (l.erase z) (by rw [List.length_erase_of_mem hz, hk]; rfl) fun y hy => hl y (List.mem_of_mem_erase hy)
      refine ⟨(i1.cons z).trans (List.perm_cons_erase hz).symm, List.pairwise_cons.mpr ⟨fun y hy => ?_, i2⟩⟩
      exact of_decide_eq_true (List.all_eq_true.mp hzf y (List.mem_of_mem_erase (i1.mem_iff.mp hy)))
theorem ordF_good (f : Nat → Nat → Int) (n : Nat) : (ordF (wid f n) n).Perm (List.range n) ∧ (ordF (wid f n) n).Pairwise fun a b => wid f n b a ≤ wid f n a b :=
  ordGo_good (closed_wid f n) n _ List.length_range fun x hx => List.mem_range.mp hx
/-! ### the strengths, one after the other -/
/-- what stands in a cell when the first k numbers of a rising list are done -/
def cur (w : Nat → Nat → Int) (ls : List Int) : Nat → Nat → Nat → Int
  | 0, _, _ => 0
  | k + 1, i, j => if i ≠ j ∧ ls.getD k 0 ≤ w i j then ls.getD k 0 else cur w ls k i j
theorem cur_self (w : Nat → Nat → Int) (ls : List Int) (i : Nat) : ∀ k, cur w ls k i i = 0
  | 0 => rfl
  | k + 1 => by
    show (if i ≠ i ∧ _ then _ else _) = _
    rw [if_neg (fun h => h.1 rfl)]
    exact cur_self w ls i k
theorem cur_end {w : Nat → Nat → Int} {ls : List Int} {i j : Nat} (hs : ls.Pairwise (· < ·)) (hij : i ≠ j) (hm : w i j ∈ ls) : cur w ls ls.length i j = w i j := by
  obtain ⟨p, hp, e⟩ := List.mem_iff_getElem.mp hm
  have at_ : ∀ q (hq : q < ls.length), ls.getD q 0 = ls[q] := fun q hq => by
    rw [List.getD_eq_getElem?_getD, List.getElem?_eq_getElem hq]
    rfl
  have up : ∀ k, p < k → k ≤ ls.length → cur w ls k i j = w i j := by
    intro k
    induction k with
    | zero => omega
    | succ k ih =>
      intro h1 h2
      show (if i ≠ j ∧ ls.getD k 0 ≤ w i j then ls.getD k 0 else cur w ls k i j) = w i j
      rw [at_ k (by omega)]
      by_cases c : k = p
      · subst c
        rw [if_pos ⟨hij, by omega⟩, e]
      · have := List.pairwise_iff_getElem.mp hs p k hp (by omega) (by omega)
        rw [if_neg (by omega)]
        exact ih (by omega) (by omega)
  exact up ls.length hp (Nat.le_refl _)
end Hc

/-! min(xs, key=len) of a list of lists -/
namespace Hc
open PySem PySem.Spec PyProof.Rows L2 Att
/-- the first of the shortest -/
def rMinLen (K : PySem.W.Frag) : V → Hp → VK → Prop := fun x H Q => ∃ (l : Addr) (ps : List Addr) (ls : List (List V)), x = .ref l ∧ SqL K H l (ps.map V.ref) ∧ 0 < ps.length ∧ Paired (fun p xs => SqL K H p xs) ps ls ∧
  ∀ i p, ps[i]? = some p → (∀ j, j < ps.length → (ls.getD i []).length ≤ (ls.getD j []).length ∧ (j < i → (ls.getD i []).length < (ls.getD j []).length)) → Q (.ref p) H
def tMinLen (K : PySem.W.Frag) (t : TA) : TE := fun σ H Q => t σ H fun vs H1 => ∃ x, vs = [x] ∧ rMinLen K x H1 Q
section
variable {X : Cx} {pins : List (Addr × Obj)} {σ : L2.St} {H : Hp} {s : Shared}
/-- all but the frame's own object is kept, and the frame's map -/
theorem Inv.calmed {h' : Heap} {t' : Nat} {m : Str → Option Value} (I : L2.Inv X pins σ H s) (old : s.heap.Ns X.env.locals m) (new : h'.Ns X.env.locals m) (keep : ∀ b o, b ≠ X.env.locals → s.heap.get? b = some o → h'.get? b = some o) :
    L2.Inv X pins σ H { s with heap := h', toks := t' } := by
  have nl : ∀ b u, H b = some u → b ≠ X.env.locals := fun b u e z => by
    rw [z, I.free] at e
    cases e
  refine I.step (g' := s.gens) (d' := s.drawn) (ch := []) (fun _ z => nomatch z) (fun b o n _ _ e _ => keep b o n e) (fun b o n _ _ e _ => ⟨o.slots, keep b o n e⟩) (fun _ _ _ _ n => n) (fun b o _ e => ?_) (fun _ _ e => e) (fun _ _ _ e => e) (fun b ps e => ⟨#[], by rw [e]; simp⟩) (fun m' h => ?_) (fun b u e => ?_) I.bare
  · by_cases z : b = X.env.locals
    · obtain ⟨o', _, _, e', _⟩ := new
      exact ⟨o', by rw [z]; exact e'⟩
    · exact ⟨o, keep b o z e⟩
  · rw [h.eq_nsMap, ← old.eq_nsMap]
    exact new
  · refine (I.hok b u e).stay (fun c v hc q => keep c v ?_ q) (fun _ q => q) fun _ _ q => q
    rcases hc with z | z
    · rw [z]
      exact nl b u e
    · exact nl c _ z
theorem refs_only : ∀ {ps : List Addr} {us : List Value}, Vals (ps.map V.ref) us → us = ps.map Value.ref
  | [], _, .nil => rfl
  | p :: ps, _, .cons r rs => by rw [refs_only rs, show _ = Value.ref p from r]; rfl
/-- a list is no frame -/
theorem list_off {a : Addr} {xs : List V} (I : L2.Inv X pins σ H s) (h : SqL X.K H a xs) : ∃ (o : Obj) (us : List Value), s.heap.get? a = some o ∧ a ≠ X.env.locals ∧ us.length = xs.length ∧ xs.length ≤ sizeLine ∧ Vals xs us ∧ ∀ g : Heap, g.get? a = some o → g.IsList a us.toArray := by
  obtain ⟨us, rv, ⟨o, n, e, c, _, d⟩, z⟩ := I.list h
  obtain ⟨m, ⟨o', es, ep, e', d', _⟩, _⟩ := id I.loc
  refine ⟨o, us, e, fun z => ?_, rv.length.symm, z, rv, fun g eg => ⟨o, eg, c, n, d⟩⟩
  rw [z, e'] at e
  cases e
  rw [d'] at d
  cases d
theorem min_len {x : V} {v : Value} {Q : VK} (hc : X.calm = true) (I : L2.Inv X pins σ H s) (rx : RelV x v) (r : rMinLen X.K x H Q) : wpAny (model X.prog X.w) X.A (call (.builtin "min") [v] [(Str.ofString "key", .builtin "len")]) (EP X pins σ Q) X.xe s := by
  obtain ⟨l, ps, ls, rfl, hs, ne, hp, want⟩ := r
  obtain rfl : v = .ref l := rx
  obtain ⟨m, hm, _⟩ := id I.loc
  obtain ⟨o, us, e1, n1, _, _, rv, is1⟩ := list_off I hs
  have hus := refs_only rv
  have inAll : ∀ {a : Addr} {o : Obj} {h : Heap} {own : List (Addr × Obj)}, a ≠ X.env.locals → s.heap.get? a = some o → News (noObjs s.heap) X.env.locals h (allNews (noObjs s.heap) s.heap X.env.locals ++ own) → h.get? a = some o := fun n e N => (N _ (List.mem_append_left _ (mem_allNews n (noObjs_get _ _) e))).1
  have bare : ∀ {h : Heap}, News (noObjs s.heap) X.env.locals h (allNews (noObjs s.heap) s.heap X.env.locals) → News (noObjs s.heap) X.env.locals h (allNews (noObjs s.heap) s.heap X.env.locals ++ []) := fun N => by rw [List.append_nil]; exact N
  have at_ : ∀ {i : Nat} {v : Value}, us[i]? = some v → ∃ p xs, ps[i]? = some p ∧ v = .ref p ∧ ls[i]? = some xs ∧ SqL X.K H p xs := fun {i v} h => by
    rw [hus, List.getElem?_map] at h
    cases h1 : ps[i]? with
    | none => rw [h1] at h; cases h
    | some p =>
      rw [h1] at h
      obtain ⟨xs, h2, h3⟩ := Paired.get hp h1
      exact ⟨p, xs, rfl, (Option.some.inj h).symm, h2, h3⟩
  have len : us.length = ps.length := by rw [hus, List.length_map]
  refine kmb_min (kid := "len") (vs := us) (fun i => ((ls.getD i []).length : Int)) (I.ok.hd hc) (fr_all hm) (news := allNews (noObjs s.heap) s.heap X.env.locals) news_all (fun h _ N => is1 h (inAll n1 e1 (bare N))) (by omega) (fun i v hv h tk own F N => ?_) fun i v h' tk' hv best F N => ?_
  · obtain ⟨p, xs, h1, rfl, h2, h3⟩ := at_ hv
    obtain ⟨o2, us2, e2, n2, l2, z2, _, is2⟩ := list_off I h3
    refine Calls.call_len_list (is2 h (inAll n2 e2 N)) (by rw [List.size_toArray, l2]; rw [sizeLine_eq] at z2; omega) ⟨h, _, tk + 1, rfl, ?_, F, N⟩
    rw [List.getD_eq_getElem?_getD, h2, List.size_toArray, l2]
    rfl
  · obtain ⟨p, xs, h1, rfl, h2, h3⟩ := at_ hv
    refine ⟨.ref p, H, Inv.calmed I hm F.ns fun b u n e => inAll n e (bare N), rfl, want i p h1 fun j hj => ?_⟩
    have := best j (by omega)
    omega
theorem pe_minLen {e : Expr} {t : TA} {p p2 p3 pos : Pos} (ha : PA X [e] t) (g1 : Gl X "min") (m1 : X.mg "min" = none) (g2 : Gl X "len") (m2 : X.mg "len" = none) (hc : X.calm = true := by rfl) (hst : backTo pos (starEach [e] X.env) = (false, eval e X.env) :: backTo pos (starEach [] X.env) := by rfl) (hpl : (backTo pos (starEach [e] X.env)).any (·.1) = false := by rfl) :
    PE X (.Call (.Name "min" p) [e] [⟨some "key", .Name "len" p2, p3⟩] pos) (tMinLen X.K t) := by
  refine ⟨fun pins s σ H Q I h => ?_⟩
  refine wpAny_Call_Name_kw (ld_blt I g1 m1 PyProof.Rows.boot_min ?_)
  refine PyProof.Rows.callWith_kw (thn (ha.run pos pins s σ H _ I h) fun us s1 ⟨vs, H1, I1, r1, x, e1, q1⟩ => ?_) hst hpl rfl rfl
  subst e1
  obtain ⟨u, rfl, ru⟩ := r1.one
  refine wpAny_evalAll_cons (wpAny_bind (ld_blt I1 g2 m2 PySem.boot_len (wpAny_bind (wpAny_standAt (wpAny_pure (wpAny_evalAll_nil ?_))))))
  exact min_len hc I1 ru q1
end
end Hc

/-! sorted(range(n), key=lambda x: -cs[x]) -/
namespace Hc
open PySem PySem.Spec PyProof.Rows L2 LamX Evl
section
variable {P : Program} {w : World} {A : Around} {sh : Shared} {fa c' cc l : Addr} {qual : Str} {params : Arguments} {scope : Scope} {cl : List (Str × Addr)} {pm ctv : Value} {p1 p2 p3 p4 : Pos} {i : Nat} {tk : Tok} {its : Array Value} {z : Int} {tz : Tok}
abbrev negBody (p1 p2 p3 p4 : Pos) : Expr := .UnaryOp .USub (.Subscript (.Name "_law_counts" p1) (.Name "_law_one" p2) p3) p4
/-- the lambda is called -/
theorem lam_neg (room : A.depth < recursionLimit) (lim : sh.heap.NoLimit) (ho : sh.heap.get? fa = some (PySem.W.kla_obj "<lambda>" qual params (negBody p1 p2 p3 p4) scope cl pm c' ctv)) (hcd : sh.heap.CodeRec (.ref c') qual)
    (hb : bindArgs (PySem.W.kla_fn "<lambda>" qual params (negBody p1 p2 p3 p4) scope cl pm (.ref c') ctv) ⟨[.int i tk], []⟩ = pure [(Str.ofString "_law_one", .int i tk)])
    (hk : scope.kind = .function) (hco : scope.isCoroutine = false) (hgen : scope.isGenerator = false) (hcell : ∀ y ∈ scope.names, y.2 ≠ .cell) (hx : scope.names.lookup (Str.ofString "_law_one") = some .local) (hcs : scope.names.lookup (Str.ofString "_law_counts") = some .free)
    (hcl : cl.lookup (Str.ofString "_law_counts") = some cc) (hcc : sh.heap.IsCell cc (some (.ref l))) (hl : sh.heap.IsList l its) (hi : i < 1000) (hz : its[i]? = some (.int z tz)) :
    wpAny (model P w) A (call (.ref fa) [.int i tk]) (PySem.W.KeyPure (.int (-z)) sh) (fun _ _ => False) sh := by
  apply wpAny_call
  apply PySem.W.kla_callFunE room ho rfl hco hgen rfl hcd
  rw [hb]
  apply wpAny_pure
  apply wpAny_newFunctionEnv hcell (fun y hy => by
    have : y = (Str.ofString "_law_one", Value.int i tk) := by simpa using hy
    rw [this]
    exact hx) (hk := hk)
  intro h1 ns same
  refine ⟨lim.fresh _ same, ?_⟩
  have keep : ∀ b o, sh.heap.get? b = some o → h1.get? b = some o := fun b o e => same.extBut b o (Nat.ne_of_lt (Heap.lt_size e)) (Heap.get?_push_of_some _ e)
  apply PySem.W.kla_codeExpr
  apply wpAny_UnaryOp
  apply wpAny_Subscript_Name PySem.F.slot_list_getitem.lookup
  obtain ⟨oc, ec, dc⟩ := hcc
  obtain ⟨ol, el, cll, nn, dl⟩ := hl
  refine wpAny_Name (wpAny_loadName_free hk hcs hcl ⟨oc, keep _ _ ec, dc⟩ ?_)
  refine wpAny_Name (wpAny_loadName_local hk hx ns rfl ?_)
  refine ⟨⟨ol, keep _ _ el, cll⟩, wpAny_getItem_list ⟨ol, keep _ _ el, cll, nn, dl⟩ (by omega) ?_ (by simpa using hz) ?_⟩
  · have : (1000 : Int) < 2 ^ 63 := by decide
    omega
  · refine PySem.P.neg_int ⟨h1, _, rfl, keep, ?_⟩
    exact Reads.int _ _
end
open PySem.W
section
variable {P : Program} {w : World} {A : Around} {E : Value → Shared → Prop} {sh : Shared} {r fn : Addr} {n : Nat} {t u v : Tok} {g : Nat → Int}
theorem each_range {R : Value → Nat → Prop} : ∀ {l : List Value} {m : Nat}, l.length = m → (∀ j v, l[j]? = some v → R v j) → EachIs R l (List.range m) := by
  have go : ∀ (l : List Value) (k : Nat), (∀ j v, l[j]? = some v → R v (k + j)) → EachIs R l (List.range' k l.length) := by
    intro l
    induction l with
    | nil => exact fun _ _ => .nil
    | cons a l ih =>
      intro k h
      exact .cons (h 0 a rfl) (ih (k + 1) fun j v hj => by
        have := h (j + 1) v (by simpa using hj)
        rwa [show k + (j + 1) = k + 1 + j by omega] at this)
  intro l m hm h
  rw [List.range_eq_range', ← hm]
  exact go l 0 fun j v hj => by rw [Nat.zero_add]; exact h j v hj
/-- sorted(range(n), key=fn): by whole numbers -/
theorem sorted_rangeK {Q : Value → Shared → Prop} (hh : A.handled = none) (hr : IsRange sh.heap r 0 n 1 t u v) (hn : n ≤ 1000) (hu : A.units + 3 < cLine)
    (turn : ∀ (i : Nat) (ti : Tok), i < n → ∀ (h : Heap) (tk : Nat), (∀ b o, sh.heap.get? b = some o → h.get? b = some o) → wpAny (model P w) A.in1.in1 (call (.ref fn) [.int i ti]) (KeyPure (.int (g i)) { sh with heap := h, toks := tk }) (fun _ _ => False) { sh with heap := h, toks := tk })
    (done : ∀ (out : List Value) (c : Nat) (h' : Heap) (tk : Nat) (p : Addr), (∀ b o, sh.heap.get? b = some o → h'.get? b = some o) → sh.heap.get? p = none → h'.get? p = some (seqObj "list" out.toArray c) → out.length = n →
      EachIs (fun v (i : Nat) => ∃ t, v = Value.int (i : Int) t) out ((List.range n).mergeSort (dataLe false fun i => PyData.int (g i))) → Q (.ref p) { sh with heap := h', toks := tk }) :
    wpAny (model P w) A (call (.builtin "sorted") [.ref r] [(Str.ofString "key", .ref fn)]) Q E sh := by
  apply call_function_entry_kw kind_sorted plain_sorted entry_sorted (ksk_s1 _ _)
  unfold Builtin.«sorted»
  apply wpAny_bind (m := checkCount "sorted" 1 1 _)
  apply wpAny_pure
  apply wpAny_bind
  obtain ⟨b1, b2, b3, b4, _⟩ : RgOk 0 (n : Int) := rgOk_nat hn
  refine collect_range (n := n) hh hr (small_one b1 b2 b3 b4) ?_ (Nat.le_trans hn (by decide)) fun h1 tk1 acc keep1 items => ?_
  · have := rangeSize_nat 0 (n : Int)
    rw [this]
    omega
  have accl : acc.toList.length = n := by rw [Array.length_toList, items.1]
  have each : EachIs (fun v (i : Nat) => ∃ t, v = Value.int (i : Int) t) acc.toList (List.range n) := each_range accl fun j v hj => by
    obtain ⟨tj, ej⟩ := items.2 j v (by simpa using hj)
    exact ⟨tj, by rw [ej]; congr 1; omega⟩
  apply wpAny_bind
  refine wpAny_newList ?_ (by rw [accl, sizeLine_eq]; omega)
  have at1 : (h1.push { cls := .type "list", data := .seq acc.toList.toArray }).get? h1.objs.size = some (seqObj "list" acc.toList.toArray 0) := Heap.get?_push_size _ rfl
  have none1 : ∀ {o : Obj}, sh.heap.get? h1.objs.size = some o → False := fun e => Nat.lt_irrefl _ (Heap.lt_size (keep1 _ _ e))
  have keep2 : ∀ b o, sh.heap.get? b = some o → (h1.push { cls := .type "list", data := .seq acc.toList.toArray }).get? b = some o := fun b o e => Heap.get?_push_of_some _ (keep1 b o e)
  apply wpAny_bind
  apply wpAny_holding
  refine wpAny_call_entry_kw slot_list_sort ⟨_, at1, rfl⟩ entry_list_sort ?_ (ksk_l1 _ _)
  show wpAny (model P w) A.in1.in1 (Builtin.«list.sort» ⟨[.ref h1.objs.size], [(Str.ofString "key", .ref fn)]⟩) _ _ { sh with heap := h1.push { cls := .type "list", data := .seq acc.toList.toArray }, toks := tk1 }
  rw [ksk_t1]
  refine keyH_tree (kz := (List.range n).map fun i => PyData.int (g i)) at1 (by rw [List.length_map, List.length_range, accl]) (by rw [accl, sizeLine_eq]; omega) ?_ ?_ ?_ (keyH_turns (k := fun i => PyData.int (g i)) each ?_) ?_
  · intro d hd d' hd'
    obtain ⟨i, _, rfl⟩ := List.mem_map.mp hd
    obtain ⟨j, _, rfl⟩ := List.mem_map.mp hd'
    simp only [PySem.W.alike]
  · refine .inr fun d hd => ?_
    obtain ⟨i, _, rfl⟩ := List.mem_map.mp hd
    exact ⟨fun z => (nomatch z), fun _ z => (nomatch z)⟩
  · intro d hd
    obtain ⟨i, _, rfl⟩ := List.mem_map.mp hd
    show A.units + 2 + (PyData.int (g i)).depth < cLine
    have : (PyData.int (g i)).depth = 0 := by simp [PyData.depth]
    omega
  · rintro v i ⟨ti, rfl⟩ hi h tk kp
    refine turn i ti (List.mem_range.mp hi) h tk fun b o e => kp b o (fun z => ?_) (keep2 b o e)
    exact none1 (z ▸ e)
  · intro h' tk out c kp at' ko
    refine ⟨_, rfl, wpAny_pure ⟨_, rfl, done out c h' tk _ (fun b o e => kp b o (fun z => ?_) (keep2 b o e)) ?_ at' ?_ (keyedOut_each _ ko each)⟩⟩
    · exact none1 (z ▸ e)
    · cases q : sh.heap.get? h1.objs.size with
      | none => rfl
      | some o => exact (none1 q).elim
    · rw [ko.length (by rw [List.length_map, List.length_range, accl]), accl]
end
theorem sqN {K : PySem.W.Frag} {H H' : Hp} {a : Addr} {xs : List V} (e : ExtN H H') (h : SqL K H a xs) : SqL K H' a xs := by
  rcases h with (h | ⟨o, h⟩) | h
  · exact .inl (.inl (e _ _ h (fun _ z => nomatch z)))
  · exact .inl (.inr ⟨o, e _ _ h (fun _ z => nomatch z)⟩)
  · exact .inr h
/-- p is none of H's, but for the tables of code -/
def FrN (H : Hp) (p : Addr) : Prop := ∀ o, H p = some o → ∃ ps, o = .tbl ps
/-- which order it gives -/
theorem key_le (g : Nat → Int) (a b : Nat) : dataLe false (fun i => PyData.int (g i)) a b = decide (g a ≤ g b) := by
  show (!dataLt (PyData.int (g b)) (PyData.int (g a))) = _
  rw [dataLt_int, Bool.eq_iff_iff]
  simp
theorem key_sorted (g : Nat → Int) (n : Nat) : ((List.range n).mergeSort (dataLe false fun i => PyData.int (g i))).Perm (List.range n) ∧ ((List.range n).mergeSort (dataLe false fun i => PyData.int (g i))).Pairwise fun a b => g a ≤ g b := by
  refine ⟨List.mergeSort_perm .., ?_⟩
  have := List.pairwise_mergeSort (le := dataLe false fun i => PyData.int (g i)) (fun a b c h1 h2 => ?_) (fun a b => ?_) (List.range n)
  · exact this.imp fun h => by rw [key_le] at h; exact of_decide_eq_true h
  · rw [key_le] at h1 h2 ⊢
    have h1 := of_decide_eq_true h1
    have h2 := of_decide_eq_true h2
    exact decide_eq_true (by omega)
  · rw [key_le, key_le, Bool.or_eq_true]
    by_cases h : g a ≤ g b
    · exact .inl (decide_eq_true h)
    · exact .inr (decide_eq_true (by omega))
theorem vals_each : ∀ {out : List Value} {ks : List Nat}, EachIs (fun v (i : Nat) => ∃ t, v = Value.int (i : Int) t) out ks → Vals (nv ks) out
  | _, _, .nil => .nil
  | _, _, .cons h r => .cons h (vals_each r)
def tSortKey (K : PySem.W.Frag) (T : List (Addr × Str)) (j : Nat) (ta : TE) : TE := fun σ H Q => ta σ H fun x H1 => ∃ (n : Nat) (l : Addr) (cs : List Int), x = .int (n : Int) ∧ n ≤ 1000 ∧ σ[j]? = some (some (.ref l)) ∧ SqL K H1 l (iv cs) ∧ cs.length = n ∧ Tabs T H1 ∧
  ∀ H2 p ks, ExtN H1 H2 → Tabs T H2 → FrN H1 p → H2 p = some (.lst (nv ks)) → ks.Perm (List.range n) → ks.Pairwise (fun a b => cs.getD b 0 ≤ cs.getD a 0) → Q (.ref p) H2
section
variable {X : Cx} {a : Expr} {ta : TE} {T : List (Addr × Str)} {c P : Addr} {j k : Nat} {params : Arguments} {scope : Scope} {lpos kp p pos pr rpos p1 p2 p3 p4 : Pos}
theorem pe_sortKey (ha : PE X a ta) (hr : Room k X.A) (gs : Gl X "sorted") (ms : X.mg "sorted" = none) (gr : Gl X "range") (mr : X.mg "range" = none)
    (TB : LamX.TabB X.base X.mg c P) (hcode : X.env.code = .ref c) (hmT : (P, X.env.qual ++ "<lambda>") ∈ T) (huT : ∀ p ∈ T, p.1 = P → p.2 = X.env.qual ++ "<lambda>") (hdef : defaultsOf params X.env = ([], []))
    (hb : ∀ (qual : Str) (cl : List (Str × Addr)) (pm cd ctv v : Value), bindArgs (kla_fn "<lambda>" qual params (negBody p1 p2 p3 p4) scope cl pm cd ctv) ⟨[v], []⟩ = pure [(Str.ofString "_law_one", v)])
    (sk : scope.kind = .function) (sco : scope.isCoroutine = false) (sgen : scope.isGenerator = false) (snc : ∀ y ∈ scope.names, y.2 ≠ .cell) (sx : scope.names.lookup (Str.ofString "_law_one") = some .local) (scs : scope.names.lookup (Str.ofString "_law_counts") = some .free)
    (sfree : ∀ y ∈ scope.names, y.2 = .free → y.1 = Str.ofString "_law_counts") (hN : X.N[j]? = some (Str.ofString "_law_counts")) (hcell : X.env.scope.names.lookup (Str.ofString "_law_counts") = some .cell) (hc : X.calm = true := by rfl)
    (na : starEach [a] X.env = (false, eval a X.env) :: starEach [] X.env := by rfl)
    (hst : backTo pos (starEach [.Call (.Name "range" pr) [a] [] rpos] X.env) = (false, eval (.Call (.Name "range" pr) [a] [] rpos) X.env) :: backTo pos (starEach [] X.env) := by rfl) (hpl : (backTo pos (starEach [.Call (.Name "range" pr) [a] [] rpos] X.env)).any (·.1) = false := by rfl) :
    PE X (.Call (.Name "sorted" p) [.Call (.Name "range" pr) [a] [] rpos] [⟨some "key", .Lambda params (negBody p1 p2 p3 p4) scope lpos, kp⟩] pos) (tSortKey X.K T j ta) := by
  refine ⟨fun pins s σ H Q I h => ?_⟩
  refine wpAny_Call_Name_kw (ld_blt I gs ms PyProof.Rows.boot_sorted ?_)
  refine PyProof.Rows.callWith_kw ?_ hst hpl rfl rfl
  rw [hst]
  apply Calls.spliced_cons
  refine Call_ (ld_blt I gr mr boot_range (PyProof.Rows.callWith_type1 (one_arg ha I h (fun v s2 x H2 I2 r q => ?_) na) na))
  obtain ⟨n, l, cs, rfl, hn, hσ, hl, hcs, hT, want⟩ := q
  obtain ⟨t, rfl⟩ := r
  apply call_range_1
  apply Calls.spliced_nil
  obtain ⟨ro, hro⟩ : ∃ ro : Obj, ro = { cls := .type "range", data := .fields #[.int 0 s2.toks, .int (n : Int) t, .int 1 (s2.toks + 1)] } := ⟨_, rfl⟩
  rw [← hro]
  have keepR : ∀ b u, s2.heap.get? b = some u → (s2.heap.push ro).get? b = some u := fun b u e => Heap.get?_push_of_some _ e
  have atR : (s2.heap.push ro).get? s2.heap.objs.size = some ro := by
    subst hro
    exact Heap.get?_push_size _ rfl
  have I3k := I2.kept (t' := s2.toks + 1 + 1) keepR
  have I3 : L2.Inv X ((s2.heap.objs.size, ro) :: pins) σ H2 { s2 with heap := s2.heap.push ro, toks := s2.toks + 1 + 1 } := I3k.pins_of fun p hp => by
    rcases List.mem_cons.mp hp with rfl | hp
    · exact ⟨atR, I2.hok.fresh (Nat.le_refl _), (Nat.ne_of_lt I2.lt).symm, I2.nofs (Nat.le_refl _), fun v z => by rw [hro] at z; cases z⟩
    · exact I3k.pin p (List.mem_append_right _ hp)
  have held : ∃ c, X.env.cells.lookup (Str.ofString "_law_counts") = some c := I2.ok.has _ (.inl hcell)
  have hfree : ∀ y ∈ scope.names, y.2 = .free → ∃ c, X.env.cells.lookup y.1 = some c := fun y hy e => sfree y hy e ▸ held
  refine wpAny_evalAll_cons (wpAny_bind (lam_make2 I3 TB hcode hmT huT hT hdef hfree fun f c' pm ctv H3 s4 I4 eN hT3 hf hf0 hfs hc' => wpAny_bind (wpAny_standAt (wpAny_pure (wpAny_evalAll_nil ?_)))))
  have pinR := (I4.pin (s2.heap.objs.size, ro) (List.mem_append_right _ (List.mem_cons_self ..))).1
  have I5 : L2.Inv X pins σ H3 s4 := I4.pins_of fun p hp => I4.pin p (List.mem_append_right _ (List.mem_cons_of_mem _ hp))
  obtain ⟨m, hns, hlook⟩ := id I5.loc
  obtain ⟨ul, ru, lk⟩ := hlook j _ (.ref l) hN hσ (.inr (.inl hcell))
  obtain rfl : ul = .ref l := ru
  rcases lk with ⟨hk, _⟩ | ⟨_, cc, hcc, oc, ec, dc⟩
  · rw [show X.env.kindOf (Str.ofString "_law_counts") = some .cell from hcell] at hk
    cases hk
  obtain ⟨ol, us, el, _, ulen, _, rv, isl⟩ := list_off I5 (sqN eN hl)
  obtain ⟨c2, oc2, vs2, tq2, e2, hoc2, hd2, hq2⟩ := NdefX.codeO_at I5.hok hc'
  have hclo : (cloFrom X.env.cells scope.names []).lookup (Str.ofString "_law_counts") = some cc := NdefX.clo_has hfree (PySem.mem_of_lookup scs) hcc
  refine sorted_rangeK (n := n) (g := fun i => - cs.getD i 0) (I5.ok.hd hc) (by rw [hro] at pinR; exact pinR) hn (by have := hr.un; omega) (fun i ti hi h tk kept => ?_) fun out cn h' tk p kept np at' outl each => ?_
  · obtain ⟨vi, hvi⟩ : ∃ vi, us[i]? = some vi := ⟨_, List.getElem?_eq_getElem (by rw [iv_length] at ulen; omega)⟩
    obtain ⟨ti2, hti⟩ : ∃ ti2, vi = .int (cs.getD i 0) ti2 := (show IntsAre us cs from rv.ints).int_at i vi hvi
    subst hti
    exact lam_neg (sh := { s4 with heap := h, toks := tk }) (by have := hr.dp; show X.A.depth < _; omega) (I5.mod.nolimit.keeps fun b o e => kept _ _ (I5.bk b o e)) (kept _ _ hf) ⟨c2, oc2, vs2, tq2, e2, kept _ _ hoc2, hd2, hq2⟩ (hb ..) sk sco sgen snc sx scs hclo ⟨oc, kept _ _ ec, dc⟩ (isl h (kept _ _ el)) (by omega) (by simpa using hvi)
  · obtain ⟨perm, srt⟩ := key_sorted (fun i => - cs.getD i 0) n
    generalize ((List.range n).mergeSort (dataLe false fun i => PyData.int (- cs.getD i 0))) = ks at perm srt each
    have hp3 : H3 p = none := I5.hok.gone np
    refine ⟨.ref p, upd H3 p (.lst (nv ks)), I5.laidN kept np hp3 ⟨?_, out, cn, vals_each each, at'⟩, rfl, want _ p ks (eN.trans (ExtN.of (Ex.new hp3))) (hT3.ext (Ex.new hp3)) (fun o ho => ?_) upd_same perm (srt.imp fun h => by omega)⟩
    · rw [nv_length, perm.length_eq, List.length_range, sizeLine_eq]
      omega
    · by_cases hq : ∃ ps, o = .tbl ps
      · exact hq
      · have := eN _ _ ho (fun ps z => hq ⟨ps, z⟩)
        rw [hp3] at this
        cases this
end
/-- a def whose code object is known by its place -/
def CodeF (K : PySem.W.Frag) (x qual : Str) (st : Stmt) (f : Addr) (fd : FuncData) (cc : Addr) : Prop := ∃ (oc : Value) (od : Option Addr) (kV doc pm : Value) (an : Option Addr) (ct : Value) (osl : Array (Option Value)),
  fd = PySem.W.fnOf x qual (defArgs st) (defBody st) (defScope st) .none kV doc pm an (.ref cc) ct ∧ K.lookup f = some ⟨oc, od, .func fd, osl⟩ ∧ PySem.W.codeIn K (.ref cc) qual = true
theorem okC {P : Program} {w : World} {K : PySem.W.Frag} {mg : Str → Option Value} {base : Heap} {x qual : Str} {st : Stmt} {f cc : Addr} {fd : FuncData} {N ps : List Str} {k : Nat} {sp : Sp} (F : CodeF K x qual st f fd cc) (S : FnScope N ps (defScope st)) (len : ∀ vs H Q E, sp vs H Q E → vs.length = ps.length)
    (body : ∀ (A : Around) (outer : List Env) (s : Shared) (H : Hp) (vs : List V) (Q : VK) (E : XK), Room k (A.deeper (envOfC qual (defScope st) s.heap.objs.size f (.ref cc))) → sp vs H Q E →
      ∃ t, PSs (cxOf CX0 P w K mg base N qual (defScope st) f (.ref cc) A outer s H E).nox (defBody st) t ∧ t { nx := fun _ H' => Q .non H', rt := Q } (start N vs) H) : FnOk P w K mg base CX0 (k + 1) f fd ps sp := by
  obtain ⟨oc, od, kV, doc, pm, an, ct, osl, rfl, lk, hcd⟩ := F
  exact fn_of lk hcd S len fun A outer s H vs Q E hr h => by
    obtain ⟨t, p, q⟩ := body A outer s H vs Q E hr h
    exact ⟨t, p.nox, q⟩
end Hc

namespace Hc
open PySem PySem.Spec PyProof.Rows L2 Evl
def topS (i : Nat) : Stmt := PySem.Challenge.pw_headcounts_k03_whole_foremost.main.body.getD i (.Pass ⟨0, 0, 0, 0⟩)
abbrev s_is_number : Stmt := topS 5
theorem sc_is_number : FnScope ["thing"] ["thing"] (defScope s_is_number) := ⟨rfl, rfl, rfl, by decide +kernel, rfl, by decide +kernel, by decide +kernel⟩
abbrev s_are_ballots : Stmt := topS 6
theorem sc_are_ballots : FnScope ["candidates", "ballots", "ballot", "one"] ["candidates", "ballots"] (defScope s_are_ballots) := ⟨rfl, rfl, rfl, by decide +kernel, rfl, by decide +kernel, by decide +kernel⟩
abbrev s_asked_table : Stmt := topS 7
theorem sc_asked_table : FnScope ["table", "row", "one", "other"] ["table"] (defScope s_asked_table) := ⟨rfl, rfl, rfl, by decide +kernel, rfl, by decide +kernel, by decide +kernel⟩
abbrev s_count_of : Stmt := topS 8
theorem sc_count_of : FnScope ["candidates", "ballots", "table", "order", "many", "at", "one", "other"] ["candidates", "ballots"] (defScope s_count_of) := ⟨rfl, rfl, rfl, by decide +kernel, rfl, by decide +kernel, by decide +kernel⟩
abbrev s_is_pair : Stmt := topS 11
theorem sc_is_pair : FnScope ["pair", "size"] ["pair", "size"] (defScope s_is_pair) := ⟨rfl, rfl, rfl, by decide +kernel, rfl, by decide +kernel, by decide +kernel⟩
abbrev s_Ballots__init : Stmt := inClass (topS 12) 0
theorem sc_Ballots__init : FnScope ["self", "ballots", "order", "many"] ["self", "ballots"] (defScope s_Ballots__init) := ⟨rfl, rfl, rfl, by decide +kernel, rfl, by decide +kernel, by decide +kernel⟩
abbrev s_Ballots_shows : Stmt := inClass (topS 12) 1
theorem sc_Ballots_shows : FnScope ["self", "table"] ["self", "table"] (defScope s_Ballots_shows) := ⟨rfl, rfl, rfl, by decide +kernel, rfl, by decide +kernel, by decide +kernel⟩
abbrev s_Uneven__init : Stmt := inClass (topS 13) 0
theorem sc_Uneven__init : FnScope ["self", "one", "other"] ["self", "one", "other"] (defScope s_Uneven__init) := ⟨rfl, rfl, rfl, by decide +kernel, rfl, by decide +kernel, by decide +kernel⟩
abbrev s_Uneven_shows : Stmt := inClass (topS 13) 1
theorem sc_Uneven_shows : FnScope ["self", "table", "mine"] ["self", "table"] (defScope s_Uneven_shows) := ⟨rfl, rfl, rfl, by decide +kernel, rfl, by decide +kernel, by decide +kernel⟩
abbrev s_Unbeaten__init : Stmt := inClass (topS 14) 0
theorem sc_Unbeaten__init : FnScope ["self", "who"] ["self", "who"] (defScope s_Unbeaten__init) := ⟨rfl, rfl, rfl, by decide +kernel, rfl, by decide +kernel, by decide +kernel⟩
abbrev s_Unbeaten_shows : Stmt := inClass (topS 14) 1
theorem sc_Unbeaten_shows : FnScope ["self", "table"] ["self", "table"] (defScope s_Unbeaten_shows) := ⟨rfl, rfl, rfl, by decide +kernel, rfl, by decide +kernel, by decide +kernel⟩
abbrev s_Ring__init : Stmt := inClass (topS 15) 0
theorem sc_Ring__init : FnScope ["self", "way"] ["self", "way"] (defScope s_Ring__init) := ⟨rfl, rfl, rfl, by decide +kernel, rfl, by decide +kernel, by decide +kernel⟩
abbrev s_Ring_shows : Stmt := inClass (topS 15) 1
theorem sc_Ring_shows : FnScope ["self", "table", "one", "at"] ["self", "table"] (defScope s_Ring_shows) := ⟨rfl, rfl, rfl, by decide +kernel, rfl, by decide +kernel, by decide +kernel⟩
abbrev s_foremost : Stmt := topS 17
theorem sc_foremost : FnScope ["table", "who", "row", "way", "further", "one"] ["table"] (defScope s_foremost) := ⟨rfl, rfl, rfl, by decide +kernel, rfl, by decide +kernel, by decide +kernel⟩
abbrev s_tops : Stmt := topS 18
theorem sc_tops : FnScope ["table", "groups", "who", "group", "at", "row", "other"] ["table"] (defScope s_tops) := ⟨rfl, rfl, rfl, by decide +kernel, rfl, by decide +kernel, by decide +kernel⟩
abbrev s_law_number : Stmt := topS 20
theorem sc_law_number : FnScope ["_law_cell", "_law_at", "_law_whole", "_law_mixed", "_law_more"] ["_law_cell", "_law_at", "_law_whole"] (defScope s_law_number) := ⟨rfl, rfl, rfl, by decide +kernel, rfl, by decide +kernel, by decide +kernel⟩
abbrev s_law_table : Stmt := topS 21
theorem sc_law_table : FnScope ["_law_script", "_law_size", "_law_cells", "_law_whole", "_law_most", "_law_kind", "_law_found", "_law_spot", "_law_one", "_law_other", "_law_cell", "_law_number_here", "_law_bent"] ["_law_script", "_law_size"] (defScope s_law_table) := ⟨rfl, rfl, rfl, by decide +kernel, rfl, by decide +kernel, by decide +kernel⟩
abbrev s_law_ballots : Stmt := topS 22
theorem sc_law_ballots : FnScope ["_law_script", "_law_size", "_law_found", "_law_whole", "_law_at", "_law_cell", "_law_number_here", "_law_left", "_law_line"] ["_law_script", "_law_size"] (defScope s_law_ballots) := ⟨rfl, rfl, rfl, by decide +kernel, rfl, by decide +kernel, by decide +kernel⟩
abbrev s_law_count : Stmt := topS 23
theorem sc_law_count : FnScope ["_law_size", "_law_ballots_here", "_law_found", "_law_line", "_law_many", "_law_at", "_law_one", "_law_other"] ["_law_size", "_law_ballots_here"] (defScope s_law_count) := ⟨rfl, rfl, rfl, by decide +kernel, rfl, by decide +kernel, by decide +kernel⟩
abbrev s_law_due : Stmt := topS 24
theorem sc_law_due : FnScope ["_law_table_here", "_law_found", "_law_size", "_law_way", "_law_number_here", "_law_one", "_law_other"] ["_law_table_here", "_law_found"] (defScope s_law_due) := ⟨rfl, rfl, rfl, by decide +kernel, rfl, by decide +kernel, by decide +kernel⟩
abbrev s_law_tops : Stmt := topS 25
theorem sc_law_tops : FnScope ["_law_table_here", "_law_size", "_law_counts", "_law_many", "_law_group", "_law_others", "_law_row", "_law_number_here", "_law_one", "_law_other"] ["_law_table_here"] (defScope s_law_tops) := ⟨rfl, rfl, rfl, by decide +kernel, rfl, by decide +kernel, by decide +kernel⟩
abbrev s_law_right : Stmt := topS 26
theorem sc_law_right : FnScope ["_law_table_here", "_law_others", "_law_handed", "_law_found", "_law_free", "_law_other", "_law_group", "_law_row", "_law_one"] ["_law_table_here", "_law_others"] (defScope s_law_right) := ⟨rfl, rfl, rfl, by decide +kernel, rfl, by decide +kernel, by decide +kernel⟩
abbrev s_law : Stmt := topS 27
theorem sc_law : FnScope ["_law_script", "_law_whole", "_law_size", "_law_table_here", "_law_made", "_law_ring", "_law_one", "_law_other", "_law_more", "_law_some", "_law_row"] ["_law_script"] (defScope s_law) := ⟨rfl, rfl, rfl, by decide +kernel, rfl, by decide +kernel, by decide +kernel⟩
structure Tx (K : PySem.W.Frag) (mg : Str → Option Value) : Type where
  c_Answer : Addr
  g_Answer : mg "Answer" = some (.ref c_Answer)
  c_Ballots : Addr
  g_Ballots : mg "Ballots" = some (.ref c_Ballots)
  c_Uneven : Addr
  g_Uneven : mg "Uneven" = some (.ref c_Uneven)
  c_Unbeaten : Addr
  g_Unbeaten : mg "Unbeaten" = some (.ref c_Unbeaten)
  c_Ring : Addr
  g_Ring : mg "Ring" = some (.ref c_Ring)
  f_is_number : Addr
  d_is_number : FuncData
  F_is_number : Fun K "is_number" "is_number" s_is_number f_is_number d_is_number
  g_is_number : mg "is_number" = some (.ref f_is_number)
  f_are_ballots : Addr
  d_are_ballots : FuncData
  F_are_ballots : Fun K "are_ballots" "are_ballots" s_are_ballots f_are_ballots d_are_ballots
  g_are_ballots : mg "are_ballots" = some (.ref f_are_ballots)
  f_asked_table : Addr
  d_asked_table : FuncData
  F_asked_table : Fun K "asked_table" "asked_table" s_asked_table f_asked_table d_asked_table
  g_asked_table : mg "asked_table" = some (.ref f_asked_table)
  f_count_of : Addr
  d_count_of : FuncData
  F_count_of : Fun K "count_of" "count_of" s_count_of f_count_of d_count_of
  g_count_of : mg "count_of" = some (.ref f_count_of)
  f_is_pair : Addr
  d_is_pair : FuncData
  F_is_pair : Fun K "is_pair" "is_pair" s_is_pair f_is_pair d_is_pair
  g_is_pair : mg "is_pair" = some (.ref f_is_pair)
  f_Ballots__init : Addr
  d_Ballots__init : FuncData
  F_Ballots__init : Fun K "__init__" "Ballots.__init__" s_Ballots__init f_Ballots__init d_Ballots__init
  f_Ballots_shows : Addr
  d_Ballots_shows : FuncData
  F_Ballots_shows : Fun K "shows" "Ballots.shows" s_Ballots_shows f_Ballots_shows d_Ballots_shows
  f_Uneven__init : Addr
  d_Uneven__init : FuncData
  F_Uneven__init : Fun K "__init__" "Uneven.__init__" s_Uneven__init f_Uneven__init d_Uneven__init
  f_Uneven_shows : Addr
  d_Uneven_shows : FuncData
  F_Uneven_shows : Fun K "shows" "Uneven.shows" s_Uneven_shows f_Uneven_shows d_Uneven_shows
  f_Unbeaten__init : Addr
  d_Unbeaten__init : FuncData
  F_Unbeaten__init : Fun K "__init__" "Unbeaten.__init__" s_Unbeaten__init f_Unbeaten__init d_Unbeaten__init
  f_Unbeaten_shows : Addr
  d_Unbeaten_shows : FuncData
  F_Unbeaten_shows : Fun K "shows" "Unbeaten.shows" s_Unbeaten_shows f_Unbeaten_shows d_Unbeaten_shows
  f_Ring__init : Addr
  d_Ring__init : FuncData
  F_Ring__init : Fun K "__init__" "Ring.__init__" s_Ring__init f_Ring__init d_Ring__init
  f_Ring_shows : Addr
  d_Ring_shows : FuncData
  F_Ring_shows : Fun K "shows" "Ring.shows" s_Ring_shows f_Ring_shows d_Ring_shows
  f_foremost : Addr
  d_foremost : FuncData
  F_foremost : Fun K "foremost" "foremost" s_foremost f_foremost d_foremost
  g_foremost : mg "foremost" = some (.ref f_foremost)
  f_tops : Addr
  d_tops : FuncData
  F_tops : Fun K "tops" "tops" s_tops f_tops d_tops
  g_tops : mg "tops" = some (.ref f_tops)
  f_law_number : Addr
  d_law_number : FuncData
  F_law_number : Fun K "_law_number" "_law_number" s_law_number f_law_number d_law_number
  g_law_number : mg "_law_number" = some (.ref f_law_number)
  f_law_table : Addr
  d_law_table : FuncData
  F_law_table : Fun K "_law_table" "_law_table" s_law_table f_law_table d_law_table
  g_law_table : mg "_law_table" = some (.ref f_law_table)
  f_law_ballots : Addr
  d_law_ballots : FuncData
  F_law_ballots : Fun K "_law_ballots" "_law_ballots" s_law_ballots f_law_ballots d_law_ballots
  g_law_ballots : mg "_law_ballots" = some (.ref f_law_ballots)
  f_law_count : Addr
  d_law_count : FuncData
  F_law_count : Fun K "_law_count" "_law_count" s_law_count f_law_count d_law_count
  g_law_count : mg "_law_count" = some (.ref f_law_count)
  f_law_due : Addr
  d_law_due : FuncData
  F_law_due : Fun K "_law_due" "_law_due" s_law_due f_law_due d_law_due
  g_law_due : mg "_law_due" = some (.ref f_law_due)
  f_law_tops : Addr
  d_law_tops : FuncData
  F_law_tops : Fun K "_law_tops" "_law_tops" s_law_tops f_law_tops d_law_tops
  g_law_tops : mg "_law_tops" = some (.ref f_law_tops)
  f_law_right : Addr
  d_law_right : FuncData
  F_law_right : Fun K "_law_right" "_law_right" s_law_right f_law_right d_law_right
  g_law_right : mg "_law_right" = some (.ref f_law_right)
  f_law : Addr
  d_law : FuncData
  F_law : Fun K "law" "law" s_law f_law d_law
  g_law : mg "law" = some (.ref f_law)
  C_Ballots : Cls K c_Ballots
  y_Ballots : Typ K c_Ballots
  M_Ballots : Mk K c_Ballots f_Ballots__init
  S_Ballots : Meth K c_Ballots "shows" f_Ballots_shows
  a_Ballots_ballots : NoAttr K c_Ballots "ballots"
  k_Ballots_Answer : PySem.W.kitOne K (.ref c_Ballots) (.ref c_Answer) = some true
  k_Ballots_Ballots : PySem.W.kitOne K (.ref c_Ballots) (.ref c_Ballots) = some true
  k_Ballots_Uneven : PySem.W.kitOne K (.ref c_Ballots) (.ref c_Uneven) = some false
  k_Ballots_Unbeaten : PySem.W.kitOne K (.ref c_Ballots) (.ref c_Unbeaten) = some false
  k_Ballots_Ring : PySem.W.kitOne K (.ref c_Ballots) (.ref c_Ring) = some false
  C_Uneven : Cls K c_Uneven
  y_Uneven : Typ K c_Uneven
  M_Uneven : Mk K c_Uneven f_Uneven__init
  S_Uneven : Meth K c_Uneven "shows" f_Uneven_shows
  a_Uneven_one : NoAttr K c_Uneven "one"
  a_Uneven_other : NoAttr K c_Uneven "other"
  k_Uneven_Answer : PySem.W.kitOne K (.ref c_Uneven) (.ref c_Answer) = some true
  k_Uneven_Ballots : PySem.W.kitOne K (.ref c_Uneven) (.ref c_Ballots) = some false
  k_Uneven_Uneven : PySem.W.kitOne K (.ref c_Uneven) (.ref c_Uneven) = some true
  k_Uneven_Unbeaten : PySem.W.kitOne K (.ref c_Uneven) (.ref c_Unbeaten) = some false
  k_Uneven_Ring : PySem.W.kitOne K (.ref c_Uneven) (.ref c_Ring) = some false
  C_Unbeaten : Cls K c_Unbeaten
  y_Unbeaten : Typ K c_Unbeaten
  M_Unbeaten : Mk K c_Unbeaten f_Unbeaten__init
  S_Unbeaten : Meth K c_Unbeaten "shows" f_Unbeaten_shows
  a_Unbeaten_who : NoAttr K c_Unbeaten "who"
  k_Unbeaten_Answer : PySem.W.kitOne K (.ref c_Unbeaten) (.ref c_Answer) = some true
  k_Unbeaten_Ballots : PySem.W.kitOne K (.ref c_Unbeaten) (.ref c_Ballots) = some false
  k_Unbeaten_Uneven : PySem.W.kitOne K (.ref c_Unbeaten) (.ref c_Uneven) = some false
  k_Unbeaten_Unbeaten : PySem.W.kitOne K (.ref c_Unbeaten) (.ref c_Unbeaten) = some true
  k_Unbeaten_Ring : PySem.W.kitOne K (.ref c_Unbeaten) (.ref c_Ring) = some false
  C_Ring : Cls K c_Ring
  y_Ring : Typ K c_Ring
  M_Ring : Mk K c_Ring f_Ring__init
  S_Ring : Meth K c_Ring "shows" f_Ring_shows
  a_Ring_way : NoAttr K c_Ring "way"
  k_Ring_Answer : PySem.W.kitOne K (.ref c_Ring) (.ref c_Answer) = some true
  k_Ring_Ballots : PySem.W.kitOne K (.ref c_Ring) (.ref c_Ballots) = some false
  k_Ring_Uneven : PySem.W.kitOne K (.ref c_Ring) (.ref c_Uneven) = some false
  k_Ring_Unbeaten : PySem.W.kitOne K (.ref c_Ring) (.ref c_Unbeaten) = some false
  k_Ring_Ring : PySem.W.kitOne K (.ref c_Ring) (.ref c_Ring) = some true
  g_MOST : ∃ t, mg "MOST" = some (.int 20 t)
  n_all : mg "all" = none
  n_any : mg "any" = none
  n_bool : mg "bool" = none
  n_enumerate : mg "enumerate" = none
  n_int : mg "int" = none
  n_isinstance : mg "isinstance" = none
  n_len : mg "len" = none
  n_list : mg "list" = none
  n_max : mg "max" = none
  n_min : mg "min" = none
  n_range : mg "range" = none
  n_set : mg "set" = none
  n_sorted : mg "sorted" = none
  n_sum : mg "sum" = none
  n_tuple : mg "tuple" = none
  n_zip : mg "zip" = none
  cc : Addr
  pt : Addr
  FC : CodeF K "_law_tops" "_law_tops" s_law_tops f_law_tops d_law_tops cc
section
variable {K : PySem.W.Frag} {mg : Str → Option Value}
theorem b_is_number (T : Tx K mg) : Binds K T.d_is_number ["thing"] [] := T.F_is_number.binds fun _ _ _ _ _ _ us hl => match us, hl with | [_], _ => rfl
theorem b_are_ballots (T : Tx K mg) : Binds K T.d_are_ballots ["candidates", "ballots"] [] := T.F_are_ballots.binds fun _ _ _ _ _ _ us hl => match us, hl with | [_, _], _ => rfl
theorem b_asked_table (T : Tx K mg) : Binds K T.d_asked_table ["table"] [] := T.F_asked_table.binds fun _ _ _ _ _ _ us hl => match us, hl with | [_], _ => rfl
theorem b_count_of (T : Tx K mg) : Binds K T.d_count_of ["candidates", "ballots"] [] := T.F_count_of.binds fun _ _ _ _ _ _ us hl => match us, hl with | [_, _], _ => rfl
theorem b_is_pair (T : Tx K mg) : Binds K T.d_is_pair ["pair", "size"] [] := T.F_is_pair.binds fun _ _ _ _ _ _ us hl => match us, hl with | [_, _], _ => rfl
theorem b_Ballots__init (T : Tx K mg) : Binds K T.d_Ballots__init ["self", "ballots"] [] := T.F_Ballots__init.binds fun _ _ _ _ _ _ us hl => match us, hl with | [_, _], _ => rfl
theorem b_Ballots_shows (T : Tx K mg) : Binds K T.d_Ballots_shows ["self", "table"] [] := T.F_Ballots_shows.binds fun _ _ _ _ _ _ us hl => match us, hl with | [_, _], _ => rfl
theorem b_Uneven__init (T : Tx K mg) : Binds K T.d_Uneven__init ["self", "one", "other"] [] := T.F_Uneven__init.binds fun _ _ _ _ _ _ us hl => match us, hl with | [_, _, _], _ => rfl
theorem b_Uneven_shows (T : Tx K mg) : Binds K T.d_Uneven_shows ["self", "table"] [] := T.F_Uneven_shows.binds fun _ _ _ _ _ _ us hl => match us, hl with | [_, _], _ => rfl
theorem b_Unbeaten__init (T : Tx K mg) : Binds K T.d_Unbeaten__init ["self", "who"] [] := T.F_Unbeaten__init.binds fun _ _ _ _ _ _ us hl => match us, hl with | [_, _], _ => rfl
theorem b_Unbeaten_shows (T : Tx K mg) : Binds K T.d_Unbeaten_shows ["self", "table"] [] := T.F_Unbeaten_shows.binds fun _ _ _ _ _ _ us hl => match us, hl with | [_, _], _ => rfl
theorem b_Ring__init (T : Tx K mg) : Binds K T.d_Ring__init ["self", "way"] [] := T.F_Ring__init.binds fun _ _ _ _ _ _ us hl => match us, hl with | [_, _], _ => rfl
theorem b_Ring_shows (T : Tx K mg) : Binds K T.d_Ring_shows ["self", "table"] [] := T.F_Ring_shows.binds fun _ _ _ _ _ _ us hl => match us, hl with | [_, _], _ => rfl
theorem b_foremost (T : Tx K mg) : Binds K T.d_foremost ["table"] [] := T.F_foremost.binds fun _ _ _ _ _ _ us hl => match us, hl with | [_], _ => rfl
theorem b_tops (T : Tx K mg) : Binds K T.d_tops ["table"] [] := T.F_tops.binds fun _ _ _ _ _ _ us hl => match us, hl with | [_], _ => rfl
theorem b_law_number (T : Tx K mg) : Binds K T.d_law_number ["_law_cell", "_law_at", "_law_whole"] [] := T.F_law_number.binds fun _ _ _ _ _ _ us hl => match us, hl with | [_, _, _], _ => rfl
theorem b_law_table (T : Tx K mg) : Binds K T.d_law_table ["_law_script", "_law_size"] [] := T.F_law_table.binds fun _ _ _ _ _ _ us hl => match us, hl with | [_, _], _ => rfl
theorem b_law_ballots (T : Tx K mg) : Binds K T.d_law_ballots ["_law_script", "_law_size"] [] := T.F_law_ballots.binds fun _ _ _ _ _ _ us hl => match us, hl with | [_, _], _ => rfl
theorem b_law_count (T : Tx K mg) : Binds K T.d_law_count ["_law_size", "_law_ballots_here"] [] := T.F_law_count.binds fun _ _ _ _ _ _ us hl => match us, hl with | [_, _], _ => rfl
theorem b_law_due (T : Tx K mg) : Binds K T.d_law_due ["_law_table_here", "_law_found"] [] := T.F_law_due.binds fun _ _ _ _ _ _ us hl => match us, hl with | [_, _], _ => rfl
theorem b_law_tops (T : Tx K mg) : Binds K T.d_law_tops ["_law_table_here"] [] := T.F_law_tops.binds fun _ _ _ _ _ _ us hl => match us, hl with | [_], _ => rfl
theorem b_law_right (T : Tx K mg) : Binds K T.d_law_right ["_law_table_here", "_law_others"] [] := T.F_law_right.binds fun _ _ _ _ _ _ us hl => match us, hl with | [_, _], _ => rfl
theorem b_law (T : Tx K mg) : Binds K T.d_law ["_law_script"] [] := T.F_law.binds fun _ _ _ _ _ _ us hl => match us, hl with | [_], _ => rfl
end
end Hc
namespace Hc
open PySem PySem.Spec PyProof.Rows L2 Evl
section
variable {P : Program} {w : World} {K : PySem.W.Frag} {mg : Str → Option Value} {base : Heap}
/-! ### types of things -/
section
variable {K : PySem.W.Frag} {H H' : Hp}
theorem tyx_L {a : Addr} {xs : List V} (h : SqL K H a xs) : TyX K H (.ref a) (.type "list") := by
  rcases h with (h | ⟨o, h⟩) | ⟨o, its, n, h1, h2, _⟩
  · exact .base (.lst h)
  · exact .base (.frz h)
  · exact .kList h1 h2
theorem tyx_T {a : Addr} {xs : List V} (h : SqT K H a xs) : TyX K H (.ref a) (.type "tuple") := by
  rcases h with (h | ⟨o, h⟩) | ⟨o, its, n, h1, h2, _⟩
  · exact .base (.tup h)
  · exact .fTuple h
  · exact .kTuple h1 h2
/-- what is_number says of a thing -/
def IsNum (K : PySem.W.Frag) (H : Hp) (x : V) (b : Bool) : Prop := ∃ (t : String) (b1 b2 : Bool), TyX K H x (.type t) ∧ kitB t "int" = some b1 ∧ kitB t "bool" = some b2 ∧ b = (b1 && !b2)
theorem isNum_int (i : Int) : IsNum K H (.int i) true := ⟨"int", true, false, .base (.int i), by decide +kernel, by decide +kernel, rfl⟩
def spIsNum (K : PySem.W.Frag) : Sp := fun vs H Q _ => ∃ (x : V) (b : Bool), vs = [x] ∧ IsNum K H x b ∧ Q (.bl b) H
def okB (n : Nat) (b : List Nat × Int) : Bool := decide (1 ≤ b.2) && b.1.isPerm (List.range n)
def spAskC : Sp := fun vs H Q _ => ∃ c : Int, vs = [.int c] ∧ 1 ≤ c ∧ c ≤ 20 ∧ Q .non H
def spAreB (K : PySem.W.Frag) : Sp := fun vs H Q _ => ∃ (n : Nat) (v : V) (bs : List (List Nat × Int)), vs = [.int (n : Int), v] ∧ n ≤ 20 ∧ BalsR K H v bs ∧ (∀ b ∈ bs, b.1.length < 60) ∧ ∀ H2, Ex H H2 → Q (.bl (bs.all (okB n))) H2
def spAskB (K : PySem.W.Frag) : Sp := fun vs H Q _ => ∃ (n : Nat) (v : V) (bs : List (List Nat × Int)), vs = [.int (n : Int), v] ∧ 1 ≤ n ∧ n ≤ 20 ∧ BalsR K H v bs ∧ bs.all (okB n) = true ∧ ∀ H2, Ex H H2 → Q .non H2
def spCount (K : PySem.W.Frag) : Sp := fun vs H Q _ => ∃ (n : Nat) (v : V) (bs : List (List Nat × Int)), vs = [.int (n : Int), v] ∧ n ≤ 20 ∧ BalsR K H v bs ∧ (∀ b ∈ bs, ∀ k ∈ b.1, k < n) ∧ ∀ H2 t rs, Ex H H2 → Tab H H2 t rs n (cnt bs) → Q (.ref t) H2
def spCounted (K : PySem.W.Frag) : Sp := fun vs H Q _ => ∃ (n : Nat) (v : V) (bs : List (List Nat × Int)), vs = [.int (n : Int), v] ∧ 1 ≤ n ∧ n ≤ 20 ∧ BalsR K H v bs ∧ bs.all (okB n) = true ∧ ∀ H2 t rs, Ex H H2 → Tab H H2 t rs n (cnt bs) → Q (.ref t) H2
end
theorem okB_len {n : Nat} {b : List Nat × Int} (h : okB n b = true) : b.1.length = n := by
  unfold okB at h
  rw [Bool.and_eq_true] at h
  have := (List.isPerm_iff.mp h.2).length_eq
  rw [List.length_range] at this
  exact this
theorem okB_lt {n : Nat} {b : List Nat × Int} (h : okB n b = true) : ∀ k ∈ b.1, k < n := fun k hk => by
  unfold okB at h
  rw [Bool.and_eq_true] at h
  exact List.mem_range.mp ((List.isPerm_iff.mp h.2).mem_iff.mp hk)
/-- a sorted list that is an arrangement of another one -/
theorem sorted_is_range {ns : List Int} {ks : List Nat} {n : Nat} (hp : ns.Perm (ks.map fun (k : Nat) => (k : Int))) (hs : ns.Pairwise (· ≤ ·)) : (ns = (List.range n).map fun (k : Nat) => (k : Int)) ↔ ks.Perm (List.range n) := by
  constructor
  · intro e
    rw [e] at hp
    have h2 := hp.map Int.toNat
    rw [List.map_map, List.map_map] at h2
    have e1 : ∀ l : List Nat, l.map (Int.toNat ∘ fun (k : Nat) => (k : Int)) = l := fun l => by
      have : (Int.toNat ∘ fun (k : Nat) => (k : Int)) = id := by
        funext k
        simp
      rw [this, List.map_id]
    rw [e1, e1] at h2
    exact h2.symm
  · intro h
    have h1 : ns.Perm ((List.range n).map fun (k : Nat) => (k : Int)) := hp.trans (h.map _)
    have h2 : ((List.range n).map fun (k : Nat) => (k : Int)).Pairwise (· ≤ ·) := by
      rw [List.pairwise_map]
      exact List.Pairwise.imp (fun {a b} h => by omega) (List.pairwise_lt_range (n := n))
    exact h1.eq_of_pairwise (le := (· ≤ ·)) (fun a b _ _ h1 h2 => by omega) hs h2
theorem ok_is_number (T : Tx K mg) : FnOk P w K mg base CX0 1 T.f_is_number T.d_is_number ["thing"] (spIsNum K) := by
  refine T.F_is_number.ok sc_is_number (fun vs H Q E h => ?_) (fun cdv A outer s H vs Q E hr h => ?_)
  · obtain ⟨x, b, rfl, _⟩ := h
    rfl
  · obtain ⟨x, b, rfl, ⟨t, b1, b2, hT, k1, k2, rfl⟩, q⟩ := h
    refine ⟨_, pss_one (ps_ret (pe_and (pe_callB (isiK K) (by rfl) T.n_isinstance PyProof.Rows.boot_isinstance (pa_cons (pv 0) (pa_cons (pe_bltn (v := .ty "int") (by rfl) T.n_int bt_int rfl) pa_nil))) (pe_one (pe_not (pe_callB (isiK K) (by rfl) T.n_isinstance PyProof.Rows.boot_isinstance (pa_cons (pv 0) (pa_cons (pe_bltn (v := .ty "bool") (by rfl) T.n_bool bt_bool rfl) pa_nil))))))), ?_⟩
    refine ⟨x, rfl, x, .ty "int", _, _, b1, rfl, .ty _, hT, kit_ty k1, b1, rfl, ?_⟩
    cases b1 with
    | false => exact q
    | true => exact ⟨x, rfl, x, .ty "bool", _, _, b2, rfl, .ty _, hT, kit_ty k2, b2, rfl, q⟩
def spAskT (K : PySem.W.Frag) : Sp := fun vs H Q _ => ∃ (v : V) (n : Nat) (f : Nat → Nat → Int), vs = [v] ∧ 1 ≤ n ∧ n ≤ 20 ∧ TabR K H v n f ∧ Anti n f ∧ ∀ H2, Ex H H2 → Q .non H2
theorem any_const_false (n : Nat) : ((List.range n).map fun _ => false).any id = false := by
  rw [List.any_map, List.any_eq_false]
  intro x _
  simp
theorem ok_asked_table (T : Tx K mg) : FnOk P w K mg base CX0 2 T.f_asked_table T.d_asked_table ["table"] (spAskT K) := by
  refine T.F_asked_table.ok sc_asked_table (fun vs H Q E h => ?_) (fun cdv A outer s H vs Q E hr h => ?_)
  · obtain ⟨v, n, f, rfl, _⟩ := h
    rfl
  · obtain ⟨v, n, f, rfl, hn1, hn, TT, hA, q⟩ := h
    obtain ⟨t, xs, rfl, hS, hl, hat⟩ := TT.at_
    refine ⟨_, pss_cons (ps_if (PW.pt (pw_or (pt_not (pt_val (pe_callB (isiK K) (by rfl) T.n_isinstance PyProof.Rows.boot_isinstance (pa_cons (pv 0) (pa_cons (pe_bltn (v := .ty "list") (by rfl) T.n_list bt_list rfl) pa_nil))))) (pw_or1 (pt_not (pt_chain op_le op_le pe_int (pe_callB (lenK K) (by rfl) T.n_len PySem.boot_len (pa_cons (pv 0) pa_nil)) (pe_glob (v := .int 20) (by rfl) T.g_MOST.choose_spec ⟨_, rfl⟩)))))) (pss_one (ps_never)) (pss_nil))
      (pss_cons (ps_for PassesOwn.never rfl (piL K (pv 0)) (pg_name (i := 1) sc_asked_table.nd rfl (by first | exact Or.inl rfl | exact Or.inr rfl))
        (pss_one (ps_if (PW.pt (pw_or (pt_not (pt_val (pe_callB (isiK K) (by rfl) T.n_isinstance PyProof.Rows.boot_isinstance (pa_cons (pv 1) (pa_cons (pe_bltn (v := .ty "list") (by rfl) T.n_list bt_list rfl) pa_nil))))) (pw_or (pt_cmpR op_ne (pe_callB (lenK K) (by rfl) T.n_len PySem.boot_len (pa_cons (pv 1) pa_nil)) (pe_callB (lenK K) (by rfl) T.n_len PySem.boot_len (pa_cons (pv 0) pa_nil)) (nomark _)) (pw_or1 (pt_not (pt_val (pe_callB (allK K) (by rfl) T.n_all PyProof.Rows.boot_all (pa_cons (pe_lc (own := [("one", 2)]) rfl sc_asked_table.nd (piL K (pv 1)) (blkOk_by (own := [("one", 2)]) (N := ["table", "row", "one", "other"]) (sc := defScope s_asked_table) (by decide +kernel)) (fun _ _ _ _ _ => (pg_name (i := 2) sc_asked_table.nd rfl (by first | exact Or.inl rfl | exact Or.inr rfl))) (fun _ _ _ _ _ => pts_nil) (fun _ _ _ _ _ => (pe_call (ok_is_number T) (hr.mono (by decide)) (by rfl) T.g_is_number T.F_is_number.kp (b_is_number T) .nil pass0 (pa_cons (pv 2) pa_nil)))) pa_nil)))))))) (pss_one (ps_never)) (pss_nil))))
      (pss_one (ps_for PassesOwn.never rfl (pi_range1 (by rfl) T.n_range (pa_cons (pe_callB (lenK K) (by rfl) T.n_len PySem.boot_len (pa_cons (pv 0) pa_nil)) pa_nil)) (pg_name (i := 2) sc_asked_table.nd rfl (by first | exact Or.inl rfl | exact Or.inr rfl))
        (pss_one (ps_if (pt_val (pe_callB (anyK K) (by rfl) T.n_any PyProof.Rows.boot_any (pa_cons (pe_lc (own := [("other", 3)]) rfl sc_asked_table.nd (pi_range1 (by rfl) T.n_range (pa_cons (pe_op op_add (pv 2) pe_int) pa_nil)) (blkOk_by (own := [("other", 3)]) (N := ["table", "row", "one", "other"]) (sc := defScope s_asked_table) (by decide +kernel)) (fun _ _ _ _ _ => (pg_name (i := 3) sc_asked_table.nd rfl (by first | exact Or.inl rfl | exact Or.inr rfl))) (fun _ _ _ _ _ => pts_nil) (fun _ _ _ _ _ => (pe_cmpR op_ne (pe_ix (ixLK K) (pe_ix (ixLK K) (pv 0) (pv 2) (fun _ _ => rfl)) (pv 3) (fun _ _ => rfl)) (pe_un un_neg (pe_ix (ixLK K) (pe_ix (ixLK K) (pv 0) (pv 3) (fun _ _ => rfl)) (pv 2) (fun _ _ => rfl))) (nomark _)))) pa_nil))) (pss_one (ps_never)) (pss_nil)))))), ?_⟩
    refine ⟨_, rfl, .ref t, .ty "list", _, _, true, rfl, .ty _, tyx_L hS, kit_ty (by decide +kernel), true, rfl, ?_⟩
    refine ⟨_, rfl, t, _, rfl, .inl hS, _, _, rfl, rfl, _, rfl, ?_⟩
    rw [if_pos (decide_eq_true (show (1 : Int) ≤ (xs.length : Int) by omega))]
    refine ⟨_, _, rfl, rfl, _, rfl, ?_⟩
    rw [decide_eq_true (show (xs.length : Int) ≤ 20 by omega)]
    refine ⟨.ref t, rfl, t, rfl, ⟨xs, hS⟩, for_list (K := K) (a := t) (xs := xs) (fun i σ' H' => ∃ y, σ' = [some (.ref t), y, none, none] ∧ Ex H H')
      ⟨none, rfl, Ex.refl H⟩ (fun i σ' H' _ ⟨_, _, e⟩ => ex_l e hS) ?_ ?_⟩
    · rintro i x σ' H' hi ⟨y, rfl, e⟩
      have hin : i < n := by rw [← hl]; exact (List.getElem?_eq_some_iff.mp hi).1
      obtain ⟨r, hr1, hr2⟩ := hat i hin
      rw [hr1] at hi
      cases hi
      have hr3 := ex_l e hr2
      refine ⟨_, rfl, .ref r, .ty "list", _, _, true, rfl, .ty _, tyx_L hr3, kit_ty (by decide +kernel), true, rfl, ?_⟩
      refine ⟨_, rfl, r, _, rfl, .inl hr3, _, rfl, t, _, rfl, .inl (ex_l e hS), rfl, _, rfl, ?_⟩
      refine itF (by rw [rowV_length, hl, decide_eq_true rfl]; rfl) ?_
      refine ⟨_, rfl, r, rfl, ⟨_, hr3⟩, fun D hD => ?_⟩
      refine lc_vals (walk_list (K := K) (a := r) (xs := rowV n (f i))) hD (by rw [rowV_length]; omega) (fun H2 e2 => ex_l e2 hr3) (fun _ => V.bl true) ?_ ?_
      · rintro j x H2 H2' hj e2 ⟨rfl, hx⟩ Qc hq
        have hjn : j < n := by rw [rowV_length] at hj; exact hj
        rw [rowV_get hjn] at hx
        cases hx
        exact ⟨rfl, _, rfl, _, true, rfl, isNum_int _, hq _ (Ex.refl _)⟩
      · intro H3 e3 hD3
        rw [map_const_bl] at hD3
        exact ⟨D, _, rfl, sq_of hD3, true, by rw [all_const_true], _, rfl, e.trans e3⟩
    · rintro σ' H' ⟨y, rfl, e⟩
      refine ⟨_, rfl, t, _, rfl, .inl (ex_l e hS), (xs.length : Int), rfl, by omega, by omega, ?_⟩
      rw [hl]
      refine for_it (walk_rg0 (n := n)) (fun i σ' H' => ∃ y1 y2, σ' = [some (.ref t), y1, y2, none] ∧ Ex H H') ⟨_, _, rfl, e⟩ (fun _ _ _ _ _ => trivial) ?_ ?_
      · rintro i x σ' H' H'' hi ⟨y1, y2, rfl, e⟩ ⟨rfl, rfl⟩
        refine ⟨_, rfl, _, _, rfl, rfl, ((i + 1 : Nat) : Int), rfl, by omega, by omega, fun D hD => ?_⟩
        refine lc_vals (n := i + 1) (walk_rg0 (n := i + 1)) hD (by omega) (fun _ _ => trivial) (fun _ => V.bl false) ?_ ?_
        · rintro j x H2 H2' hj e2 ⟨rfl, rfl⟩ Qc hq
          have hS2 := ex_l (e.trans e2) hS
          obtain ⟨r1, g1, g2⟩ := hat i hi
          obtain ⟨r2, g3, g4⟩ := hat j (by omega)
          have g2' := ex_l (e.trans e2) g2
          have g4' := ex_l (e.trans e2) g4
          refine ⟨rfl, _, rfl, _, rfl, t, _, i, .ref r1, rfl, rfl, hS2, atI_nat g1, _, rfl, r1, _, j, .int _, rfl, rfl, g2', atI_nat (rowV_get (by omega)), _, rfl, _, rfl, t, _, j, .ref r2, rfl, rfl, hS2, atI_nat g3, _, rfl, r2, _, i, .int _, rfl, rfl, g4', atI_nat (rowV_get hi), _, rfl, rfl, ?_⟩
          have e9 : (!decide (V.int (f i j) = V.int (- f j i))) = false := by
            rw [decide_eq_true (by rw [hA i j hi (by omega)])]
            rfl
          rw [e9]
          exact hq _ (Ex.refl _)
        · intro H3 e3 hD3
          rw [map_const_bl] at hD3
          exact ⟨D, _, rfl, sq_of hD3, false, by rw [any_const_false], _, _, rfl, e.trans e3⟩
      · rintro σ' H' ⟨y1, y2, rfl, e⟩
        exact q H' e
def spNInit (C : Addr) : Sp := fun vs H Q _ => ∃ (x dx : Addr) (v : V), vs = [.ref x, v] ∧ H x = some (.ins C dx []) ∧ ∀ H2, ExB x H H2 → H2 x = some (.ins C dx [("who", v)]) → Q .non H2
def spNShows (K : PySem.W.Frag) (C : Addr) : Sp := fun vs H Q _ => ∃ (x dx : Addr) (v : V) (k : Int) (n : Nat) (f : Nat → Nat → Int), vs = [.ref x, v] ∧ H x = some (.ins C dx [("who", .int k)]) ∧ TabR K H v n f ∧ 1 ≤ n ∧ Q (.bl (shN n f k)) H
theorem min_row {n : Nat} {g : Nat → Int} {m : Int} (hm : m ∈ (List.range n).map g) (hle : ∀ y, y ∈ (List.range n).map g → m ≤ y) : decide (0 ≤ m) = (List.range n).all fun j => decide (0 ≤ g j) := by
  rw [Bool.eq_iff_iff, List.all_eq_true]
  constructor
  · intro h j hj
    have h1 := of_decide_eq_true h
    have h2 := hle (g j) (List.mem_map.mpr ⟨j, hj, rfl⟩)
    exact decide_eq_true (by omega)
  · intro h
    obtain ⟨j, hj, rfl⟩ := List.mem_map.mp hm
    exact decide_eq_true (of_decide_eq_true (h j hj))
theorem ok_Unbeaten__init (T : Tx K mg) : FnOk P w K mg base CX0 1 T.f_Unbeaten__init T.d_Unbeaten__init ["self", "who"] (spNInit T.c_Unbeaten) := by
  refine T.F_Unbeaten__init.ok sc_Unbeaten__init (fun vs H Q E h => ?_) (fun cdv A outer s H vs Q E hr h => ?_)
  · obtain ⟨x, dx, v, rfl, _⟩ := h
    rfl
  · obtain ⟨x, dx, v, rfl, hx, q⟩ := h
    refine ⟨_, pss_one (ps_fld (pv 0) (pv 1) rfl), ?_⟩
    refine ⟨_, rfl, _, rfl, x, T.c_Unbeaten, dx, _, rfl, hx, T.C_Unbeaten, T.a_Unbeaten_who, (by decide : (0 : Nat) < 1000), ?_⟩
    exact q _ exB_upd upd_same
theorem ok_Unbeaten_shows (T : Tx K mg) : FnOk P w K mg base CX0 1 T.f_Unbeaten_shows T.d_Unbeaten_shows ["self", "table"] (spNShows K T.c_Unbeaten) := by
  refine T.F_Unbeaten_shows.ok sc_Unbeaten_shows (fun vs H Q E h => ?_) (fun cdv A outer s H vs Q E hr h => ?_)
  · obtain ⟨x, dx, v, k, n, f, rfl, _⟩ := h
    rfl
  · obtain ⟨x, dx, v, k, n, f, rfl, hx, TT, hn1, q⟩ := h
    obtain ⟨t, xs, rfl, hS, hl, hat⟩ := TT.at_
    refine ⟨_, pss_one (ps_ret (pe_and (pe_chain op_le op_lt pe_int (fldK K (pv 0)) (pe_callB (lenK K) (by rfl) T.n_len PySem.boot_len (pa_cons (pv 1) pa_nil))) (pe_one (pe_cmpR op_ge (pe_callB (minK K) (by rfl) T.n_min PyProof.Rows.boot_min (pa_cons (pe_ix (ixLK K) (pv 1) (fldK K (pv 0)) (fun _ _ => rfl)) pa_nil)) pe_int (nomark _))))), ?_⟩
    unfold shN inB at q
    refine ⟨_, rfl, x, T.c_Unbeaten, dx, _, _, rfl, hx, T.C_Unbeaten, T.a_Unbeaten_who, rfl, _, _, rfl, rfl, _, rfl, ?_⟩
    refine it2 (fun h0 => ?_) (fun h0 => ?_)
    · rw [h0, Bool.true_and] at q
      refine ⟨_, rfl, t, _, rfl, .inl hS, _, _, rfl, rfl, _, rfl, ?_⟩
      rw [hl]
      refine it2 (fun h1 => ?_) (fun h1 => ?_)
      · rw [h1, Bool.true_and] at q
        have h0' := of_decide_eq_true h0
        have h1' := of_decide_eq_true h1
        obtain ⟨k', rfl⟩ : ∃ k' : Nat, k = (k' : Int) := ⟨k.toNat, by omega⟩
        obtain ⟨r, g1, g2⟩ := hat k' (by omega)
        rw [rowV_iv] at g2
        refine ⟨_, rfl, _, rfl, x, T.c_Unbeaten, dx, _, _, rfl, hx, T.C_Unbeaten, T.a_Unbeaten_who, rfl, t, _, k', .ref r, rfl, rfl, hS, atI_nat g1, r, _, rfl, g2, by rw [List.length_map, List.length_range]; omega, fun m hm hle => ⟨_, _, rfl, rfl, ?_⟩⟩
        show Q (V.bl (decide (0 ≤ m))) H
        rw [min_row hm hle]
        exact q
      · rw [h1] at q
        exact q
    · rw [h0] at q
      exact ⟨false, rfl, q⟩
def spRInit (K : PySem.W.Frag) (C : Addr) : Sp := fun vs H Q _ => ∃ (x dx l : Addr) (ns : List Int), vs = [.ref x, .ref l] ∧ H x = some (.ins C dx []) ∧ SqL K H l (iv ns) ∧ ∀ H2 p, ExB x H H2 → H p = none → H2 x = some (.ins C dx [("way", .ref p)]) → H2 p = some (.lst (iv ns)) → Q .non H2
def spRShows (K : PySem.W.Frag) (C : Addr) : Sp := fun vs H Q _ => ∃ (x dx p : Addr) (v : V) (ns : List Int) (n : Nat) (f : Nat → Nat → Int), vs = [.ref x, v] ∧ H x = some (.ins C dx [("way", .ref p)]) ∧ SqL K H p (iv ns) ∧ ns.length ≤ 1000 ∧ TabR K H v n f ∧ ∀ H2, Ex H H2 → Q (.bl (shR n f ns)) H2
theorem map_bl_all {n : Nat} {p : Nat → Bool} : ((List.range n).map fun i => V.bl (p i)) = ((List.range n).map p).map V.bl := by
  rw [List.map_map]
  rfl
theorem all_map_id {n : Nat} {p : Nat → Bool} : ((List.range n).map p).all id = (List.range n).all p := by
  rw [List.all_map]
  rfl
theorem all_at0 (ns : List Int) (p : Int → Bool) : ((List.range ns.length).all fun i => p (at0 ns i)) = ns.all p := by
  rw [Bool.eq_iff_iff, List.all_eq_true, List.all_eq_true]
  constructor
  · intro h k hk
    obtain ⟨i, hi, e⟩ := List.mem_iff_getElem.mp hk
    have h1 := h i (List.mem_range.mpr hi)
    unfold at0 at h1
    rw [List.getD_eq_getElem?_getD, List.getElem?_eq_getElem hi] at h1
    rw [← e]
    exact h1
  · intro h i hi
    rw [List.mem_range] at hi
    unfold at0
    rw [List.getD_eq_getElem?_getD, List.getElem?_eq_getElem hi]
    exact h _ (List.getElem_mem hi)
theorem iv_at0 {ns : List Int} {i : Nat} (h : i < ns.length) : (iv ns)[i]? = some (V.int (at0 ns i)) := by
  unfold iv at0
  rw [List.getElem?_map, List.getElem?_eq_getElem h, List.getD_eq_getElem?_getD, List.getElem?_eq_getElem h]
  rfl
theorem atI_back {ns : List Int} {i : Nat} (h : i < ns.length) : atI (iv ns) ((i : Int) - 1) = some (V.int (at0 ns (if i = 0 then ns.length - 1 else i - 1))) := by
  by_cases e : i = 0
  · subst e
    rw [if_pos rfl]
    have h1 : iv ns = (iv ns).dropLast ++ [V.int (at0 ns (ns.length - 1))] := by
      have h2 : (iv ns)[ns.length - 1]? = some (V.int (at0 ns (ns.length - 1))) := iv_at0 (by omega)
      have h3 : iv ns ≠ [] := fun e => by
        have := iv_length ns
        rw [e] at this
        simp at this
        omega
      have h4 := List.dropLast_concat_getLast h3
      have h5 : (iv ns).getLast h3 = V.int (at0 ns (ns.length - 1)) := by
        rw [List.getLast_eq_getElem]
        rw [List.getElem?_eq_getElem (by rw [iv_length]; omega)] at h2
        have h6 := Option.some.inj h2
        rw [← h6]
        congr 1
        rw [iv_length]
      rw [h5] at h4
      exact h4.symm
    rw [h1]
    exact atI_last _ _
  · rw [if_neg e, show (i : Int) - 1 = ((i - 1 : Nat) : Int) by omega]
    exact atI_nat (iv_at0 (by omega))
theorem ok_Ring__init (T : Tx K mg) : FnOk P w K mg base CX0 1 T.f_Ring__init T.d_Ring__init ["self", "way"] (spRInit K T.c_Ring) := by
  refine T.F_Ring__init.ok sc_Ring__init (fun vs H Q E h => ?_) (fun cdv A outer s H vs Q E hr h => ?_)
  · obtain ⟨x, dx, l, ns, rfl, _⟩ := h
    rfl
  · obtain ⟨x, dx, l, ns, rfl, hx, hL, q⟩ := h
    refine ⟨_, pss_one (ps_fld (pv 0) (pe_callTy (listK K) (by rfl) T.n_list bt_list (pa_cons (pv 1) pa_nil)) rfl), ?_⟩
    refine ⟨_, rfl, l, _, rfl, .inl hL, fun p np => ?_⟩
    have ep := Ex.new (o := .lst (iv ns)) np
    refine ⟨_, rfl, x, T.c_Ring, dx, _, rfl, ep _ _ hx, T.C_Ring, T.a_Ring_way, (by decide : (0 : Nat) < 1000), ?_⟩
    have nxp : p ≠ x := (ne_of_fresh hx np).symm
    exact q _ p (fun a o n h => by rw [upd_ne n]; exact ep _ _ h) np upd_same (by rw [upd_ne nxp]; exact upd_same)
theorem ok_Ring_shows (T : Tx K mg) : FnOk P w K mg base CX0 1 T.f_Ring_shows T.d_Ring_shows ["self", "table"] (spRShows K T.c_Ring) := by
  refine T.F_Ring_shows.ok sc_Ring_shows (fun vs H Q E h => ?_) (fun cdv A outer s H vs Q E hr h => ?_)
  · obtain ⟨x, dx, p, v, ns, n, f, rfl, _⟩ := h
    rfl
  · obtain ⟨x, dx, p, v, ns, n, f, rfl, hx, hp, hlen, TT, q⟩ := h
    obtain ⟨t, xs, rfl, hS, hl, hat⟩ := TT.at_
    refine ⟨_, pss_cons (ps_if (PW.pt (pw_or (pt_cmpR (eqDK K hr.units) (fldK K (pv 0)) (pe_lst pa_nil) (nomark _)) (pw_or1 (pt_cmpR op_ne (pe_callB lenZ (by rfl) T.n_len PySem.boot_len (pa_cons (pe_callTy (setLK K) (by rfl) T.n_set bt_set (pa_cons (fldK K (pv 0)) pa_nil)) pa_nil)) (pe_callB (lenK K) (by rfl) T.n_len PySem.boot_len (pa_cons (fldK K (pv 0)) pa_nil)) (nomark _))))) (pss_one (ps_ret pe_bl)) (pss_nil))
      (pss_cons (ps_if (pt_not (pt_val (pe_callB (allK K) (by rfl) T.n_all PyProof.Rows.boot_all (pa_cons (pe_lc (own := [("one", 2)]) rfl sc_Ring_shows.nd (piL K (fldK K (pv 0))) (blkOk_by (own := [("one", 2)]) (N := ["self", "table", "one", "at"]) (sc := defScope s_Ring_shows) (by decide +kernel)) (fun _ _ _ _ _ => (pg_name (i := 2) sc_Ring_shows.nd rfl (by first | exact Or.inl rfl | exact Or.inr rfl))) (fun _ _ _ _ _ => pts_nil) (fun _ _ _ _ _ => (pe_chain op_le op_lt pe_int (pv 2) (pe_callB (lenK K) (by rfl) T.n_len PySem.boot_len (pa_cons (pv 1) pa_nil))))) pa_nil)))) (pss_one (ps_ret pe_bl)) (pss_nil))
      (pss_one (ps_ret (pe_callB (allK K) (by rfl) T.n_all PyProof.Rows.boot_all (pa_cons (pe_lc (own := [("at", 3)]) rfl sc_Ring_shows.nd (pi_range1 (by rfl) T.n_range (pa_cons (pe_callB (lenK K) (by rfl) T.n_len PySem.boot_len (pa_cons (fldK K (pv 0)) pa_nil)) pa_nil)) (blkOk_by (own := [("at", 3)]) (N := ["self", "table", "one", "at"]) (sc := defScope s_Ring_shows) (by decide +kernel)) (fun _ _ _ _ _ => (pg_name (i := 3) sc_Ring_shows.nd rfl (by first | exact Or.inl rfl | exact Or.inr rfl))) (fun _ _ _ _ _ => pts_nil) (fun _ _ _ _ _ => (pe_cmpR op_gt (pe_ix (ixLK K) (pe_ix (ixLK K) (pv 1) (pe_ix (ixLK K) (fldK K (pv 0)) (pe_op op_sub (pv 3) pe_int) (fun _ _ => rfl)) (fun _ _ => rfl)) (pe_ix (ixLK K) (fldK K (pv 0)) (pv 3) (fun _ _ => rfl)) (fun _ _ => rfl)) pe_int (nomark _)))) pa_nil))))), ?_⟩
    unfold shR at q
    have fx : ∀ {H'}, Ex H H' → H' x = some (.ins T.c_Ring dx [("way", .ref p)]) := fun e => e _ _ hx
    refine ⟨_, rfl, x, T.c_Ring, dx, _, _, rfl, hx, T.C_Ring, T.a_Ring_way, rfl, Nat.zero_le _, fun o no => ?_⟩
    have eo := Ex.new (o := .lst []) no
    refine ⟨_, _, dp_ints (ex_l eo hp), dp_ints (ns := []) (sq_of upd_same), shaped_ints _, shaped_ints _, _, rfl, ?_⟩
    rw [eqv_ints]
    refine it2 (fun h0 => ?_) (fun h0 => ?_)
    · have h0' : ns = [] := of_decide_eq_true h0
      rw [h0'] at q
      exact q _ eo
    · have h0' : ns ≠ [] := of_decide_eq_false h0
      have e0 : (!ns.isEmpty) = true := by
        cases hns : ns with
        | nil => exact absurd hns h0'
        | cons _ _ => rfl
      rw [e0, Bool.true_and] at q
      refine ⟨_, rfl, x, T.c_Ring, dx, _, _, rfl, fx eo, T.C_Ring, T.a_Ring_way, rfl, p, ns, rfl, ex_l eo hp, by omega, fun z0 d nz0 hd hdm hdl => ⟨z0, _, _, rfl, upd_same, by omega, ?_⟩⟩
      replace eo := eo.trans (Ex.new (o := .set (fun k => d.any (· == k)) d.length) nz0)
      refine ⟨_, rfl, x, T.c_Ring, dx, _, _, rfl, fx eo, T.C_Ring, T.a_Ring_way, rfl, p, _, rfl, .inl (ex_l eo hp), rfl, _, rfl, ?_⟩
      rw [dec_int, iv_length]
      have edn : (!decide ((d.length : Int) = (ns.length : Int))) = !decide ns.Nodup := by
        congr 1
        have := set_len hd hdm
        by_cases h : ns.Nodup
        · rw [decide_eq_true h, decide_eq_true (by have := this.mpr h; omega)]
        · rw [decide_eq_false h, decide_eq_false (fun e => h (this.mp (by omega)))]
      show if (!decide ((d.length : Int) = (ns.length : Int))) = true then _ else _
      rw [edn]
      refine it2 (fun h1 => ?_) (fun h1 => ?_)
      · have h1' : decide ns.Nodup = false := by
          cases h : decide ns.Nodup with
          | false => rfl
          | true => rw [h] at h1; cases h1
        rw [h1'] at q
        exact q _ eo
      · have h1' : decide ns.Nodup = true := by
          cases h : decide ns.Nodup with
          | true => rfl
          | false => rw [h] at h1; cases h1
        rw [h1', Bool.true_and] at q
        refine ⟨_, rfl, x, T.c_Ring, dx, _, _, rfl, fx eo, T.C_Ring, T.a_Ring_way, rfl, p, rfl, ⟨_, ex_l eo hp⟩, fun D hD => ?_⟩
        refine lc_vals (walk_list (K := K) (a := p) (xs := iv ns)) hD (by rw [iv_length]; omega) (fun H2 e2 => ex_l (eo.trans e2) hp) (fun i => V.bl (inB n (at0 ns i))) ?_ ?_
        · rintro j y H2 H2' hj e2 ⟨rfl, hy⟩ Qc hq
          rw [iv_length] at hj
          rw [iv_at0 hj] at hy
          cases hy
          refine ⟨rfl, _, rfl, _, _, rfl, rfl, _, rfl, ?_⟩
          unfold inB at hq
          refine it2 (fun k0 => ?_) (fun k0 => ?_)
          · rw [k0, Bool.true_and] at hq
            refine ⟨_, rfl, t, _, rfl, .inl (ex_l (eo.trans e2) hS), _, _, rfl, rfl, ?_⟩
            rw [hl]
            exact hq _ (Ex.refl _)
          · rw [k0, Bool.false_and] at hq
            exact hq _ (Ex.refl _)
        · intro H2 e2 hD2
          rw [iv_length, map_bl_all] at hD2
          refine ⟨D, _, rfl, sq_of hD2, _, rfl, ?_⟩
          rw [all_map_id, all_at0 ns (inB n)]
          have e12 := eo.trans e2
          show if (!ns.all (inB n)) = true then _ else _
          refine it2 (fun h2 => ?_) (fun h2 => ?_)
          · have h2' : ns.all (inB n) = false := by
              cases h : ns.all (inB n) with
              | false => rfl
              | true => rw [h] at h2; cases h2
            rw [h2'] at q
            exact q _ e12
          · have h2' : ns.all (inB n) = true := by
              cases h : ns.all (inB n) with
              | true => rfl
              | false => rw [h] at h2; cases h2
            rw [h2', Bool.true_and] at q
            have hin : ∀ i, i < ns.length → ∃ k : Nat, at0 ns i = (k : Int) ∧ k < n := fun i hi => by
              have := all_at0 ns (inB n)
              rw [h2', List.all_eq_true] at this
              have h9 := this i (List.mem_range.mpr hi)
              unfold inB at h9
              rw [Bool.and_eq_true] at h9
              have k0 := of_decide_eq_true h9.1
              have k1 := of_decide_eq_true h9.2
              exact ⟨(at0 ns i).toNat, by omega, by omega⟩
            refine ⟨_, rfl, x, T.c_Ring, dx, _, _, rfl, fx e12, T.C_Ring, T.a_Ring_way, rfl, p, _, rfl, .inl (ex_l e12 hp), ((iv ns).length : Int), rfl, by rw [iv_length]; omega, by rw [iv_length]; omega, fun D3 hD3 => ?_⟩
            rw [iv_length]
            refine lc_vals (n := ns.length) (walk_rg0 (n := ns.length)) hD3 (by omega) (fun _ _ => trivial) (fun i => V.bl (decide (0 < f (at0 ns (if i = 0 then ns.length - 1 else i - 1)).toNat (at0 ns i).toNat))) ?_ ?_
            · rintro j y H3 H3' hj e3 ⟨rfl, rfl⟩ Qc hq
              have e13 := e12.trans e3
              obtain ⟨k1, hk1, hk1n⟩ := hin (if j = 0 then ns.length - 1 else j - 1) (by split <;> omega)
              obtain ⟨k2, hk2, hk2n⟩ := hin j hj
              rw [hk1, hk2, Int.toNat_natCast, Int.toNat_natCast] at hq
              obtain ⟨r, g1, g2⟩ := hat k1 hk1n
              have hb := atI_back hj
              rw [hk1] at hb
              have hb2 := iv_at0 hj
              rw [hk2] at hb2
              refine ⟨rfl, _, rfl, _, rfl, x, T.c_Ring, dx, _, _, rfl, fx e13, T.C_Ring, T.a_Ring_way, rfl, _, rfl, _, _, rfl, rfl, p, _, _, _, rfl, rfl, ex_l e13 hp, hb, t, _, k1, .ref r, rfl, rfl, ex_l e13 hS, atI_nat g1, _, rfl, x, T.c_Ring, dx, _, _, rfl, fx e13, T.C_Ring, T.a_Ring_way, rfl, _, rfl, p, _, j, _, rfl, rfl, ex_l e13 hp, atI_nat hb2, r, _, k2, .int _, rfl, rfl, ex_l e13 g2, atI_nat (rowV_get hk2n), _, _, rfl, rfl, hq _ (Ex.refl _)⟩
            · intro H3 e3 hD3'
              rw [map_bl_all] at hD3'
              refine ⟨D3, _, rfl, sq_of hD3', ?_⟩
              rw [all_map_id]
              exact q _ (e12.trans e3)
end
end Hc
namespace Hc
open PySem PySem.Spec PyProof.Rows L2 Evl
section
variable {P : Program} {w : World} {K : PySem.W.Frag} {mg : Str → Option Value} {base : Heap}
theorem bnot_f {b : Bool} (h : (!b) = false) : b = true := by cases b <;> first | rfl | cases h
theorem bnot_t {b : Bool} (h : (!b) = true) : b = false := by cases b <;> first | rfl | cases h
def spWid (K : PySem.W.Frag) : Sp := fun vs H Q _ => ∃ (v : V) (n : Nat) (f : Nat → Nat → Int), vs = [v] ∧ n ≤ 20 ∧ TabR K H v n f ∧ ∀ H2 t rs, Ex H H2 → Tab H H2 t rs n (wid f n) → Q (.ref t) H2
/-- within a phase: the cells ahead of (a, b) are done -/
def mixW (m a b : Nat) (g : Nat → Nat → Int) (i j : Nat) : Int := if i < a ∨ (i = a ∧ j < b) then phase m g i j else g i j
theorem mixW_zero (m : Nat) (g : Nat → Nat → Int) (i j : Nat) : mixW m 0 0 g i j = g i j := if_neg (by omega)
theorem mixW_here {m a b : Nat} {g : Nat → Nat → Int} : mixW m a b g a b = g a b := if_neg (by omega)
theorem mixW_col {m a b i : Nat} {g : Nat → Nat → Int} : mixW m a b g i m = g i m := by
  unfold mixW
  rw [phase_col, ite_self]
theorem mixW_row {m a b j : Nat} {g : Nat → Nat → Int} : mixW m a b g m j = g m j := by
  unfold mixW
  rw [phase_row, ite_self]
theorem mixW_skip {m a b : Nat} {g : Nat → Nat → Int} (h : ¬ (a ≠ b ∧ m ≠ a ∧ m ≠ b)) (i j : Nat) : mixW m a b g i j = mixW m a (b + 1) g i j := by
  unfold mixW
  by_cases e : i = a ∧ j = b
  · obtain ⟨rfl, rfl⟩ := e
    rw [if_neg (by omega), if_pos (by omega)]
    unfold phase
    rw [if_neg h]
  · by_cases c : i < a ∨ (i = a ∧ j < b)
    · rw [if_pos c, if_pos (by omega)]
    · rw [if_neg c, if_neg (by omega)]
theorem mixW_set {m a b : Nat} {g : Nat → Nat → Int} (h : a ≠ b ∧ m ≠ a ∧ m ≠ b) (i j : Nat) : (if i = a ∧ j = b then max (g a b) (min (g a m) (g m b)) else mixW m a b g i j) = mixW m a (b + 1) g i j := by
  unfold mixW
  by_cases e : i = a ∧ j = b
  · obtain ⟨rfl, rfl⟩ := e
    rw [if_pos ⟨rfl, rfl⟩, if_pos (by omega)]
    unfold phase
    rw [if_pos h]
  · rw [if_neg e]
    by_cases c : i < a ∨ (i = a ∧ j < b)
    · rw [if_pos c, if_pos (by omega)]
    · rw [if_neg c, if_neg (by omega)]
theorem mixW_next {m a n i j : Nat} {g : Nat → Nat → Int} (hj : j < n) : mixW m a n g i j = mixW m (a + 1) 0 g i j := by
  unfold mixW
  by_cases c : i < a ∨ (i = a ∧ j < n)
  · rw [if_pos c, if_pos (by omega)]
  · rw [if_neg c, if_neg (by omega)]
theorem mixW_all {m n i j : Nat} {g : Nat → Nat → Int} (hi : i < n) : mixW m n 0 g i j = phase m g i j := if_pos (by omega)
def spOrd (K : PySem.W.Frag) : Sp := fun vs H Q _ => ∃ (v : V) (n : Nat) (f : Nat → Nat → Int), vs = [v] ∧ 1 ≤ n ∧ n ≤ 20 ∧ TabR K H v n f ∧ Anti n f ∧ ∀ H2 p, Ex H H2 → H p = none → H2 p = some (.lst (nv (ordF (wid f n) n))) → Q (.ref p) H2
theorem filt_nv (l : List Nat) (p : Nat → Bool) : (((List.range l.length).filter fun i => p (l.getD i 0)).map fun i => V.int ((l.getD i 0 : Nat) : Int)) = nv (l.filter p) := by
  have e : l = (List.range l.length).map fun i => l.getD i 0 := by
    apply List.ext_getElem?
    intro i
    rw [List.getElem?_map]
    by_cases h : i < l.length
    · rw [List.getElem?_range h, List.getElem?_eq_getElem h, Option.map_some, List.getD_eq_getElem?_getD, List.getElem?_eq_getElem h]
      rfl
    · rw [List.getElem?_eq_none (by omega), List.getElem?_eq_none (by rw [List.length_range]; omega)]
      rfl
  have e2 : l.filter p = ((List.range l.length).filter fun i => p (l.getD i 0)).map fun i => l.getD i 0 := by
    calc l.filter p = ((List.range l.length).map fun i => l.getD i 0).filter p := by rw [← e]
      _ = _ := by rw [List.filter_map]; rfl
  unfold nv
  rw [e2, List.map_map]
  rfl
theorem nv_at {l : List Nat} {i : Nat} (h : i < l.length) : (nv l)[i]? = some (V.int ((l.getD i 0 : Nat) : Int)) := by
  unfold nv
  rw [List.getElem?_map, List.getElem?_eq_getElem h, List.getD_eq_getElem?_getD, List.getElem?_eq_getElem h]
  rfl
theorem getD_memN {l : List Nat} {i : Nat} (h : i < l.length) : l.getD i 0 ∈ l := by
  rw [List.getD_eq_getElem?_getD, List.getElem?_eq_getElem h]
  exact List.getElem_mem h
theorem all_getD (l : List Nat) (p : Nat → Bool) : ((List.range l.length).map fun i => p (l.getD i 0)).all id = l.all p := by
  rw [Bool.eq_iff_iff, List.all_eq_true, List.all_eq_true]
  constructor
  · intro h x hx
    obtain ⟨i, hi, rfl⟩ := List.mem_iff_getElem.mp hx
    have := h (p (l.getD i 0)) (List.mem_map.mpr ⟨i, List.mem_range.mpr hi, rfl⟩)
    rw [List.getD_eq_getElem?_getD, List.getElem?_eq_getElem hi] at this
    exact this
  · intro h b hb
    obtain ⟨i, hi, rfl⟩ := List.mem_map.mp hb
    exact h _ (getD_memN (List.mem_range.mp hi))
/-- the first place of a thing, and the list without it -/
theorem first_erase : ∀ (l : List Nat) (x : Nat), x ∈ l → ∃ i, l[i]? = some x ∧ (∀ m, m < i → l[m]? ≠ some x) ∧ l.eraseIdx i = l.erase x
  | [], _, h => by simp at h
  | a :: l, x, h => by
    by_cases e : a = x
    · subst e
      exact ⟨0, rfl, fun m hm => by omega, by rw [List.erase_cons_head]; rfl⟩
    · obtain ⟨i, h1, h2, h3⟩ := first_erase l x ((List.mem_cons.mp h).resolve_left fun q => e q.symm)
      refine ⟨i + 1, by simpa using h1, fun m hm => ?_, ?_⟩
      · cases m with
        | zero => simpa using e
        | succ m => simpa using h2 m (by omega)
      · have hb : (a == x) = false := by simpa using e
        rw [List.erase_cons, hb]
        show a :: l.eraseIdx i = a :: l.erase x
        rw [h3]
theorem erase_mapN : ∀ (l : List Nat) (i : Nat), (l.map fun (k : Nat) => (k : Int)).eraseIdx i = (l.eraseIdx i).map fun (k : Nat) => (k : Int)
  | [], _ => rfl
  | _ :: _, 0 => rfl
  | a :: l, i + 1 => congrArg ((a : Int) :: ·) (erase_mapN l i)
theorem nv_app (l m : List Nat) : nv l ++ nv m = nv (l ++ m) := (List.map_append ..).symm
def spReached (K : PySem.W.Frag) : Sp := fun vs H Q _ => ∃ (v : V) (n : Nat) (f : Nat → Nat → Int) (i : Nat) (L : Int), vs = [v, .int (i : Int), .int L] ∧ n ≤ 20 ∧ i < n ∧ TabR K H v n f ∧ ∀ H2 p fs, Ex H H2 → H p = none → H2 p = some (.lst (nv fs)) → (∀ j, j ∈ fs ↔ j < n ∧ Reach n f L i j) → fs.length ≤ n → Q (.ref p) H2
theorem below_len {fs : List Nat} {n : Nat} (hd : fs.Nodup) (hl : ∀ x ∈ fs, x < n) : fs.length ≤ n := by
  have h := sub_len (fs.map fun (k : Nat) => (k : Int)) ((List.range n).map fun (k : Nat) => (k : Int)) ?_ ?_
  · simpa using h
  · exact List.pairwise_map.mpr (hd.imp fun {a b} ne e => ne (by omega))
  · intro x hx
    obtain ⟨k, hk, rfl⟩ := List.mem_map.mp hx
    exact List.mem_map.mpr ⟨k, List.mem_range.mpr (hl k hk), rfl⟩
theorem inV_nv (j : Nat) (fs : List Nat) : inV (V.int (j : Int)) (nv fs) = decide (j ∈ fs) := by
  unfold inV nv
  rw [List.any_map, Bool.eq_iff_iff, List.any_eq_true, decide_eq_true_eq]
  constructor
  · rintro ⟨k, hk, e⟩
    have e2 : (k : Int) = (j : Int) := eq_of_beq e
    rw [show j = k by omega]
    exact hk
  · intro h
    exact ⟨j, h, beq_self_eq_true (j : Int)⟩
theorem nv_flat (fs : List Nat) : (nv fs).all flatV = true := by
  rw [nv_iv]
  exact iv_flat _
theorem reach_mem {n : Nat} {f : Nat → Nat → Int} {L : Int} {i : Nat} {fs : List Nat} (h0 : i ∈ fs) (hc : ∀ k ∈ fs, ∀ j, j < n → L ≤ f k j → j ∈ fs) {j : Nat} (h : Reach n f L i j) : j ∈ fs := by
  induction h with
  | me => exact h0
  | on _ _ hj e ih => exact hc _ ih _ hj e
/-- whom i's group holds: all that are reached over those whom one is not ahead of -/
def Grp (n : Nat) (f : Nat → Nat → Int) (i : Nat) (ks : List Nat) : Prop := ks.Pairwise (· < ·) ∧ ∀ j, j ∈ ks ↔ j < n ∧ Reach n (fun a b => - f a b) 0 i j
/-- the first of the least groups -/
def IsTops (n : Nat) (f : Nat → Nat → Int) (ks : List Nat) : Prop := ∃ (gs : List (List Nat)) (i : Nat), gs.length = n ∧ (∀ j, j < n → Grp n f j (gs.getD j [])) ∧ i < n ∧ ks = gs.getD i [] ∧ ∀ j, j < n → ks.length ≤ (gs.getD j []).length ∧ (j < i → ks.length < (gs.getD j []).length)
def spTops (K : PySem.W.Frag) : Sp := fun vs H Q _ => ∃ (v : V) (n : Nat) (f : Nat → Nat → Int), vs = [v] ∧ 1 ≤ n ∧ n ≤ 20 ∧ TabR K H v n f ∧ Anti n f ∧ ∀ H2 p ks, Ex H H2 → H p = none → H2 p = some (.lst (nv ks)) → IsTops n f ks → Q (.ref p) H2
theorem rising_same : ∀ {l m : List Nat}, l.Pairwise (· < ·) → m.Pairwise (· < ·) → (∀ x, x ∈ l ↔ x ∈ m) → l = m
  | [], [], _, _, _ => rfl
  | [], b :: m, _, _, h => absurd ((h b).mpr (List.mem_cons_self ..)) (by simp)
  | a :: l, [], _, _, h => absurd ((h a).mp (List.mem_cons_self ..)) (by simp)
  | a :: l, b :: m, h1, h2, h => by
    obtain ⟨a1, a2⟩ := List.pairwise_cons.mp h1
    obtain ⟨b1, b2⟩ := List.pairwise_cons.mp h2
    have e : a = b := by
      rcases List.mem_cons.mp ((h a).mp (List.mem_cons_self ..)) with e | e
      · exact e
      · rcases List.mem_cons.mp ((h b).mpr (List.mem_cons_self ..)) with e2 | e2
        · exact e2.symm
        · have := b1 a e
          have := a1 b e2
          omega
    subst e
    have : l = m := rising_same a2 b2 fun x => ⟨fun hx => by
      rcases List.mem_cons.mp ((h x).mp (List.mem_cons_of_mem _ hx)) with e | e
      · subst e
        exact absurd (a1 x hx) (Nat.lt_irrefl _)
      · exact e, fun hx => by
      rcases List.mem_cons.mp ((h x).mpr (List.mem_cons_of_mem _ hx)) with e | e
      · subst e
        exact absurd (b1 x hx) (Nat.lt_irrefl _)
      · exact e⟩
    rw [this]
theorem Grp.same {n : Nat} {f : Nat → Nat → Int} {i : Nat} {ks ls : List Nat} (h : Grp n f i ks) (h' : Grp n f i ls) : ks = ls := rising_same h.1 h'.1 fun x => by rw [h.2, h'.2]
theorem IsTops.same {n : Nat} {f : Nat → Nat → Int} {ks ls : List Nat} (h : IsTops n f ks) (h' : IsTops n f ls) : ks = ls := by
  obtain ⟨gs, i, g1, g2, g3, g4, g5⟩ := h
  obtain ⟨gs', i', g1', g2', g3', g4', g5'⟩ := h'
  have e : ∀ j, j < n → gs.getD j [] = gs'.getD j [] := fun j hj => (g2 j hj).same (g2' j hj)
  have a := g5 i' g3'
  have b := g5' i g3
  rw [e i' g3', ← g4'] at a
  rw [← e i g3, ← g4] at b
  have : i = i' := by
    rcases Nat.lt_trichotomy i i' with h | h | h
    · have := b.2 h
      omega
    · exact h
    · have := a.2 h
      omega
  subst this
  rw [g4, g4', e i g3]
/-- a sorted list of unlike numbers rises -/
theorem rising_of {ns : List Int} {fs : List Nat} (perm : ns.Perm (fs.map fun (k : Nat) => (k : Int))) (srt : ns.Pairwise (· ≤ ·)) (nd : fs.Nodup) : ∃ ks : List Nat, ns = (ks.map fun (k : Nat) => (k : Int)) ∧ ks.Pairwise (· < ·) ∧ ks.Perm fs := by
  have back : ∀ l : List Int, (∀ x ∈ l, 0 ≤ x) → l = (l.map Int.toNat).map fun (k : Nat) => (k : Int) := fun l h => by
    rw [List.map_map]
    conv => lhs; rw [← List.map_id l]
    refine List.map_congr_left fun x hx => ?_
    have := h x hx
    show x = ((x.toNat : Nat) : Int)
    omega
  have pos : ∀ x ∈ ns, 0 ≤ x := fun x hx => by
    obtain ⟨k, _, rfl⟩ := List.mem_map.mp (perm.mem_iff.mp hx)
    omega
  have e1 := back ns pos
  have p2 : (ns.map Int.toNat).Perm fs := by
    have := perm.map Int.toNat
    rw [List.map_map] at this
    have e : fs.map (Int.toNat ∘ fun (k : Nat) => (k : Int)) = fs := by
      conv => rhs; rw [← List.map_id fs]
      exact List.map_congr_left fun x _ => rfl
    rw [e] at this
    exact this
  refine ⟨_, e1, ?_, p2⟩
  have nd2 : (ns.map Int.toNat).Nodup := p2.nodup_iff.mpr nd
  have le2 : (ns.map Int.toNat).Pairwise (· ≤ ·) := by
    rw [List.pairwise_map]
    exact srt.imp fun h => by omega
  have := le2.and nd2
  exact this.imp fun h => by omega
theorem ok_tops (T : Tx K mg) : FnOk P w K mg base CX0 3 T.f_tops T.d_tops ["table"] (spTops K) := by
  refine T.F_tops.ok sc_tops (fun vs H Q E h => ?_) (fun cdv A outer s H vs Q E hr h => ?_)
  · obtain ⟨v, n, f, rfl, _⟩ := h
    rfl
  · obtain ⟨v, n, f, rfl, hn1, hn, TT, hA, q⟩ := h
    refine ⟨_, pss_cons (ps_expr (pe_call (ok_asked_table T) (hr.mono (by decide)) (by rfl) T.g_asked_table T.F_asked_table.kp (b_asked_table T) .nil pass0 (pa_cons (pv 0) pa_nil)))
      (pss_cons (ps_set (i := 1) sc_tops.nd rfl (Or.inl rfl) (pe_lst pa_nil))
      (pss_cons (ps_for PassesOwn.never rfl (pi_range1 (by rfl) T.n_range (pa_cons (pe_callB (lenK K) (by rfl) T.n_len PySem.boot_len (pa_cons (pv 0) pa_nil)) pa_nil)) (pg_name (i := 2) sc_tops.nd rfl (by first | exact Or.inl rfl | exact Or.inr rfl))
        (pss_cons (ps_set (i := 3) sc_tops.nd rfl (Or.inr rfl) (pe_lst (pa_cons (pv 2) pa_nil)))
      (pss_cons (ps_set (i := 4) sc_tops.nd rfl (Or.inl rfl) pe_int)
      (pss_cons (ps_while PassesOwn.never (pt_cmpR op_lt (pv 4) (pe_callB (lenK K) (by rfl) T.n_len PySem.boot_len (pa_cons (pv 3) pa_nil)) (nomark _)) (pss_cons (ps_set (i := 5) sc_tops.nd rfl (Or.inr rfl) (pe_ix (ixLK K) (pv 0) (pe_ix (ixLK K) (pv 3) (pv 4) (fun _ _ => rfl)) (fun _ _ => rfl)))
      (pss_cons (ps_expr (pe_bm PySem.F.plainAttrs_list PySem.F.slot_list_extend PySem.F.type_list_extend mt_extend (pv 3) (pa_cons (pe_lc (own := [("other", 6)]) rfl sc_tops.nd (pi_range1 (by rfl) T.n_range (pa_cons (pe_callB (lenK K) (by rfl) T.n_len PySem.boot_len (pa_cons (pv 0) pa_nil)) pa_nil)) (blkOk_by (own := [("other", 6)]) (N := ["table", "groups", "who", "group", "at", "row", "other"]) (sc := defScope s_tops) (by decide +kernel)) (fun _ _ _ _ _ => (pg_name (i := 6) sc_tops.nd rfl (by first | exact Or.inl rfl | exact Or.inr rfl))) (fun _ _ _ _ _ => pts_one (PW.pt (pw_and (pt_cmpR (notInK K) (pv 6) (pv 3) (by rfl)) (pw_and1 (pt_cmpR op_le (pe_ix (ixLK K) (pv 5) (pv 6) (fun _ _ => rfl)) pe_int (nomark _)))))) (fun _ _ _ _ _ => (pv 6))) pa_nil)))
      (pss_one (ps_set (i := 4) sc_tops.nd rfl (Or.inl rfl) (pe_op op_add (pv 4) pe_int))))))
      (pss_one (ps_expr (pe_bm PySem.F.plainAttrs_list PySem.F.slot_list_append PySem.F.type_list_append mt_append (pv 1) (pa_cons (pe_callB (sortK K) (by rfl) T.n_sorted PyProof.Rows.boot_sorted (pa_cons (pv 3) pa_nil)) pa_nil))))))))
      (pss_one (ps_ret (pe_minLen (pa_cons (pv 1) pa_nil) (by rfl) T.n_min (by rfl) T.n_len))))), ?_⟩
    obtain ⟨t, xs, rfl, hS, hl, hat⟩ := TT.at_
    refine ⟨_, rfl, _, n, f, rfl, hn1, hn, TT, hA, fun H1 e1 => ?_⟩
    refine ⟨Nat.zero_le _, fun G nG => ?_⟩
    refine ⟨_, rfl, t, _, rfl, .inl (ex_l (e1.trans (Ex.new nG)) hS), (xs.length : Int), rfl, by omega, by omega, ?_⟩
    rw [hl]
    refine for_it (walk_rg0 (n := n)) (fun i σ' H' => ∃ (y2 y3 y4 y5 : Option V) (ps : List Addr) (gs : List (List Nat)), σ' = [some (.ref t), some (.ref G), y2, y3, y4, y5, none] ∧ Ex H1 H' ∧ H' G = some (.lst (ps.map V.ref)) ∧ gs.length = i ∧ Paired (fun p ks => p ≠ G ∧ H1 p = none ∧ H' p = some (.lst (nv ks))) ps gs ∧ ∀ j, j < i → Grp n f j (gs.getD j []))
      ⟨_, _, _, _, [], [], rfl, Ex.new nG, upd_same, rfl, .nil, fun j h => absurd h (Nat.not_lt_zero _)⟩ (fun _ _ _ _ _ => trivial) ?_ ?_
    · rintro i x σ' H0 H' hi ⟨y2, y3, y4, y5, ps, gs, rfl, e, hG, hgl, hP, hgr⟩ ⟨rfl, rfl⟩
      refine ⟨_, rfl, (by decide : 1 ≤ sizeLine), fun F nF => ?_⟩
      refine ⟨fun m σ' H2 => ∃ (fs : List Nat) (at' : Nat) (y5 : Option V), σ' = [some (.ref t), some (.ref G), some (.int i), some (.ref F), some (.int at'), y5, none] ∧ Ex H' H2 ∧ H2 F = some (.lst (nv fs)) ∧ fs.Nodup ∧ (∀ x ∈ fs, x < n ∧ Reach n (fun a b => - f a b) 0 i x) ∧ i ∈ fs ∧ at' ≤ fs.length ∧ (∀ p k, p < at' → fs[p]? = some k → ∀ j, j < n → 0 ≤ - f k j → j ∈ fs) ∧ n - at' = m,
        ⟨n, [i], 0, _, rfl, Ex.new nF, upd_same, by simp, fun x hx => ?_, by simp, Nat.zero_le _, fun p k h => by omega, rfl⟩, ?_⟩
      · have : x = i := by simpa using hx
        rw [this]
        exact ⟨hi, .me⟩
      rintro m σ' H2 ⟨fs, at', y5, rfl, e2, hF, hnd, hall, hme, hle, hcl, rfl⟩
      have hfl : fs.length ≤ n := below_len hnd fun x hx => (hall x hx).1
      have eH := e1.trans (e.trans e2)
      refine ⟨_, rfl, _, rfl, F, _, rfl, .inl (sq_of hF), _, _, rfl, rfl, _, rfl, ?_⟩
      rw [nv_length]
      by_cases hlt : at' < fs.length
      · refine itT (decide_eq_true (by omega)) ?_
        refine ⟨fun σ2 Hz => ∃ (fs : List Nat) (y5 : Option V), σ2 = [some (.ref t), some (.ref G), some (.int i), some (.ref F), some (.int ((at' + 1 : Nat) : Int)), y5, none] ∧ Ex H' Hz ∧ Hz F = some (.lst (nv fs)) ∧ fs.Nodup ∧ (∀ x ∈ fs, x < n ∧ Reach n (fun a b => - f a b) 0 i x) ∧ i ∈ fs ∧ at' + 1 ≤ fs.length ∧ (∀ p k, p < at' + 1 → fs[p]? = some k → ∀ j, j < n → 0 ≤ - f k j → j ∈ fs), ?_, ?_⟩
        · rintro σ2 Hz ⟨gs, y, c1, c2, c3, c4, c5, c6, c7, c8⟩
          exact ⟨n - (at' + 1), by omega, gs, at' + 1, y, c1, c2, c3, c4, c5, c6, c7, c8, rfl⟩
        obtain ⟨hkn, hkR⟩ := hall _ (List.getElem_mem hlt)
        obtain ⟨r, g1, g2⟩ := hat fs[at'] hkn
        have hk : (nv fs)[at']? = some (V.int ((fs[at'] : Nat) : Int)) := by
          unfold nv
          rw [List.getElem?_map, List.getElem?_eq_getElem hlt]
          rfl
        refine ⟨_, rfl, _, rfl, _, rfl, F, _, at', _, rfl, rfl, sq_of hF, atI_nat hk, t, _, _, .ref r, rfl, rfl, ex_l eH hS, atI_nat g1, ?_⟩
        refine ⟨_, rfl, .inl ⟨rfl, _, sq_of hF⟩, _, rfl, t, _, rfl, .inl (ex_l eH hS), (xs.length : Int), rfl, by omega, by omega, fun D hD => ?_⟩
        rw [hl]
        refine lc_filt (n := n) (walk_rg0 (n := n)) hD (by omega) (fun _ _ => trivial) (fun j => !decide (j ∈ fs) && decide (f fs[at'] j ≤ 0)) (fun j => V.int (j : Int)) ?_ ?_
        · rintro j x Ha Ha' hj ea ⟨rfl, rfl⟩ Bf Qc hno hyes
          refine ⟨rfl, _, rfl, _, rfl, F, _, rfl, .inl (sq_of (ea _ _ hF)), rfl, nv_flat _, _, rfl, ?_⟩
          show if (!inV (V.int (j : Int)) (nv fs)) = true then _ else _
          rw [inV_nv]
          refine it2 (fun h1 => ?_) (fun h1 => ?_)
          · refine ⟨_, rfl, _, rfl, r, _, j, .int _, rfl, rfl, ex_l (eH.trans ea) g2, atI_nat (rowV_get hj), _, _, rfl, rfl, _, rfl, ?_⟩
            exact it2 (fun h2 => ⟨_, rfl, hyes _ (Ex.refl _) (by rw [h1, h2]; rfl)⟩) (fun h2 => hno _ (Ex.refl _) (by rw [h1, h2]; rfl))
          · exact hno _ (Ex.refl _) (by rw [h1]; rfl)
        · intro H3 e3 hD3
          obtain ⟨gs, hgs⟩ : ∃ gs : List Nat, gs = (List.range n).filter fun j => !decide (j ∈ fs) && decide (f fs[at'] j ≤ 0) := ⟨_, rfl⟩
          rw [← hgs] at hD3
          have hgm : ∀ j, j ∈ gs ↔ j < n ∧ j ∉ fs ∧ f fs[at'] j ≤ 0 := fun j => by
            rw [hgs, List.mem_filter, List.mem_range, Bool.and_eq_true, decide_eq_true_eq, Bool.not_eq_true', decide_eq_false_iff_not]
          have hnd2 : (fs ++ gs).Nodup := by
            rw [List.nodup_append]
            refine ⟨hnd, by rw [hgs]; exact List.nodup_range.filter _, fun a ha b hb e9 => ((hgm b).mp hb).2.1 (e9 ▸ ha)⟩
          have hall2 : ∀ x ∈ fs ++ gs, x < n ∧ Reach n (fun a b => - f a b) 0 i x := fun x hx => (List.mem_append.mp hx).elim (hall x) fun hg => ⟨((hgm x).mp hg).1, .on hkR hkn ((hgm x).mp hg).1 (by have := ((hgm x).mp hg).2.2; omega)⟩
          have hlen2 := below_len hnd2 fun x hx => (hall2 x hx).1
          refine ⟨F, D, _, nv gs, rfl, rfl, e3 _ _ hF, hD3, sz_of (by rw [nv_length, nv_length]; rw [List.length_append] at hlen2; omega), ?_⟩
          refine ⟨_, rfl, _, _, rfl, rfl, fs ++ gs, _, rfl, (e2.trans e3).mut nF, ?_, hnd2, hall2, List.mem_append_left _ hme, by rw [List.length_append]; omega, fun p k hp hpk j hj hL => ?_⟩
          · rw [upd_same, nv_app]
          · by_cases hp2 : p < at'
            · rw [List.getElem?_append_left (by omega)] at hpk
              exact List.mem_append_left _ (hcl p k hp2 hpk j hj hL)
            · have ep : p = at' := by omega
              subst ep
              rw [List.getElem?_append_left hlt, List.getElem?_eq_getElem hlt] at hpk
              cases hpk
              by_cases hm : j ∈ fs
              · exact List.mem_append_left _ hm
              · exact List.mem_append_right _ ((hgm j).mpr ⟨hj, hm, by omega⟩)
      · refine itF (decide_eq_false (by omega)) ?_
        have hgrp : ∀ j, j ∈ fs ↔ j < n ∧ Reach n (fun a b => - f a b) 0 i j := fun j => ⟨fun h => hall j h, fun h => reach_mem hme (fun k hk j hj hL => by
          obtain ⟨p, hp, ep⟩ := List.mem_iff_getElem.mp hk
          exact hcl p k (by omega) (by rw [List.getElem?_eq_getElem hp, ep]) j hj hL) h.2⟩
        have hG2 := e2 _ _ hG
        have hFi : SqL K H2 F ((fs.map fun (k : Nat) => (k : Int)).map V.int) := by
          have := sq_of (K := K) hF
          rw [nv_iv] at this
          exact this
        refine ⟨_, rfl, .inl ⟨rfl, _, sq_of hG2⟩, _, rfl, F, _, rfl, hFi, by rw [List.length_map]; omega, fun ns p perm srt np => ?_⟩
        obtain ⟨ks, rfl, hks, hkp⟩ := rising_of perm srt hnd
        have ep := Ex.new (o := .lst ((ks.map fun (k : Nat) => (k : Int)).map V.int)) np
        have hpG : p ≠ G := (ne_of_fresh hG2 np).symm
        have hpl : ps.length = gs.length := Paired.len hP
        refine ⟨G, _, _, rfl, rfl, ep _ _ hG2, sz_lt (by rw [List.length_map]; omega), ?_⟩
        refine ⟨_, _, _, _, ps ++ [p], gs ++ [ks], rfl, (e.trans (e2.trans ep)).mut nG, ?_, by rw [List.length_append, hgl]; rfl, ?_, fun j hj => ?_⟩
        · rw [upd_same, List.map_append]
          rfl
        · refine Paired.append ?_ (.cons ⟨hpG, fresh_back (e.trans e2) np, ?_⟩ .nil)
          · refine L2.Paired.mapP hP fun p' k' h => ⟨h.1, h.2.1, ?_⟩
            rw [upd_ne h.1]
            exact ep _ _ (e2 _ _ h.2.2)
          · rw [upd_ne hpG, upd_same]
            show some (HO.lst (iv _)) = _
            rw [← nv_iv]
        · by_cases hji : j < i
          · rw [List.getD_eq_getElem?_getD, List.getElem?_append_left (by omega), ← List.getD_eq_getElem?_getD]
            exact hgr j hji
          · have : j = gs.length := by omega
            subst this
            rw [List.getD_eq_getElem?_getD, List.getElem?_append_right (Nat.le_refl _), Nat.sub_self]
            exact ⟨hks, fun x => by rw [hgl, ← hgrp x]; exact hkp.mem_iff⟩
    · rintro σ' H2 ⟨y2, y3, y4, y5, ps, gs, rfl, e, hG, hgl, hP, hgr⟩
      have hpl : ps.length = gs.length := Paired.len hP
      have hP2 : Paired (fun p xs => SqL K H2 p xs) ps (gs.map nv) := by
        clear hgr hG hgl hpl
        induction hP with
        | nil => exact .nil
        | cons a _ ih => exact .cons (sq_of a.2.2) ih
      refine ⟨_, rfl, _, rfl, G, ps, gs.map nv, rfl, sq_of hG, by omega, hP2, fun i p hp hbest => ?_⟩
      obtain ⟨ks, hks, h1, h2, h3⟩ := Paired.get hP hp
      have hin : i < n := by
        have := (List.getElem?_eq_some_iff.mp hp).1
        omega
      have at_ : ∀ j, j < n → ((gs.map nv).getD j []).length = (gs.getD j []).length := fun j hj => by
        rw [List.getD_eq_getElem?_getD, List.getD_eq_getElem?_getD, List.getElem?_map, List.getElem?_eq_getElem (by omega)]
        exact nv_length _
      have eks : gs.getD i [] = ks := by rw [List.getD_eq_getElem?_getD, hks]; rfl
      refine q _ p ks (e1.trans e) (fresh_back e1 h2) h3 ⟨gs, i, hgl, hgr, hin, eks.symm, fun j hj => ?_⟩
      have := hbest j (by omega)
      rw [at_ i hin, at_ j hj, eks] at this
      exact this
inductive Fore (CU CR : Addr) (H H2 : Hp) (x : Addr) (n : Nat) (f : Nat → Nat → Int) : Prop where
  | unb (dx : Addr) (w : Nat) (hx : H2 x = some (.ins CU dx [("who", .int (w : Int))])) (hw : w < n) (hu : ∀ j, j < n → 0 ≤ f w j) (hno : ∀ u, u < w → ∃ j, j < n ∧ f u j < 0)
  | ring (dx p : Addr) (ks : List Nat) (np : H p = none) (hx : H2 x = some (.ins CR dx [("way", .ref p)])) (hp : H2 p = some (.lst (nv ks))) (hno : ∀ u, u < n → ∃ j, j < n ∧ f u j < 0) (hsh : shR n f (ks.map fun (k : Nat) => (k : Int)) = true) (hl : ks.length ≤ n)
def spFore (K : PySem.W.Frag) (CU CR : Addr) : Sp := fun vs H Q _ => ∃ (v : V) (n : Nat) (f : Nat → Nat → Int), vs = [v] ∧ 1 ≤ n ∧ n ≤ 20 ∧ TabR K H v n f ∧ Anti n f ∧ ∀ H2 x, Ex H H2 → H x = none → Fore CU CR H H2 x n f → Q (.ref x) H2
theorem at0_nat {rs : List Nat} {i : Nat} : (at0 (rs.map fun (k : Nat) => (k : Int)) i).toNat = rs.getD i 0 := by
  unfold at0
  rw [List.getD_eq_getElem?_getD, List.getD_eq_getElem?_getD, List.getElem?_map]
  cases rs[i]? <;> rfl
theorem rev_at {ws : List Nat} {j i : Nat} (hj : j < ws.length) (hi : i < ws.length - j) : ((ws.drop j).reverse).getD i 0 = ws.getD (ws.length - 1 - i) 0 := by
  rw [List.getD_eq_getElem?_getD, List.getD_eq_getElem?_getD, List.getElem?_reverse (by rw [List.length_drop]; exact hi), List.getElem?_drop, List.length_drop]
  congr 2
  omega
theorem ring_of {n : Nat} {f : Nat → Nat → Int} {ws : List Nat} {j : Nat} (hj : j < ws.length) (nd : ws.Nodup) (lt : ∀ x ∈ ws, x < n) (ch : ∀ i, i + 1 < ws.length → 0 < f (ws.getD (i + 1) 0) (ws.getD i 0)) (cl : 0 < f (ws.getD j 0) (ws.getD (ws.length - 1) 0)) :
    shR n f (((ws.drop j).reverse).map fun (k : Nat) => (k : Int)) = true := by
  have hl : ((ws.drop j).reverse).length = ws.length - j := by rw [List.length_reverse, List.length_drop]
  unfold shR
  rw [Bool.and_eq_true, Bool.and_eq_true, Bool.and_eq_true]
  refine ⟨?_, decide_eq_true ?_, ?_, ?_⟩
  · cases h : (((ws.drop j).reverse).map fun (k : Nat) => (k : Int)) with
    | nil =>
      have := congrArg List.length h
      rw [List.length_map, hl] at this
      simp at this
      omega
    | cons a l => rfl
  · refine List.pairwise_map.mpr ?_
    have : ((ws.drop j).reverse).Nodup := List.pairwise_reverse.mpr (((nd.sublist (List.drop_sublist j ws))).imp fun h => h.symm)
    exact this.imp fun h e => h (by omega)
  · rw [List.all_eq_true]
    intro x hx
    obtain ⟨k, hk, rfl⟩ := List.mem_map.mp hx
    have := lt k (List.mem_of_mem_drop (List.mem_reverse.mp hk))
    unfold inB
    rw [decide_eq_true (by omega), decide_eq_true (by omega)]
    rfl
  · unfold ringBack
    rw [List.all_eq_true]
    intro i hi
    rw [List.mem_range, List.length_map, hl] at hi
    rw [List.length_map, hl, at0_nat, at0_nat, rev_at hj hi]
    by_cases e : i = 0
    · subst e
      rw [if_pos rfl, rev_at hj (by omega), show ws.length - 1 - (ws.length - j - 1) = j by omega]
      exact decide_eq_true cl
    · rw [if_neg e, rev_at hj (by omega)]
      have := ch (ws.length - 1 - i) (by omega)
      rw [show ws.length - 1 - i + 1 = ws.length - 1 - (i - 1) by omega] at this
      exact decide_eq_true this
theorem ok_foremost (T : Tx K mg) : FnOk P w K mg base CX0 3 T.f_foremost T.d_foremost ["table"] (spFore K T.c_Unbeaten T.c_Ring) := by
  refine T.F_foremost.ok sc_foremost (fun vs H Q E h => ?_) (fun cdv A outer s H vs Q E hr h => ?_)
  · obtain ⟨v, n, f, rfl, _⟩ := h
    rfl
  · obtain ⟨v, n, f, rfl, hn1, hn, TT, hA, q⟩ := h
    refine ⟨_, pss_cons (ps_expr (pe_call (ok_asked_table T) (hr.mono (by decide)) (by rfl) T.g_asked_table T.F_asked_table.kp (b_asked_table T) .nil pass0 (pa_cons (pv 0) pa_nil)))
      (pss_cons (ps_for PassesOwn.never rfl (piE K (by rfl) T.n_enumerate (pa_cons (pv 0) pa_nil)) (pgT K (n := 2) (pgs_cons (pg_name (i := 1) sc_foremost.nd rfl (by first | exact Or.inl rfl | exact Or.inr rfl)) (pgs_cons (pg_name (i := 2) sc_foremost.nd rfl (by first | exact Or.inl rfl | exact Or.inr rfl)) pgs_nil)))
        (pss_one (ps_if (pt_cmpR op_ge (pe_callB (minK K) (by rfl) T.n_min PyProof.Rows.boot_min (pa_cons (pv 2) pa_nil)) pe_int (nomark _)) (pss_one (ps_ret (pe_make T.M_Unbeaten (ok_Unbeaten__init T) (hr.mono (by decide)) (by rfl) T.g_Unbeaten (b_Unbeaten__init T) .nil pass0 (pa_cons (pv 1) pa_nil)))) (pss_nil))))
      (pss_cons (ps_set (i := 3) sc_foremost.nd rfl (Or.inl rfl) (pe_lst (pa_cons pe_int pa_nil)))
      (pss_one (ps_while PassesOwn.never (pt_val pe_bl) (pss_cons (ps_set (i := 2) sc_foremost.nd rfl (Or.inr rfl) (pe_ix (ixLK K) (pv 0) (pe_ix (ixLK K) (pv 3) (pe_un un_neg pe_int) (fun _ _ => rfl)) (fun _ _ => rfl)))
      (pss_cons (ps_set (i := 4) sc_foremost.nd rfl (Or.inl rfl) (pe_ix (ixLK K) (pe_lc (own := [("one", 5)]) rfl sc_foremost.nd (pi_range1 (by rfl) T.n_range (pa_cons (pe_callB (lenK K) (by rfl) T.n_len PySem.boot_len (pa_cons (pv 0) pa_nil)) pa_nil)) (blkOk_by (own := [("one", 5)]) (N := ["table", "who", "row", "way", "further", "one"]) (sc := defScope s_foremost) (by decide +kernel)) (fun _ _ _ _ _ => (pg_name (i := 5) sc_foremost.nd rfl (by first | exact Or.inl rfl | exact Or.inr rfl))) (fun _ _ _ _ _ => pts_one (pt_cmpR op_lt (pe_ix (ixLK K) (pv 2) (pv 5) (fun _ _ => rfl)) pe_int (nomark _))) (fun _ _ _ _ _ => (pv 5))) pe_int (fun _ _ => rfl)))
      (pss_cons (ps_if (pt_cmpR (inK K) (pv 4) (pv 3) (by rfl)) (pss_one (ps_ret (pe_make T.M_Ring (ok_Ring__init T) (hr.mono (by decide)) (by rfl) T.g_Ring (b_Ring__init T) .nil pass0 (pa_cons (revLK K (pe_slice (slLK K) (pv 3) (po_some (pe_bm PySem.F.plainAttrs_list PySem.F.slot_list_index PySem.F.type_list_index mt_index (pv 3) (pa_cons (pv 4) pa_nil))) po_none)) pa_nil)))) (pss_nil))
      (pss_one (ps_expr (pe_bm PySem.F.plainAttrs_list PySem.F.slot_list_append PySem.F.type_list_append mt_append (pv 3) (pa_cons (pv 4) pa_nil))))))))))), ?_⟩
    obtain ⟨t, xs, rfl, hS, hl, hat⟩ := TT.at_
    refine ⟨_, rfl, _, n, f, rfl, hn1, hn, TT, hA, fun H1 e1 => ?_⟩
    refine ⟨_, rfl, t, xs, rfl, ex_l e1 hS, ?_⟩
    refine for_it (walk_enum (K := K) (a := t) (xs := xs)) (fun i σ' H' => ∃ (y1 y2 : Option V), σ' = [some (.ref t), y1, y2, none, none, none] ∧ Ex H1 H' ∧ ∀ u, u < i → ∃ j, j < n ∧ f u j < 0)
      ⟨_, _, rfl, Ex.refl _, fun u h => absurd h (Nat.not_lt_zero _)⟩ (fun i σ' H' _ ⟨_, _, _, e, _⟩ => ex_l (e1.trans e) hS) ?_ ?_
    · rintro i x' σ' H' H'' hi ⟨y1, y2, rfl, e, hno⟩ ⟨U, x1, x2, rfl, nU, rfl, h1, h2⟩
      cases h1
      rw [hl] at hi
      obtain ⟨r, g1, g2⟩ := hat i hi
      change xs[i]? = some x2 at h2
      rw [g1] at h2
      cases h2
      have eU := Ex.new (o := .tup [.int (i : Nat), .ref r]) nU
      refine ⟨U, _, rfl, st_of upd_same, rfl, _, _, rfl, _, [], rfl, rfl, ?_⟩
      have eH := e1.trans (e.trans eU)
      have g3 := ex_l eH g2
      rw [rowV_iv] at g3
      refine ⟨_, rfl, r, _, rfl, g3, by rw [List.length_map, List.length_range]; omega, fun m hm hle => ⟨_, _, rfl, rfl, _, rfl, it2 (fun h0 => ?_) (fun h0 => ?_)⟩⟩
      · have hm0 : 0 ≤ m := of_decide_eq_true h0
        refine ⟨_, rfl, ?_⟩
        intro x dx nx ndx nxd
        refine ⟨x, dx, _, rfl, upd_same, fun H3 eB hx => ⟨rfl, ?_⟩⟩
        have eA := ex_after nx ndx nxd eB
        refine q H3 x (eH.trans eA) (fresh_back eH nx) (.unb dx i hx hi (fun j hj => ?_) hno)
        have := hle (f i j) (List.mem_map.mpr ⟨j, List.mem_range.mpr hj, rfl⟩)
        omega
      · have hm0 : ¬ 0 ≤ m := of_decide_eq_false h0
        refine ⟨_, _, rfl, e.trans eU, fun u hu => ?_⟩
        by_cases hui : u < i
        · exact hno u hui
        · have : u = i := by omega
          subst this
          obtain ⟨j, hj, rfl⟩ := List.mem_map.mp hm
          exact ⟨j, List.mem_range.mp hj, by omega⟩
    · rintro σ' H2 ⟨y1, y2, rfl, e2, hno⟩
      rw [hl] at hno
      refine ⟨(by decide : 1 ≤ sizeLine), fun W nW => ?_⟩
      refine ⟨fun m σ' H' => ∃ (ws : List Nat) (y2 y4 : Option V), σ' = [some (.ref t), y1, y2, some (.ref W), y4, none] ∧ Ex H2 H' ∧ H' W = some (.lst (nv ws)) ∧ ws.Nodup ∧ (∀ x ∈ ws, x < n) ∧ 0 < ws.length ∧ (∀ i, i + 1 < ws.length → 0 < f (ws.getD (i + 1) 0) (ws.getD i 0)) ∧ n - ws.length = m,
        ⟨n - 1, [0], _, _, rfl, Ex.new nW, upd_same, by simp, fun x hx => ?_, by decide, fun i hi => ?_, rfl⟩, ?_⟩
      · have : x = 0 := by simpa using hx
        omega
      · simp at hi
      rintro m σ' H3 ⟨ws, y2, y4, rfl, e3, hW, hnd, hlt, hpos, hch, rfl⟩
      have hwl : ws.length ≤ n := below_len hnd hlt
      have eH := e1.trans (e2.trans e3)
      refine ⟨true, rfl, ?_⟩
      refine ⟨fun σ2 Hz => ∃ (ws' : List Nat) (y2 y4 : Option V), σ2 = [some (.ref t), y1, y2, some (.ref W), y4, none] ∧ Ex H2 Hz ∧ Hz W = some (.lst (nv ws')) ∧ ws'.Nodup ∧ (∀ x ∈ ws', x < n) ∧ 0 < ws'.length ∧ (∀ i, i + 1 < ws'.length → 0 < f (ws'.getD (i + 1) 0) (ws'.getD i 0)) ∧ ws'.length = ws.length + 1, ?_, ?_⟩
      · rintro σ2 Hz ⟨ws', y2, y4, c1, c2, c3, c4, c5, c6, c7, c8⟩
        have := below_len c4 c5
        exact ⟨n - ws'.length, by omega, ws', y2, y4, c1, c2, c3, c4, c5, c6, c7, rfl⟩
      obtain ⟨la, hla⟩ : ∃ la, ws[ws.length - 1]? = some la := ⟨_, List.getElem?_eq_getElem (by omega)⟩
      have hlan := hlt la (List.mem_of_getElem? hla)
      have elast : ws.getD (ws.length - 1) 0 = la := by rw [List.getD_eq_getElem?_getD, hla]; rfl
      have hat1 : atI (nv ws) (-1) = some (V.int ((la : Nat) : Int)) := by
        have := atI_back (ns := ws.map fun (k : Nat) => (k : Int)) (i := 0) (by rw [List.length_map]; exact hpos)
        rw [if_pos rfl, ← nv_iv, List.length_map] at this
        rw [show (-1 : Int) = ((0 : Nat) : Int) - 1 from rfl, this]
        unfold at0
        rw [List.getD_eq_getElem?_getD, List.getElem?_map, hla]
        rfl
      obtain ⟨r, g1, g2⟩ := hat la hlan
      refine ⟨_, rfl, _, rfl, 1, rfl, W, _, -1, _, rfl, rfl, sq_of hW, hat1, t, _, _, .ref r, rfl, rfl, ex_l eH hS, atI_nat g1, ?_⟩
      refine ⟨_, rfl, t, _, rfl, .inl (ex_l eH hS), (xs.length : Int), rfl, by omega, by omega, fun D hD => ?_⟩
      rw [hl]
      refine lc_filt (n := n) (walk_rg0 (n := n)) hD (by omega) (fun _ _ => trivial) (fun j => decide (f la j < 0)) (fun j => V.int (j : Int)) ?_ ?_
      · rintro j x Ha Ha' hj ea ⟨rfl, rfl⟩ Bf Qc hno2 hyes
        refine ⟨rfl, _, rfl, _, rfl, r, _, j, .int _, rfl, rfl, ex_l (eH.trans ea) g2, atI_nat (rowV_get hj), _, _, rfl, rfl, _, rfl, ?_⟩
        exact it2 (fun h2 => ⟨_, rfl, hyes _ (Ex.refl _) h2⟩) (fun h2 => hno2 _ (Ex.refl _) h2)
      · intro H4 e4 hD4
        obtain ⟨j0, hj0, hf0⟩ := hno la hlan
        obtain ⟨fu, rest, hfl⟩ : ∃ fu rest, ((List.range n).filter fun j => decide (f la j < 0)) = fu :: rest := by
          cases h : ((List.range n).filter fun j => decide (f la j < 0)) with
          | nil =>
            have : j0 ∈ ((List.range n).filter fun j => decide (f la j < 0)) := List.mem_filter.mpr ⟨List.mem_range.mpr hj0, decide_eq_true hf0⟩
            rw [h] at this
            cases this
          | cons a b => exact ⟨a, b, rfl⟩
        have hfm : fu ∈ ((List.range n).filter fun j => decide (f la j < 0)) := by rw [hfl]; exact List.mem_cons_self ..
        obtain ⟨hfn, hff⟩ := List.mem_filter.mp hfm
        have hfn := List.mem_range.mp hfn
        have hff := of_decide_eq_true hff
        have hanti := hA la fu hlan hfn
        rw [hfl] at hD4
        have hW4 := e4 _ _ hW
        refine ⟨D, _, 0, .int (fu : Int), rfl, rfl, sq_of hD4, atI_nat (j := 0) rfl, ?_⟩
        refine ⟨_, rfl, _, rfl, W, _, rfl, .inl (sq_of hW4), rfl, nv_flat _, _, rfl, ?_⟩
        show if (inV (V.int (fu : Int)) (nv ws)) = true then _ else _
        rw [inV_nv]
        refine it2 (fun hin => ?_) (fun hin => ?_)
        · have hin := of_decide_eq_true hin
          obtain ⟨j, hj, ej⟩ := List.mem_iff_getElem.mp hin
          have hjs : ws[j]? = some fu := by rw [List.getElem?_eq_getElem hj, ej]
          have hjv : (nv ws)[j]? = some (V.int (fu : Int)) := by
            unfold nv
            rw [List.getElem?_map, hjs]
            rfl
          refine ⟨_, rfl, _, rfl, .inl ⟨rfl, _, sq_of hW4⟩, _, rfl, W, _, _, j, _, rfl, rfl, sq_of hW4, rfl, nv_flat _, hjv, beq_self_eq_true (fu : Int), fun m z hm hz => ?_, ?_⟩
          · obtain ⟨k, hk, rfl⟩ := nv_get hz
            refine beq_eq_false_iff_ne.mpr fun e9 => ?_
            have : k = fu := by omega
            subst this
            have := nd_ix hnd hk hjs
            omega
          refine ⟨_, rfl, W, _, rfl, sq_of hW4, fun c nc => ?_⟩
          generalize gc : upd _ c _ = G5
          have f5 : Ex H4 G5 := by rw [← gc]; exact Ex.new nc
          have k5 : G5 c = some (.lst (nv (ws.drop j))) := by rw [← gc, upd_same, cut_from, nv_drop]
          clear gc
          refine ⟨c, _, rfl, sq_of k5, fun d nd => ?_⟩
          generalize gd : upd _ d _ = G6
          have f6 : Ex G5 G6 := by rw [← gd]; exact Ex.new nd
          have k6 : G6 d = some (.lst (nv (ws.drop j).reverse)) := by
            rw [← gd, upd_same]
            unfold nv
            rw [List.map_reverse]
          clear gd
          intro x dx nx ndx nxd
          have f7 := ex_made (C := T.c_Ring) nx ndx nxd
          refine ⟨x, dx, d, ((ws.drop j).reverse).map fun (k : Nat) => (k : Int), rfl, upd_same, sq_of (by rw [f7 _ _ k6, nv_iv]), fun H10 p eB np hx hp => ⟨rfl, ?_⟩⟩
          have f8 := ex_after nx ndx nxd eB
          have eZ := eH.trans (e4.trans (f5.trans f6))
          refine q H10 x (eZ.trans f8) (fresh_back eZ nx) (.ring dx p _ (fresh_back eZ (fresh_back f7 np)) hx (by rw [hp, nv_iv]) hno (ring_of hj hnd hlt hch ?_) (by rw [List.length_reverse, List.length_drop]; omega))
          rw [elast, List.getD_eq_getElem?_getD, hjs]
          show 0 < f fu la
          omega
        · have hin := of_decide_eq_false hin
          refine ⟨_, rfl, .inl ⟨rfl, _, sq_of hW4⟩, _, rfl, W, _, _, rfl, rfl, hW4, sz_lt (by rw [nv_length]; omega), ?_⟩
          refine ⟨ws ++ [fu], _, _, rfl, (e3.trans e4).mut nW, ?_, ?_, ?_, ?_, ?_, by rw [List.length_append]; rfl⟩
          · rw [upd_same, ← nv_app]
            rfl
          · rw [List.nodup_append]
            refine ⟨hnd, by simp, fun a ha b hb e9 => hin ?_⟩
            have : b = fu := by simpa using hb
            rw [← this, ← e9]
            exact ha
          · intro x hx
            rcases List.mem_append.mp hx with h | h
            · exact hlt x h
            · have : x = fu := by simpa using h
              omega
          · rw [List.length_append]
            omega
          · intro i hi
            rw [List.length_append] at hi
            have hi : i + 1 < ws.length + 1 := hi
            by_cases h9 : i + 1 < ws.length
            · rw [List.getD_eq_getElem?_getD, List.getD_eq_getElem?_getD, List.getElem?_append_left h9, List.getElem?_append_left (by omega), ← List.getD_eq_getElem?_getD, ← List.getD_eq_getElem?_getD]
              exact hch i h9
            · have : i = ws.length - 1 := by omega
              subst this
              rw [List.getD_eq_getElem?_getD, List.getD_eq_getElem?_getD, List.getElem?_append_right (by omega), List.getElem?_append_left (by omega), hla, show ws.length - 1 + 1 - ws.length = 0 by omega]
              show 0 < f fu la
              omega
end
end Hc
namespace Hc
open PySem PySem.Spec PyProof.Rows L2 Evl
section
variable {P : Program} {w : World} {K : PySem.W.Frag} {mg : Str → Option Value} {base : Heap}
/-- each of S is ahead of all others -/
def Dom (n : Nat) (f : Nat → Nat → Int) (S : List Nat) : Prop := ∀ x ∈ S, ∀ y, y < n → y ∉ S → 0 < f x y
/-- of how many one is ahead -/
def wins (n : Nat) (f : Nat → Nat → Int) (i : Nat) : Nat := ((List.range n).filter fun j => decide (0 < f i j)).length
theorem filt_le {l : List Nat} {p q : Nat → Bool} (h : ∀ x ∈ l, p x = true → q x = true) : (l.filter p).length ≤ (l.filter q).length := by
  induction l with
  | nil => exact Nat.le_refl _
  | cons a l ih =>
    have ih := ih fun x hx => h x (List.mem_cons_of_mem _ hx)
    have ha := h a (List.mem_cons_self ..)
    rw [List.filter_cons, List.filter_cons]
    cases hp : p a with
    | true =>
      rw [ha hp]
      simpa using ih
    | false =>
      cases hq : q a with
      | true => simp; omega
      | false => simpa using ih
theorem filt_lt {l : List Nat} {p q : Nat → Bool} (h : ∀ x ∈ l, p x = true → q x = true) {y : Nat} (hy : y ∈ l) (h1 : q y = true) (h2 : p y = false) : (l.filter p).length < (l.filter q).length := by
  induction l with
  | nil => cases hy
  | cons a l ih =>
    have le := filt_le fun x hx => h x (List.mem_cons_of_mem _ hx)
    rw [List.filter_cons, List.filter_cons]
    rcases List.mem_cons.mp hy with rfl | hy
    · rw [h1, h2]
      simp
      omega
    · have ih := ih (fun x hx => h x (List.mem_cons_of_mem _ hx)) hy
      have ha := h a (List.mem_cons_self ..)
      cases hp : p a with
      | true =>
        rw [ha hp]
        simpa using ih
      | false =>
        cases hq : q a with
        | true => simp; omega
        | false => simpa using ih
theorem dom_wins {n : Nat} {f : Nat → Nat → Int} {S : List Nat} (hA : Anti n f) (hS : ∀ x ∈ S, x < n) (hD : Dom n f S) {x y : Nat} (hx : x ∈ S) (hy : y < n) (hyS : y ∉ S) : wins n f y < wins n f x := by
  have h1 : wins n f y < ((List.range n).filter fun j => !decide (j ∈ S)).length := by
    refine filt_lt (fun j hj h => ?_) (List.mem_range.mpr hy) (by simp [hyS]) ?_
    · have hj := List.mem_range.mp hj
      have h := of_decide_eq_true h
      cases hjs : decide (j ∈ S) with
      | false => rfl
      | true =>
        have := hD j (of_decide_eq_true hjs) y hy hyS
        have := hA j y hj hy
        omega
    · have := hA y y hy hy
      exact decide_eq_false (by omega)
  have h2 : ((List.range n).filter fun j => !decide (j ∈ S)).length ≤ wins n f x := filt_le fun j hj h => by
    have hj := List.mem_range.mp hj
    have h : j ∉ S := by simpa using h
    exact decide_eq_true (hD x hx j hj h)
  omega
theorem nat_sub_len {S U : List Nat} (hS : S.Nodup) (h : ∀ x ∈ S, x ∈ U) : S.length ≤ U.length := by
  have := sub_len (S.map fun (k : Nat) => (k : Int)) (U.map fun (k : Nat) => (k : Int)) (List.pairwise_map.mpr (hS.imp fun ne e => ne (by omega))) (fun x hx => by
    obtain ⟨k, hk, rfl⟩ := List.mem_map.mp hx
    exact List.mem_map.mpr ⟨k, h k hk, rfl⟩)
  simpa using this
theorem nat_sub_all {S U : List Nat} (hU : U.Nodup) (h : ∀ x ∈ U, x ∈ S) (hl : S.length ≤ U.length) : ∀ x ∈ S, x ∈ U := fun x hx => by
  by_cases hxU : x ∈ U
  · exact hxU
  · have := nat_sub_len (S := x :: U) (U := S) (List.nodup_cons.mpr ⟨hxU, hU⟩) (fun y hy => by
      rcases List.mem_cons.mp hy with rfl | hy
      · exact hx
      · exact h y hy)
    simp at this
    omega
/-- the first ones by wins are such a group, if there is one of that size -/
theorem dom_take {n : Nat} {f : Nat → Nat → Int} {S os : List Nat} (hA : Anti n f) (hp : os.Perm (List.range n)) (ho : os.Pairwise fun a b => wins n f b ≤ wins n f a) (hn : S.Nodup) (hS : ∀ x ∈ S, x < n) (hD : Dom n f S) : ∀ x, x ∈ os.take S.length ↔ x ∈ S := by
  have hnd : os.Nodup := hp.nodup_iff.mpr List.nodup_range
  have hle : S.length ≤ os.length := by
    rw [hp.length_eq]
    exact nat_sub_len hn fun x hx => List.mem_range.mpr (hS x hx)
  have htl : (os.take S.length).length = S.length := by rw [List.length_take]; omega
  have key : ∀ x ∈ S, x ∈ os.take S.length := fun x hx => by
    by_cases hin : x ∈ os.take S.length
    · exact hin
    · by_cases hall : ∀ y ∈ os.take S.length, y ∈ S
      · exact nat_sub_all (hnd.sublist (List.take_sublist ..)) hall (by omega) x hx
      · obtain ⟨y, hy⟩ := Classical.not_forall.mp hall
        obtain ⟨hy1, hy2⟩ := Classical.not_imp.mp hy
        have hyn : y < n := List.mem_range.mp (hp.mem_iff.mp (List.mem_of_mem_take hy1))
        have hxos : x ∈ os := hp.mem_iff.mpr (List.mem_range.mpr (hS x hx))
        have hxd : x ∈ os.drop S.length := by
          rw [← List.take_append_drop S.length os] at hxos
          exact (List.mem_append.mp hxos).resolve_left hin
        have := dom_wins hA hS hD hx hyn hy2
        rw [← List.take_append_drop S.length os] at ho
        have := (List.pairwise_append.mp ho).2.2 y hy1 x hxd
        omega
  exact fun x => ⟨fun h => nat_sub_all hn key (by omega) x h, key x⟩
theorem grp_dom {n : Nat} {f : Nat → Nat → Int} {i : Nat} {ks : List Nat} (h : Grp n f i ks) : Dom n f ks := fun x hx y hy hn => by
  by_cases c : 0 < f x y
  · exact c
  · obtain ⟨h1, h2⟩ := (h.2 x).mp hx
    exact absurd ((h.2 y).mpr ⟨hy, .on h2 h1 hy (by omega)⟩) hn
theorem grp_in {n : Nat} {f : Nat → Nat → Int} {i : Nat} {ks S : List Nat} (h : Grp n f i ks) (hS : ∀ x ∈ S, x < n) (hD : Dom n f S) (hi : i ∈ S) : ∀ x ∈ ks, x ∈ S := fun x hx => by
  have hR := ((h.2 x).mp hx).2
  clear hx
  induction hR with
  | me => exact hi
  | @on k j hr hk hj e ih =>
    by_cases c : j ∈ S
    · exact c
    · have := hD k ih j hj c
      omega
/-- the law's own way: the least number of first ones that is such a group -/
theorem tops_least {n : Nat} {f : Nat → Nat → Int} {ks os : List Nat} {m : Nat} (hA : Anti n f) (hp : os.Perm (List.range n)) (ho : os.Pairwise fun a b => wins n f b ≤ wins n f a) (ht : IsTops n f ks) (hm1 : 1 ≤ m) (hmn : m ≤ n) (hD : Dom n f (os.take m))
    (hl : ∀ k, 1 ≤ k → k < m → ¬ Dom n f (os.take k)) : ∀ x, x ∈ os.take m ↔ x ∈ ks := by
  obtain ⟨gs, i, g1, g2, g3, g4, g5⟩ := ht
  have gk := g2 i g3
  rw [← g4] at gk
  have hnd : os.Nodup := hp.nodup_iff.mpr List.nodup_range
  have hos : ∀ x ∈ os, x < n := fun x hx => List.mem_range.mp (hp.mem_iff.mp hx)
  have hol : os.length = n := by rw [hp.length_eq, List.length_range]
  have kn : ks.Nodup := gk.1.imp fun h => Nat.ne_of_lt h
  have klt : ∀ x ∈ ks, x < n := fun x hx => ((gk.2 x).mp hx).1
  have same := dom_take hA hp ho kn klt (grp_dom gk)
  have kpos : 1 ≤ ks.length := by
    have := (gk.2 i).mpr ⟨g3, .me⟩
    exact List.length_pos_of_mem this
  have hmk : m ≤ ks.length := by
    by_cases c : m ≤ ks.length
    · exact c
    · refine absurd ?_ (hl ks.length kpos (by omega))
      intro x hx y hy hn
      exact grp_dom gk x ((same x).mp hx) y hy fun z => hn ((same y).mpr z)
  obtain ⟨w0, hw0⟩ : ∃ w0, w0 ∈ os.take m := by
    cases h : os.take m with
    | nil =>
      have h0 : (os.take m).length = 0 := by rw [h]; rfl
      rw [List.length_take] at h0
      omega
    | cons a l => exact ⟨a, List.mem_cons_self ..⟩
  have hw0n := hos w0 (List.mem_of_mem_take hw0)
  have gw := g2 w0 hw0n
  have hlen := nat_sub_len (gw.1.imp fun h => Nat.ne_of_lt h) (grp_in gw (fun x hx => hos x (List.mem_of_mem_take hx)) hD hw0)
  have := (g5 w0 hw0n).1
  rw [List.length_take] at hlen
  have hkm : ks.length = m := by omega
  rw [← hkm]
  exact same
end
end Hc
namespace Hc
open PySem PySem.Spec PyProof.Rows L2 Evl
section
variable {P : Program} {w : World} {K : PySem.W.Frag} {mg : Str → Option Value} {base : Heap}
def lawNum (c a w : Int) : Int := if 10 ^ 18 ≤ c then c / (1 + a % 7) else
  (((c + 977 * a) * 48271 + w) % 2147483647 * (c + 31 * a + 7)) * (((c + 977 * a) * 48271 + w) % 2147483647 + c + 5) * (((c + 977 * a) * 48271 + w) % 2147483647 * (((c + 977 * a) * 48271 + w) % 2147483647) + 11) / (1009 + a)
def spLawNum : Sp := fun vs H Q _ => ∃ (c a w : Int) (B : Nat), vs = [.int c, .int a, .int w] ∧ 0 ≤ a ∧ a ≤ 1000 ∧ Big B c ∧ B ≤ 2000000 ∧ Q (.int (lawNum c a w)) H
theorem mod31 (x : Int) : 0 ≤ x % 2147483647 ∧ x % 2147483647 < 2147483647 := ⟨Int.emod_nonneg _ (by decide), Int.emod_lt_of_pos _ (by decide)⟩
theorem ok_law_number (T : Tx K mg) : FnOk P w K mg base CX0 1 T.f_law_number T.d_law_number ["_law_cell", "_law_at", "_law_whole"] spLawNum := by
  refine T.F_law_number.ok sc_law_number (fun vs H Q E h => ?_) (fun cdv A outer s H vs Q E hr h => ?_)
  · obtain ⟨c, a, w', B, rfl, _⟩ := h
    rfl
  · obtain ⟨c, a, w', B, rfl, ha0, ha1, hB, hB2, q⟩ := h
    refine ⟨_, pss_cons (ps_if (pt_cmpR op_ge (pv 0) (pe_op op_pow pe_int pe_int) (nomark _)) (pss_one (ps_ret (pe_op op_fdivW (pv 0) (pe_op op_add pe_int (pe_op op_mod (pv 1) pe_int))))) (pss_nil))
      (pss_cons (ps_set (i := 3) sc_law_number.nd rfl (Or.inl rfl) (pe_op op_mod (pe_op op_add (pe_op op_mulG (pe_op op_add (pv 0) (pe_op op_mulG pe_int (pv 1))) pe_int) (pv 2)) pe_int))
      (pss_cons (ps_set (i := 4) sc_law_number.nd rfl (Or.inl rfl) (pe_op op_mulG (pv 3) (pe_op op_add (pe_op op_add (pv 0) (pe_op op_mulG pe_int (pv 1))) pe_int)))
      (pss_one (ps_ret (pe_op op_fdivW (pe_op op_mulG (pe_op op_mulG (pv 4) (pe_op op_add (pe_op op_add (pv 3) (pv 0)) pe_int)) (pe_op op_add (pe_op op_mulG (pv 3) (pv 3)) pe_int)) (pe_op op_add pe_int (pv 1))))))), ?_⟩
    refine ⟨_, rfl, _, _, rfl, rfl, ⟨by decide, by decide, by decide⟩, _, _, rfl, rfl, _, rfl, it2 (fun hc => ?_) (fun hc => ?_)⟩
    · have hc1 : (10 : Int) ^ 18 ≤ c := of_decide_eq_true hc
      have h7 := Int.emod_lt_of_pos a (show (0 : Int) < 7 by decide)
      have h70 := Int.emod_nonneg a (show (7 : Int) ≠ 0 by decide)
      refine ⟨_, rfl, _, rfl, _, _, rfl, rfl, (by decide : (0 : Int) < 7), _, _, rfl, rfl, _, _, rfl, rfl, divW_small (by omega) (by omega), ?_⟩
      unfold lawNum at q
      rw [if_pos hc1] at q
      exact q
    · have hc1 : ¬ (10 : Int) ^ 18 ≤ c := of_decide_eq_false hc
      unfold lawNum at q
      rw [if_neg hc1] at q
      obtain ⟨m0, m1⟩ := mod31 ((c + 977 * a) * 48271 + w')
      refine ⟨_, rfl, _, rfl, _, _, rfl, rfl, mulOk_small (by decide) (by decide), _, _, rfl, rfl, _, _, rfl, rfl, mulOk_smallR (by decide) (by decide), _, rfl, _, _, rfl, rfl, _, _, rfl, rfl, (by decide : (0 : Int) < 2147483647), ?_⟩
      dsimp only
      generalize ((c + 977 * a) * 48271 + w') % 2147483647 = m at m0 m1 q ⊢
      refine ⟨_, rfl, _, rfl, _, rfl, _, _, rfl, rfl, mulOk_small (by decide) (by decide), _, _, rfl, rfl, _, _, rfl, rfl, _, _, rfl, rfl, mulOk_small (by omega) (by omega), ?_⟩
      have hc' : Big (B + 64) c := hB.mono (Nat.le_add_right _ _)
      have b1 : Big (B + 64 + 1 + 1) (c + 31 * a + 7) := Big.add (Big.add hc' (big_small (Nat.le_add_left _ _) (by omega) (by omega))) (big_small (by omega) (by decide) (by decide))
      have b2 : Big (B + 64 + 1 + 1) (m + c + 5) := Big.add (Big.add (big_small (Nat.le_add_left _ _) (by omega) (by omega)) hc') (big_small (by omega) (by decide) (by decide))
      have b3 : Big (64 + (B + 64 + 1 + 1)) (m * (c + 31 * a + 7)) := Big.mul (big_small (Nat.le_refl _) (by omega) (by omega)) b1
      have mm0 : 0 ≤ m * m := Int.mul_nonneg m0 m0
      have mm1 : m * m ≤ 2147483647 * 2147483647 := Int.mul_le_mul (by omega) (by omega) m0 (by decide)
      refine ⟨_, rfl, _, rfl, _, rfl, _, _, rfl, rfl, _, _, rfl, rfl, _, _, rfl, rfl, mulOk_big b3 b2 (by omega) (by omega) (by omega), _, rfl, _, rfl, _, _, rfl, rfl, mulOk_small (by omega) (by omega), _, _, rfl, rfl, _, _, rfl, rfl, mulOk_smallR (by omega) (by omega), _, rfl, _, _, rfl, rfl, _, _, rfl, rfl, divW_small (by omega) (by omega), q⟩
def spLawBallots (K : PySem.W.Frag) : Sp := fun vs H Q _ => ∃ (a : Addr) (ns : List Int) (n B : Nat), vs = [.ref a, .int (n : Int)] ∧ SqL K H a (iv ns) ∧ n ≤ 20 ∧ (∀ z ∈ ns, Big B z) ∧ B ≤ 2000000 ∧
  ∀ H2 D xs bs, Ex H H2 → H D = none → H2 D = some (.lst xs) → Paired (BalR K H2) xs bs → bs.all (okB n) = true → bs.length = min 24 ns.length → Q (.ref D) H2
theorem atI_three {i : Int} (h0 : 0 ≤ i) (h3 : i < 3) {x y z : Int} (hx : 0 < x) (hy : 0 < y) (hz : 0 < z) : ∃ u : Int, 0 < u ∧ atI [V.int x, V.int y, V.int z] i = some (.int u) := by
  rcases (by omega : i = 0 ∨ i = 1 ∨ i = 2) with rfl | rfl | rfl
  · exact ⟨x, hx, rfl⟩
  · exact ⟨y, hy, rfl⟩
  · exact ⟨z, hz, rfl⟩
theorem perm_erase : ∀ (l : List Nat) (k : Nat) (x : Nat), l[k]? = some x → (x :: l.eraseIdx k).Perm l
  | [], _, _, h => by simp at h
  | a :: l, 0, x, h => by
    have e : a = x := by simpa using h
    subst e
    exact List.Perm.refl _
  | a :: l, k + 1, x, h => by
    have h1 := perm_erase l k x (by simpa using h)
    exact (List.Perm.swap a x _).trans (h1.cons a)
theorem nv_erase (l : List Nat) (k : Nat) : (nv l).eraseIdx k = nv (l.eraseIdx k) := by
  unfold nv
  induction l generalizing k with
  | nil => rfl
  | cons a l ih =>
    cases k with
    | zero => rfl
    | succ k =>
      show _ :: (List.map _ l).eraseIdx k = _ :: List.map _ (l.eraseIdx k)
      rw [ih]
theorem nv_append (l m : List Nat) : nv l ++ nv m = nv (l ++ m) := by
  unfold nv
  rw [List.map_append]
theorem ok_law_ballots (T : Tx K mg) : FnOk P w K mg base CX0 2 T.f_law_ballots T.d_law_ballots ["_law_script", "_law_size"] (spLawBallots K) := by
  refine T.F_law_ballots.ok sc_law_ballots (fun vs H Q E h => ?_) (fun cdv A outer s H vs Q E hr h => ?_)
  · obtain ⟨a, ns, n, B, rfl, _⟩ := h
    rfl
  · obtain ⟨a, ns, n, B, rfl, hS, hn, hB, hB2, q⟩ := h
    refine ⟨_, pss_cons (ps_set (i := 2) sc_law_ballots.nd rfl (Or.inl rfl) (pe_lst pa_nil))
      (pss_cons (ps_set (i := 3) sc_law_ballots.nd rfl (Or.inl rfl) (pe_callB (sumK K) (by rfl) T.n_sum PyProof.Rows.boot_sum (pa_cons (pe_slice (slLK K) (pv 0) po_none (po_some pe_int)) pa_nil)))
      (pss_cons (ps_for PassesOwn.never rfl (piE K (by rfl) T.n_enumerate (pa_cons (pe_slice (slLK K) (pv 0) po_none (po_some pe_int)) pa_nil)) (pgT K (n := 2) (pgs_cons (pg_name (i := 4) sc_law_ballots.nd rfl (by first | exact Or.inl rfl | exact Or.inr rfl)) (pgs_cons (pg_name (i := 5) sc_law_ballots.nd rfl (by first | exact Or.inl rfl | exact Or.inr rfl)) pgs_nil)))
        (pss_cons (ps_set (i := 6) sc_law_ballots.nd rfl (Or.inl rfl) (pe_call (ok_law_number T) (hr.mono (by decide)) (by rfl) T.g_law_number T.F_law_number.kp (b_law_number T) .nil pass0 (pa_cons (pv 5) (pa_cons (pv 4) (pa_cons (pv 3) pa_nil)))))
      (pss_cons (ps_set (i := 7) sc_law_ballots.nd rfl (Or.inl rfl) (pe_listRg rfl (by rfl) T.n_list (prg_1 (by rfl) T.n_range (pv 1))))
      (pss_cons (ps_set (i := 8) sc_law_ballots.nd rfl (Or.inl rfl) (pe_lst pa_nil))
      (pss_cons (ps_while PassesOwn.never (pt_cmpR (neDK K hr.units) (pv 7) (pe_lst pa_nil) (nomark _)) (pss_cons (ps_expr (pe_bm PySem.F.plainAttrs_list PySem.F.slot_list_append PySem.F.type_list_append mt_append (pv 8) (pa_cons (pe_bm PySem.F.plainAttrs_list PySem.F.slot_list_pop PySem.F.type_list_pop mt_popAt (pv 7) (pa_cons (pe_op op_mod (pv 6) (pe_callB (lenK K) (by rfl) T.n_len PySem.boot_len (pa_cons (pv 7) pa_nil))) pa_nil)) pa_nil)))
      (pss_one (ps_set (i := 6) sc_law_ballots.nd rfl (Or.inl rfl) (pe_op op_fdivW (pv 6) (pe_op op_add (pe_callB (lenK K) (by rfl) T.n_len PySem.boot_len (pa_cons (pv 7) pa_nil)) pe_int))))))
      (pss_one (ps_expr (pe_bm PySem.F.plainAttrs_list PySem.F.slot_list_append PySem.F.type_list_append mt_append (pv 2) (pa_cons (pe_tup (pa_cons (pv 8) (pa_cons (pe_op op_add pe_int (pe_op op_mod (pe_call (ok_law_number T) (hr.mono (by decide)) (by rfl) T.g_law_number T.F_law_number.kp (b_law_number T) .nil pass0 (pa_cons (pv 5) (pa_cons (pe_op op_add (pv 4) pe_int) (pa_cons (pv 3) pa_nil)))) (pe_ix (ixTK K) (pe_tup (pa_cons pe_int (pa_cons pe_int (pa_cons (pe_op op_pow pe_int pe_int) pa_nil)))) (pe_op op_mod (pe_op op_fdivW (pv 3) pe_int) pe_int) (fun _ _ => rfl)))) pa_nil))) pa_nil)))))))))
      (pss_one (ps_ret (pv 2))))), ?_⟩
    refine ⟨Nat.zero_le _, fun F nF => ?_⟩
    have e1 : Ex H (upd H F (.lst [])) := Ex.new nF
    refine ⟨.ref a, rfl, 63, rfl, a, iv ns, rfl, ex_l e1 hS, fun c1 nc1 => ?_⟩
    have e2 : Ex _ (upd (upd H F (.lst [])) c1 (.lst (cutV (iv ns) none (some 63)))) := Ex.new nc1
    have ec1 : cutV (iv ns) none (some 63) = (ns.take 63).map V.int := by
      rw [show (63 : Int) = ((63 : Nat) : Int) from rfl, cut_to]
      unfold iv
      rw [List.map_take]
    refine ⟨c1, ns.take 63, rfl, sq_of (by rw [upd_same, ec1]), ?_⟩
    generalize (ns.take 63).sum = wh
    refine ⟨.ref a, rfl, 24, rfl, a, iv ns, rfl, ex_l (e1.trans e2) hS, fun c2 nc2 => ?_⟩
    have e3 := Ex.new (o := .lst (cutV (iv ns) none (some 24))) nc2
    have ec2 : cutV (iv ns) none (some 24) = iv (ns.take 24) := by
      rw [show (24 : Int) = ((24 : Nat) : Int) from rfl, cut_to]
      unfold iv
      rw [List.map_take]
    have hF2 : (upd (upd (upd H F (.lst [])) c1 (.lst (cutV (iv ns) none (some 63)))) c2 (.lst (cutV (iv ns) none (some 24)))) F = some (.lst []) := e3 _ _ (e2 _ _ upd_same)
    have hc2 : (upd (upd (upd H F (.lst [])) c1 (.lst (cutV (iv ns) none (some 63)))) c2 (.lst (cutV (iv ns) none (some 24)))) c2 = some (.lst (iv (ns.take 24))) := by rw [upd_same, ec2]
    have nF2 : F ≠ c2 := fun e => by rw [← e, e2 _ _ upd_same] at nc2; cases nc2
    have e13 := (e1.trans e2).trans e3
    generalize (upd (upd (upd H F (.lst [])) c1 (.lst (cutV (iv ns) none (some 63)))) c2 (.lst (cutV (iv ns) none (some 24)))) = H3 at hF2 hc2 e13
    refine ⟨c2, _, rfl, sq_of hc2, ?_⟩
    refine for_it (walk_enum (K := K) (a := c2) (xs := iv (ns.take 24))) (fun p σ' H' => ∃ y4 y5 y6 y7 y8 xs bs, σ' = [some (.ref a), some (.int n), some (.ref F), some (.int wh), y4, y5, y6, y7, y8] ∧ Ex H H' ∧ H' c2 = some (.lst (iv (ns.take 24))) ∧ H' F = some (.lst xs) ∧ Paired (BalR K (rem H' F)) xs bs ∧ bs.all (okB n) = true ∧ bs.length = p)
      ⟨none, none, none, none, none, [], [], rfl, e13, hc2, hF2, .nil, rfl, rfl⟩ (fun p σ' H' _ ⟨_, _, _, _, _, _, _, _, _, h, _⟩ => sq_of h) ?_ ?_
    · rintro p x σ' H' H'' hp ⟨y4, y5, y6, y7, y8, xs, bs, rfl, e, hc, hF, hP, hok, hlen⟩ ⟨U, x1, x2, rfl, nU, rfl, h1, h2⟩
      cases h1
      obtain ⟨z, hz, rfl⟩ := iv_get h2
      have hzB : Big B z := hB z (List.mem_of_mem_take (List.mem_of_getElem? hz))
      have hp24 : p < 24 := by
        rw [iv_length, List.length_take] at hp
        omega
      have eU : Ex H' (upd H' U (.tup [.int (p : Nat), .int z])) := Ex.new nU
      refine ⟨U, _, rfl, st_of upd_same, rfl, _, _, rfl, _, [], rfl, rfl, ?_⟩
      refine ⟨_, rfl, _, rfl, _, rfl, z, p, wh, B, rfl, by omega, by omega, hzB, hB2, ?_⟩
      generalize lawNum z p wh = nm
      refine ⟨_, rfl, n, rfl, rgOk_nat (by omega), fun Lf nLf => ?_⟩
      rw [rgV_nv]
      have eL := Ex.new (o := .lst (nv (List.range n))) nLf
      refine ⟨Nat.zero_le _, fun Ln nLn => ?_⟩
      have eM := Ex.new (o := .lst []) nLn
      have eAll := (eU.trans eL).trans eM
      have nLf0 : H' Lf = none := fresh_back eU nLf
      have nLn0 : H' Ln = none := fresh_back (eU.trans eL) nLn
      have nLL : Lf ≠ Ln := fun e => by rw [← e, upd_same] at nLn; cases nLn
      have hLf : (upd (upd (upd H' U (.tup [.int (p : Nat), .int z])) Lf (.lst (nv (List.range n)))) Ln (.lst [])) Lf = some (.lst (nv (List.range n))) := eM _ _ upd_same
      have hLn : (upd (upd (upd H' U (.tup [.int (p : Nat), .int z])) Lf (.lst (nv (List.range n)))) Ln (.lst [])) Ln = some (.lst (nv [])) := upd_same
      generalize (upd (upd (upd H' U (.tup [.int (p : Nat), .int z])) Lf (.lst (nv (List.range n)))) Ln (.lst [])) = H4 at eAll hLf hLn
      refine ⟨fun m σ' H5 => ∃ (nm : Int) (left line : List Nat), σ' = [some (.ref a), some (.int n), some (.ref F), some (.int wh), some (.int p), some (.int z), some (.int nm), some (.ref Lf), some (.ref Ln)] ∧ Ex H' H5 ∧ H5 Lf = some (.lst (nv left)) ∧ H5 Ln = some (.lst (nv line)) ∧ (line ++ left).Perm (List.range n) ∧ left.length = m,
        ⟨n, nm, List.range n, [], rfl, eAll, hLf, hLn, List.Perm.refl _, List.length_range⟩, ?_⟩
      rintro m σ' H5 ⟨nm, left, line, rfl, e5, hLf, hLn, hperm, rfl⟩
      have hlen2 : line.length + left.length = n := by
        have := hperm.length_eq
        rw [List.length_append, List.length_range] at this
        exact this
      refine ⟨_, rfl, Nat.zero_le _, fun o no => ?_⟩
      have eo := Ex.new (o := .lst []) no
      have hLf' : SqL K (upd H5 o (.lst [])) Lf (iv (left.map fun (k : Nat) => (k : Int))) := by
        rw [← nv_iv]
        exact sq_of (eo _ _ hLf)
      refine ⟨_, _, dp_ints hLf', dp_ints (ns := []) (sq_of upd_same), shaped_ints _, shaped_ints _, _, rfl, ?_⟩
      have hLf6 : (upd H5 o (.lst [])) Lf = some (.lst (nv left)) := eo _ _ hLf
      have hLn6 : (upd H5 o (.lst [])) Ln = some (.lst (nv line)) := eo _ _ hLn
      have e6 := e5.trans eo
      generalize (upd H5 o (.lst [])) = H6 at hLf' hLf6 hLn6 e6
      by_cases hl0 : left = []
      · refine itF (by rw [eqv_ints, hl0]; rfl) ?_
        subst hl0
        rw [List.append_nil] at hperm
        have hi0 := Int.emod_nonneg (wh / 5) (show (3 : Int) ≠ 0 by decide)
        have hi3 := Int.emod_lt_of_pos (wh / 5) (show (0 : Int) < 3 by decide)
        obtain ⟨u, hu0, hu⟩ := atI_three hi0 hi3 (x := 1) (y := 4) (z := 10 ^ 20) (by decide) (by decide) (by decide)
        refine ⟨_, rfl, .inl ⟨rfl, _, sq_of (e6 _ _ hF)⟩, _, rfl, _, rfl, _, rfl, _, _, rfl, rfl, _, rfl, z, (p : Int) + 30, wh, B, rfl, by omega, by omega, hzB, hB2, _, _, rfl, rfl, ⟨by decide, by decide, by decide⟩, (by decide : 3 ≤ sizeLine), fun tp ntp => ?_⟩
        have etp := Ex.new (o := .tup [V.int 1, V.int 4, V.int (10 ^ Int.toNat 20)]) ntp
        refine ⟨_, rfl, _, _, rfl, rfl, divW_small (by decide) (by decide), _, _, rfl, rfl, (by decide : (0 : Int) < 3), tp, _, _, .int u, rfl, rfl, st_of upd_same, hu, _, _, rfl, rfl, hu0, _, _, rfl, rfl, (by decide : 2 ≤ sizeLine), fun tt ntt => ?_⟩
        have hm1 := Int.emod_nonneg (lawNum z ((p : Int) + 30) wh) (show u ≠ 0 by omega)
        generalize lawNum z ((p : Int) + 30) wh % u = mm at hm1
        have ett := Ex.new (o := .tup [V.ref Ln, V.int (1 + mm)]) ntt
        have e8 := e6.trans (etp.trans ett)
        have hF8 := e8 _ _ hF
        have hc8 := e8 _ _ hc
        have hLn8 := (etp.trans ett) _ _ hLn6
        have htt : (upd (upd H6 tp (.tup [V.int 1, V.int 4, V.int (10 ^ Int.toNat 20)])) tt (.tup [V.ref Ln, V.int (1 + mm)])) tt = some (.tup [V.ref Ln, V.int (1 + mm)]) := upd_same
        have nF8 : H F = none := nF
        refine ⟨F, xs, .ref tt, rfl, rfl, hF8, sz_lt (by rw [show xs.length = bs.length from Paired.len hP]; omega), ?_⟩
        generalize (upd (upd H6 tp (.tup [V.int 1, V.int 4, V.int (10 ^ Int.toNat 20)])) tt (.tup [V.ref Ln, V.int (1 + mm)])) = H8 at e8 hF8 hc8 hLn8 htt
        have nttF : tt ≠ F := fun e => by rw [e, hF8] at htt; cases htt
        have nLnF : Ln ≠ F := fun e => by rw [e, hF] at nLn0; cases nLn0
        refine ⟨_, _, _, _, _, xs ++ [.ref tt], bs ++ [(line, 1 + mm)], rfl, (e.trans e8).mut nF, by rw [upd_ne nF2.symm]; exact hc8, upd_same, by rw [rem_upd]; exact Paired.append (Paired.mapP hP fun _ _ q => q.mono (rem_mono e8)) (.cons ⟨tt, Ln, rfl, st_of (by rw [rem_ne nttF]; exact htt), sq_of (by rw [rem_ne nLnF]; exact hLn8)⟩ .nil), ?_, by rw [List.length_append, hlen]; rfl⟩
        rw [List.all_append, hok]
        have : okB n (line, 1 + mm) = true := by
          unfold okB
          rw [List.isPerm_iff.mpr hperm, decide_eq_true (show 1 ≤ 1 + mm by omega)]
          rfl
        simp [this]
      · refine itT (by rw [eqv_ints, decide_eq_false]; rfl; exact fun h => hl0 (List.map_eq_nil_iff.mp h)) ?_
        have hpos : 0 < left.length := List.length_pos_iff.mpr hl0
        have hj0 := Int.emod_nonneg nm (show (left.length : Int) ≠ 0 by omega)
        have hj1 := Int.emod_lt_of_pos nm (show (0 : Int) < (left.length : Int) by omega)
        obtain ⟨j, hj⟩ : ∃ j : Nat, nm % (left.length : Int) = (j : Int) := ⟨(nm % (left.length : Int)).toNat, by omega⟩
        have hjl : j < left.length := by omega
        have hsi : seqIndex? (nm % ((nv left).length : Int)) (nv left).length = some j := by
          rw [nv_length, hj]
          exact (ixN_seq (ixN_nat hjl)).1
        have hy : (nv left)[j]? = some (V.int (left[j] : Nat)) := by
          unfold nv
          rw [List.getElem?_map, List.getElem?_eq_getElem hjl]
          rfl
        refine ⟨fun σ2 H2 => ∃ (nm : Int) (left' line : List Nat), σ2 = [some (.ref a), some (.int n), some (.ref F), some (.int wh), some (.int p), some (.int z), some (.int nm), some (.ref Lf), some (.ref Ln)] ∧ Ex H' H2 ∧ H2 Lf = some (.lst (nv left')) ∧ H2 Ln = some (.lst (nv line)) ∧ (line ++ left').Perm (List.range n) ∧ left'.length < left.length, ?_, ?_⟩
        · rintro σ2 H2 ⟨nm, left', line, h1, h2, h3, h4, h5, h6⟩
          exact ⟨_, h6, nm, left', line, h1, h2, h3, h4, h5, rfl⟩
        · refine ⟨_, rfl, .inl ⟨rfl, _, sq_of hLn6⟩, _, rfl, .inl ⟨rfl, _, sq_of hLf6⟩, _, rfl, _, rfl, Lf, _, rfl, .inl (sq_of hLf6), _, _, rfl, rfl, by rw [nv_length]; omega, Lf, _, _, j, _, rfl, rfl, hLf6, by rw [nv_length]; omega, by rw [nv_length]; omega, hsi, hy, Ln, nv line, _, rfl, rfl, by rw [upd_ne nLL.symm]; exact hLn6, sz_lt (by rw [nv_length]; omega), ?_⟩
          have hLf9 : (upd (upd H6 Lf (.lst ((nv left).eraseIdx j))) Ln (.lst (nv line ++ [V.int (left[j] : Nat)]))) Lf = some (.lst (nv (left.eraseIdx j))) := by rw [upd_ne nLL, upd_same, nv_erase]
          refine ⟨_, rfl, _, rfl, Lf, _, rfl, .inl (sq_of hLf9), _, _, rfl, rfl, _, _, rfl, rfl, divW_small (by omega) (by rw [nv_length, List.length_eraseIdx]; split <;> omega), ?_⟩
          refine ⟨_, left.eraseIdx j, line ++ [left[j]], rfl, (e6.mut nLf0).mut nLn0, hLf9, ?_, ?_, ?_⟩
          · rw [upd_same, ← nv_append]
            rfl
          · rw [List.append_assoc]
            exact ((perm_erase left j _ (List.getElem?_eq_getElem hjl)).append_left line).trans hperm
          · rw [List.length_eraseIdx, if_pos hjl]
            omega
    · rintro σ' H' ⟨y4, y5, y6, y7, y8, xs, bs, rfl, e, hc, hF, hP, hok, hlen⟩
      refine ⟨_, rfl, q H' F xs bs e nF hF (Paired.mapP hP fun _ _ q => q.mono rem_ex) hok ?_⟩
      rw [hlen, iv_length, List.length_take]
theorem ok_law_count (T : Tx K mg) : FnOk P w K mg base CX0 1 T.f_law_count T.d_law_count ["_law_size", "_law_ballots_here"] (spCount K) := by
  refine T.F_law_count.ok sc_law_count (fun vs H Q E h => ?_) (fun cdv A outer s H vs Q E hr h => ?_)
  · obtain ⟨n, v, bs, rfl, _⟩ := h
    rfl
  · obtain ⟨n, v, bs, rfl, hn, ⟨a, xs, rfl, hS, hP⟩, hk, q⟩ := h
    refine ⟨_, pss_cons (ps_setLc (i := 2) (own := [("_law_one", 6)]) rfl sc_law_count.nd rfl rfl (sw_true rfl rfl rfl (by decide +kernel)) (pi_range1 (by rfl) T.n_range (pa_cons (pv 0) pa_nil)) (blkOk_by (own := [("_law_one", 6)]) (N := ["_law_size", "_law_ballots_here", "_law_found", "_law_line", "_law_many", "_law_at", "_law_one", "_law_other"]) (sc := defScope s_law_count) (by decide +kernel)) (fun _ _ _ _ _ => (pg_name (i := 6) sc_law_count.nd rfl (by first | exact Or.inl rfl | exact Or.inr rfl))) (fun _ _ _ _ _ => pts_nil) (fun _ _ _ _ _ => (pe_op op_rep (pe_lst (pa_cons pe_int pa_nil)) (pv 0))))
      (pss_cons (ps_for PassesOwn.never rfl (piL K (pv 1)) (pgT K (n := 2) (pgs_cons (pg_name (i := 3) sc_law_count.nd rfl (by first | exact Or.inl rfl | exact Or.inr rfl)) (pgs_cons (pg_name (i := 4) sc_law_count.nd rfl (by first | exact Or.inl rfl | exact Or.inr rfl)) pgs_nil)))
        (pss_one (ps_for PassesOwn.never rfl (piE K (by rfl) T.n_enumerate (pa_cons (pv 3) pa_nil)) (pgT K (n := 2) (pgs_cons (pg_name (i := 5) sc_law_count.nd rfl (by first | exact Or.inl rfl | exact Or.inr rfl)) (pgs_cons (pg_name (i := 6) sc_law_count.nd rfl (by first | exact Or.inl rfl | exact Or.inr rfl)) pgs_nil)))
        (pss_one (ps_for PassesOwn.never rfl (piL K (pe_slice (slLK K) (pv 3) po_none (po_some (pv 5)))) (pg_name (i := 7) sc_law_count.nd rfl (by first | exact Or.inl rfl | exact Or.inr rfl))
        (pss_cons (ps_asg (pe_op op_add (pe_ix (ixLK K) (pe_ix (ixLK K) (pv 2) (pv 7) (fun _ _ => rfl)) (pv 6) (fun _ _ => rfl)) (pv 4)) (pg_sub (pe_ix (ixLK K) (pv 2) (pv 7) (fun _ _ => rfl)) (pv 6) set_list))
      (pss_one (ps_asg (pe_op op_sub (pe_ix (ixLK K) (pe_ix (ixLK K) (pv 2) (pv 6) (fun _ _ => rfl)) (pv 7) (fun _ _ => rfl)) (pv 4)) (pg_sub (pe_ix (ixLK K) (pv 2) (pv 6) (fun _ _ => rfl)) (pv 7) set_list)))))))))
      (pss_one (ps_ret (pv 2)))), ?_⟩
    refine ⟨_, rfl, n, rfl, by omega, by omega, fun D hD => ?_⟩
    refine lc_rows (n := n) (walk_range (lo := 0) (n := n)) hD (by omega) (fun _ _ => trivial) (fun _ => rowV n (fun _ => 0)) ?_ ?_
    · rintro i x H2 H2' hi e2 ⟨rfl, rfl⟩ Qc hq
      refine ⟨rfl, (by decide : 1 ≤ sizeLine), fun p hp => ⟨_, rfl, p, n, _, rfl, rfl, upd_same, by omega, by omega, ?_, fun r hr' => ?_⟩⟩
      · show 1 * (n : Int).toNat ≤ sizeLine
        exact sz_of (by omega)
      · have e3 : Ex H2' (upd H2' p (.lst [V.int 0])) := Ex.new hp
        refine hq r _ (fresh_back e3 hr') (e3.trans (Ex.new hr')) ?_
        rw [upd_same]
        show some (HO.lst (List.replicate n [V.int 0]).flatten) = _
        rw [rep_row]
    · intro H2 ps e2 hD2 hlen R
      have T0 : Tab H H2 D ps n (fun _ _ => 0) := R.tab hD hD2 hlen
      refine ⟨.ref a, rfl, a, rfl, ⟨xs, ex_l e2 hS⟩, for_list (K := K) (a := a) (xs := xs) (fun i σ' H' => ∃ y3 y4 y5 y6 y7, σ' = [some (.int n), some (.ref a), some (.ref D), y3, y4, y5, y6, y7] ∧ Ex H H' ∧ Tab H H' D ps n (cnt (bs.take i)))
        ⟨none, none, none, none, none, rfl, e2, T0⟩ (fun i σ' H' _ ⟨_, _, _, _, _, _, e, _⟩ => ex_l e hS) ?_ ?_⟩
      · rintro i x σ' H' hi ⟨y3, y4, y5, y6, y7, rfl, e, TT⟩
        obtain ⟨b, hb, t, l, rfl, hT, hL⟩ := Paired.get hP hi
        have hbm : b ∈ bs := List.mem_of_getElem? hb
        refine ⟨t, _, rfl, ex_t e hT, rfl, .ref l, _, rfl, .int b.2, [], rfl, rfl, ?_⟩
        refine ⟨.ref l, rfl, l, nv b.1, rfl, ex_l e hL, ?_⟩
        refine for_it (walk_enum (K := K) (a := l) (xs := nv b.1)) (fun p σ' H' => ∃ y5 y6 y7, σ' = [some (.int n), some (.ref a), some (.ref D), some (.ref l), some (.int b.2), y5, y6, y7] ∧ Ex H H' ∧ Tab H H' D ps n (fun i' j' => cnt (bs.take i) i' j' + b.2 * psum i' j' (b.1.take p)))
          ⟨_, _, _, rfl, e, TT.congr fun i' j' _ _ => by show cnt (bs.take i) i' j' = cnt (bs.take i) i' j' + b.2 * 0; omega⟩ (fun p σ' H' _ ⟨_, _, _, _, e, _⟩ => ex_l e hL) ?_ ?_
        · rintro p x σ' H' H'' hp ⟨y5, y6, y7, rfl, e, TT⟩ ⟨U, x1, x2, rfl, nU, rfl, h1, h2⟩
          cases h1
          obtain ⟨k, hk', rfl⟩ := nv_get h2
          have hkn : k < n := hk b hbm k (List.mem_of_getElem? hk')
          refine ⟨U, _, rfl, st_of upd_same, rfl, _, _, rfl, _, [], rfl, rfl, ?_⟩
          have e3 : Ex H' (upd H' U (.tup [.int (p : Nat), .int k])) := Ex.new nU
          refine ⟨.ref l, rfl, .int p, rfl, _, rfl, l, nv b.1, rfl, ex_l (e.trans e3) hL, fun c nc => ?_⟩
          rw [cut_nv_to]
          have e4 : Ex _ (upd (upd H' U (.tup [.int (p : Nat), .int k])) c (.lst (nv (b.1.take p)))) := Ex.new nc
          have ncr : ∀ r ∈ ps, c ≠ r := fun r hr' ec => by
            obtain ⟨i0, hi0, ei0⟩ := List.mem_iff_getElem.mp hr'
            have := (TT.mono e3).row i0 r (by rw [List.getElem?_eq_getElem hi0, ei0])
            rw [← ec, nc] at this
            cases this
          refine ⟨c, rfl, ⟨_, sq_of upd_same⟩, for_list (K := K) (a := c) (xs := nv (b.1.take p)) (fun z σ' H' => ∃ y7, σ' = [some (.int n), some (.ref a), some (.ref D), some (.ref l), some (.int b.2), some (.int p), some (.int k), y7] ∧ Ex H H' ∧ H' c = some (.lst (nv (b.1.take p))) ∧ Tab H H' D ps n (fun i' j' => cnt (bs.take i) i' j' + b.2 * (psum i' j' (b.1.take p) + esum i' j' k ((b.1.take p).take z))))
            ⟨_, rfl, (e.trans e3).trans e4, upd_same, ((TT.mono e3).mono e4).congr fun i' j' _ _ => by show _ = cnt (bs.take i) i' j' + b.2 * (psum i' j' (b.1.take p) + 0); rw [Int.add_zero]⟩ (fun z σ' H' _ ⟨_, _, _, hc, _⟩ => sq_of hc) ?_ ?_⟩
          · rintro z x σ' H' hz ⟨y7, rfl, e, hc, TT⟩
            obtain ⟨m, hm, rfl⟩ := nv_get hz
            have hmn : m < n := hk b hbm m (List.mem_of_mem_take (List.mem_of_getElem? hm))
            obtain ⟨r1, g1, m1, x1, c1⟩ := TT.at_ hmn
            have T1 := TT.put (b := k) (z := (cnt (bs.take i) m k + b.2 * (psum m k (b.1.take p) + esum m k k ((b.1.take p).take z))) + b.2) g1
            have e5 := fun o => TT.exMut (o := o) e m1
            obtain ⟨r2, g2, m2, x2, c2⟩ := T1.at_ hkn
            refine ⟨.ref D, rfl, .int m, rfl, D, _, m, .ref r1, rfl, rfl, sq_of TT.top, atI_nat x1, .int k, rfl, r1, _, k, .int _, rfl, rfl, sq_of c1, atI_nat (rowV_get hkn), .int b.2, rfl, _, _, rfl, rfl, .ref D, rfl, .int m, rfl, D, _, m, .ref r1, rfl, rfl, sq_of TT.top, atI_nat x1, .int k, rfl, r1, _, k, k, rfl, rfl, c1, ixN_nat (by rw [rowV_length]; exact hkn), ?_⟩
            refine ⟨.ref D, rfl, .int k, rfl, D, _, k, .ref r2, rfl, rfl, sq_of T1.top, atI_nat x2, .int m, rfl, r2, _, m, .int _, rfl, rfl, sq_of c2, atI_nat (rowV_get hmn), .int b.2, rfl, _, _, rfl, rfl, .ref D, rfl, .int k, rfl, D, _, k, .ref r2, rfl, rfl, sq_of T1.top, atI_nat x2, .int m, rfl, r2, _, m, m, rfl, rfl, c2, ixN_nat (by rw [rowV_length]; exact hmn), ?_⟩
            have T2 := T1.put (b := m) (z := (if k = m ∧ m = k then (cnt (bs.take i) m k + b.2 * (psum m k (b.1.take p) + esum m k k ((b.1.take p).take z))) + b.2 else (cnt (bs.take i) k m + b.2 * (psum k m (b.1.take p) + esum k m k ((b.1.take p).take z)))) - b.2) g2
            refine ⟨_, rfl, T1.exMut (e5 _) m2, ?_, T2.congr fun i' j' _ _ => ?_⟩
            · rw [upd_ne (ncr r2 m2), upd_ne (ncr r1 m1)]
              exact hc
            · rw [put_two (fun i' j' => cnt (bs.take i) i' j' + b.2 * (psum i' j' (b.1.take p) + esum i' j' k ((b.1.take p).take z))), esum_take_succ _ _ _ _ _ _ hm]
              rw [Int.mul_add, Int.mul_add, Int.mul_add]
              omega
          · rintro σ' H' ⟨y7, rfl, e, hc, TT⟩
            refine ⟨_, _, _, rfl, e, TT.congr fun i' j' _ _ => ?_⟩
            rw [nv_length, List.take_length, psum_take_succ _ _ _ _ _ hk']
        · rintro σ' H' ⟨y5, y6, y7, rfl, e, TT⟩
          refine ⟨_, _, _, _, _, rfl, e, TT.congr fun i' j' _ _ => ?_⟩
          rw [nv_length, List.take_length, cnt_take_succ _ _ _ hb]
      · rintro σ' H' ⟨y3, y4, y5, y6, y7, rfl, e, TT⟩
        rw [show xs.length = bs.length from Paired.len hP, List.take_length] at TT
        exact ⟨_, rfl, q H' D ps e TT⟩
def spLawTable (K : PySem.W.Frag) : Sp := fun vs H Q _ => ∃ (a : Addr) (ns : List Int) (n B : Nat), vs = [.ref a, .int (n : Int)] ∧ SqL K H a (iv ns) ∧ n ≤ 20 ∧ (∀ z ∈ ns, Big B z) ∧ B ≤ 2000000 ∧ 64 ≤ B ∧
  ∀ H2 t rs f, Ex H H2 → Tab H H2 t rs n f → Anti n f → Q (.ref t) H2
theorem atI_four {i : Int} (h0 : 0 ≤ i) (h3 : i < 4) {x y z u : Int} (hx : 0 < x) (hy : 0 < y) (hz : 0 < z) (hu : 0 < u) : ∃ k : Int, 0 < k ∧ atI [V.int x, V.int y, V.int z, V.int u] i = some (.int k) := by
  rcases (by omega : i = 0 ∨ i = 1 ∨ i = 2 ∨ i = 3) with rfl | rfl | rfl | rfl
  · exact ⟨x, hx, rfl⟩
  · exact ⟨y, hy, rfl⟩
  · exact ⟨z, hz, rfl⟩
  · exact ⟨u, hu, rfl⟩
theorem anti_put {n a b : Nat} {f : Nat → Nat → Int} {z : Int} (hA : Anti n f) (hab : a ≠ b) : Anti n (fun i j => if i = b ∧ j = a then -z else if i = a ∧ j = b then z else f i j) := fun i j hi hj => by
  dsimp only
  by_cases h1 : i = b ∧ j = a
  · obtain ⟨rfl, rfl⟩ := h1
    rw [if_pos ⟨rfl, rfl⟩, if_neg (by omega), if_pos ⟨rfl, rfl⟩]
  · rw [if_neg h1]
    by_cases h2 : i = a ∧ j = b
    · obtain ⟨rfl, rfl⟩ := h2
      rw [if_pos ⟨rfl, rfl⟩, if_pos ⟨rfl, rfl⟩]
      omega
    · rw [if_neg h2, if_neg (by omega), if_neg (by omega)]
      exact hA i j hi hj
theorem ok_law_table (T : Tx K mg) : FnOk P w K mg base CX0 2 T.f_law_table T.d_law_table ["_law_script", "_law_size"] (spLawTable K) := by
  refine T.F_law_table.ok sc_law_table (fun vs H Q E h => ?_) (fun cdv A outer s H vs Q E hr h => ?_)
  · obtain ⟨a, ns, n, B, rfl, _⟩ := h
    rfl
  · obtain ⟨a, ns, n, B, rfl, hS, hn, hB, hB2, hB3, q⟩ := h
    refine ⟨_, Evl.pss_cut (ps_set (i := 2) sc_law_table.nd rfl (Or.inl rfl) (pe_ifExp (pt_cmpR (neDK K hr.units) (pv 0) (pe_lst pa_nil) (nomark _)) (pe_slice (slLK K) (pv 0) po_none (po_some pe_int)) (pe_lst (pa_cons pe_int pa_nil))))
      (pss_cons (ps_set (i := 3) sc_law_table.nd rfl (Or.inl rfl) (pe_callB (sumK K) (by rfl) T.n_sum PyProof.Rows.boot_sum (pa_cons (pv 2) pa_nil)))
      (Evl.pss_cut (ps_set (i := 4) sc_law_table.nd rfl (Or.inl rfl) (pe_ix (ixTK K) (pe_tup (pa_cons pe_int (pa_cons pe_int (pa_cons pe_int (pa_cons (pe_op op_pow pe_int pe_int) pa_nil))))) (pe_op op_mod (pe_op op_fdivW (pv 3) pe_int) pe_int) (fun _ _ => rfl)))
      (pss_cons (ps_set (i := 5) sc_law_table.nd rfl (Or.inl rfl) (pe_op op_mod (pe_op op_fdivW (pv 3) pe_int) pe_int))
      (pss_cons (ps_setLc (i := 6) (own := [("_law_one", 8)]) rfl sc_law_table.nd rfl rfl (sw_true rfl rfl rfl (by decide +kernel)) (pi_range1 (by rfl) T.n_range (pa_cons (pv 1) pa_nil)) (blkOk_by (own := [("_law_one", 8)]) (N := ["_law_script", "_law_size", "_law_cells", "_law_whole", "_law_most", "_law_kind", "_law_found", "_law_spot", "_law_one", "_law_other", "_law_cell", "_law_number_here", "_law_bent"]) (sc := defScope s_law_table) (by decide +kernel)) (fun _ _ _ _ _ => (pg_name (i := 8) sc_law_table.nd rfl (by first | exact Or.inl rfl | exact Or.inr rfl))) (fun _ _ _ _ _ => pts_nil) (fun _ _ _ _ _ => (pe_op op_rep (pe_lst (pa_cons pe_int pa_nil)) (pv 1))))
      (pss_cons (ps_set (i := 7) sc_law_table.nd rfl (Or.inl rfl) pe_int)
      (pss_cons (ps_for PassesOwn.never rfl (pi_range1 (by rfl) T.n_range (pa_cons (pv 1) pa_nil)) (pg_name (i := 8) sc_law_table.nd rfl (by first | exact Or.inl rfl | exact Or.inr rfl))
        (pss_one (ps_for PassesOwn.never rfl (pi_range1 (by rfl) T.n_range (pa_cons (pv 8) pa_nil)) (pg_name (i := 9) sc_law_table.nd rfl (by first | exact Or.inl rfl | exact Or.inr rfl))
        (pss_cons (ps_set (i := 10) sc_law_table.nd rfl (Or.inl rfl) (pe_op op_fdivW (pe_ix (ixLK K) (pv 2) (pe_op op_mod (pv 7) (pe_callB (lenK K) (by rfl) T.n_len PySem.boot_len (pa_cons (pv 2) pa_nil))) (fun _ _ => rfl)) (pe_op op_add pe_int (pe_op op_fdivW (pv 7) (pe_callB (lenK K) (by rfl) T.n_len PySem.boot_len (pa_cons (pv 2) pa_nil))))))
      (pss_cons (ps_set (i := 11) sc_law_table.nd rfl (Or.inl rfl) (pe_op op_sub (pe_op op_mod (pe_call (ok_law_number T) (hr.mono (by decide)) (by rfl) T.g_law_number T.F_law_number.kp (b_law_number T) .nil pass0 (pa_cons (pv 10) (pa_cons (pv 7) (pa_cons (pv 3) pa_nil)))) (pe_op op_add (pe_op op_mulG pe_int (pv 4)) pe_int)) (pv 4)))
      (Evl.pss_cut (ps_if (pt_cmpR op_lt (pv 5) pe_int (nomark _)) (pss_one (ps_set (i := 11) sc_law_table.nd rfl (Or.inl rfl) (pe_op op_add (pe_op op_mulG pe_int (pv 11)) (pe_op op_mod (pv 5) pe_int)))) (pss_nil))
      (Evl.pss_cut (ps_if (pt_cmpR op_eq (pv 5) pe_int (nomark _)) (pss_cons (ps_set (i := 12) sc_law_table.nd rfl (Or.inl rfl) (pe_cmpR op_eq (pv 7) (pe_op op_mod (pe_op op_fdivW (pv 3) pe_int) (pe_callB (call_max2 rfl) (by rfl) T.n_max PyProof.Rows.boot_max (pa_cons pe_int (pa_cons (pe_op op_fdivW (pe_op op_mulG (pv 1) (pe_op op_sub (pv 1) pe_int)) pe_int) pa_nil)))) (nomark _)))
      (pss_one (ps_set (i := 11) sc_law_table.nd rfl (Or.inl rfl) (pe_op op_add (pe_op op_add (pe_op op_mulG pe_int (pv 11)) (pe_op op_mod (pe_op op_fdivW (pv 3) pe_int) pe_int)) (pe_callTy call_int1 (by rfl) T.n_int bt_int (pa_cons (pv 12) pa_nil)))))) (pss_nil))
      (pss_cons (ps_asg (pv 11) (pg_sub (pe_ix (ixLK K) (pv 6) (pv 8) (fun _ _ => rfl)) (pv 9) set_list))
      (pss_cons (ps_asg (pe_un un_neg (pv 11)) (pg_sub (pe_ix (ixLK K) (pv 6) (pv 9) (fun _ _ => rfl)) (pv 8) set_list))
      (pss_one (ps_set (i := 7) sc_law_table.nd rfl (Or.inl rfl) (pe_op op_add (pv 7) pe_int))))))))))))
      (pss_one (ps_ret (pv 6))))))))), ?_⟩
    refine ⟨fun σ' H' => ∃ c ms, σ' = [some (.ref a), some (.int n), some (.ref c), none, none, none, none, none, none, none, none, none, none] ∧ Ex H H' ∧ H' c = some (.lst (iv ms)) ∧ 0 < ms.length ∧ ms.length ≤ 63 ∧ ∀ z ∈ ms, Big B z, ?_, ?_⟩
    · refine ⟨_, rfl, Nat.zero_le _, fun o no => ?_⟩
      have eo := Ex.new (o := .lst []) no
      refine ⟨_, _, dp_ints (ex_l eo hS), dp_ints (ns := []) (sq_of upd_same), shaped_ints _, shaped_ints _, _, rfl, ?_⟩
      by_cases h0 : ns = []
      · refine itF (by rw [eqv_ints, h0]; rfl) ?_
        refine ⟨(by decide : 1 ≤ sizeLine), fun c nc => ⟨c, [3], rfl, eo.trans (Ex.new nc), upd_same, by decide, by decide, fun z hz => ?_⟩⟩
        have e3 : z = 3 := by simpa using hz
        rw [e3]
        exact big_small hB3 (by decide) (by decide)
      · refine itT (by rw [eqv_ints, decide_eq_false h0]; rfl) ?_
        refine ⟨_, rfl, 63, rfl, a, iv ns, rfl, ex_l eo hS, fun c nc => ⟨c, ns.take 63, rfl, eo.trans (Ex.new nc), ?_, ?_, ?_, fun z hz => hB z (List.mem_of_mem_take hz)⟩⟩
        · rw [upd_same, show (63 : Int) = ((63 : Nat) : Int) from rfl, cut_to]
          unfold iv
          rw [List.map_take]
        · have := List.length_pos_iff.mpr h0
          rw [List.length_take]
          omega
        · rw [List.length_take]
          omega
    rintro _ H1 ⟨c, ms, rfl, e1, hc, hm0, hm1, hB⟩
    refine ⟨_, rfl, c, ms, rfl, sq_of hc, ?_⟩
    generalize ms.sum = wh
    have k0 := Int.emod_nonneg (wh / 60) (show (4 : Int) ≠ 0 by decide)
    have k1 := Int.emod_lt_of_pos (wh / 60) (show (0 : Int) < 4 by decide)
    obtain ⟨mo, hmo, hat⟩ := atI_four k0 k1 (x := 3) (y := 7) (z := 2) (u := 10 ^ 30) (by decide) (by decide) (by decide) (by decide)
    refine ⟨fun σ' H' => σ' = [some (.ref a), some (.int n), some (.ref c), some (.int wh), some (.int mo), none, none, none, none, none, none, none, none] ∧ Ex H1 H', ?_, ?_⟩
    · refine ⟨_, _, rfl, rfl, ⟨by decide, by decide, by decide⟩, (by decide : 4 ≤ sizeLine), fun tp ntp => ⟨_, rfl, _, _, rfl, rfl, divW_small (by decide) (by decide), _, _, rfl, rfl, (by decide : (0 : Int) < 4), tp, _, _, .int mo, rfl, rfl, st_of upd_same, hat, rfl, Ex.new ntp⟩⟩
    rintro _ H2 ⟨rfl, e2⟩
    refine ⟨_, rfl, _, _, rfl, rfl, divW_small (by decide) (by decide), _, _, rfl, rfl, (by decide : (0 : Int) < 5), ?_⟩
    dsimp only
    generalize wh / 240 % 5 = kd
    have hc2 := e2 _ _ hc
    refine ⟨_, rfl, n, rfl, by omega, by omega, fun D hD => ?_⟩
    refine lc_rows (n := n) (walk_rg0 (n := n)) hD (by omega) (fun _ _ => trivial) (fun _ => rowV n (fun _ => 0)) ?_ ?_
    · rintro i x H2 H2' hi e2 ⟨rfl, rfl⟩ Qc hq
      refine ⟨rfl, (by decide : 1 ≤ sizeLine), fun p hp => ⟨_, rfl, p, n, _, rfl, rfl, upd_same, by omega, by omega, ?_, fun r hr' => ?_⟩⟩
      · show 1 * (n : Int).toNat ≤ sizeLine
        exact sz_of (by omega)
      · have e3 := Ex.new (o := .lst [V.int 0]) hp
        refine hq r _ (fresh_back e3 hr') (e3.trans (Ex.new hr')) ?_
        rw [upd_same]
        show some (HO.lst (List.replicate n [V.int 0]).flatten) = _
        rw [rep_row]
    intro H3 ps e3 hD3 hlen R
    have T0 : Tab H2 H3 D ps n (fun _ _ => 0) := R.tab hD hD3 hlen
    refine ⟨_, rfl, n, rfl, by omega, by omega, ?_⟩
    refine for_it (walk_rg0 (n := n)) (fun i σ' H' => ∃ (f : Nat → Nat → Int) (sp : Nat) (y8 y9 y10 y11 y12 : Option V), σ' = [some (.ref a), some (.int n), some (.ref c), some (.int wh), some (.int mo), some (.int kd), some (.ref D), some (.int sp), y8, y9, y10, y11, y12] ∧ Ex H2 H' ∧ Tab H2 H' D ps n f ∧ Anti n f ∧ sp ≤ 20 * i)
      ⟨_, 0, _, _, _, _, _, rfl, e3, T0, fun _ _ _ _ => rfl, by omega⟩ (fun _ _ _ _ _ => trivial) ?_ ?_
    · rintro i x σ' H' H'' hi ⟨f, sp, y8, y9, y10, y11, y12, rfl, e, TT, hA, hsp⟩ ⟨rfl, rfl⟩
      refine ⟨_, rfl, (i : Int), rfl, by omega, by omega, ?_⟩
      refine for_it (walk_rg0 (n := i)) (fun z σ' H' => ∃ (f : Nat → Nat → Int) (sp : Nat) (y9 y10 y11 y12 : Option V), σ' = [some (.ref a), some (.int n), some (.ref c), some (.int wh), some (.int mo), some (.int kd), some (.ref D), some (.int sp), some (.int i), y9, y10, y11, y12] ∧ Ex H2 H' ∧ Tab H2 H' D ps n f ∧ Anti n f ∧ sp ≤ 20 * i + z)
        ⟨_, sp, _, _, _, _, rfl, e, TT, hA, by omega⟩ (fun _ _ _ _ _ => trivial) ?_ ?_
      · rintro z x σ' H' H'' hz ⟨f, sp, y9, y10, y11, y12, rfl, e, TT, hA, hsp⟩ ⟨rfl, rfl⟩
        have hcz := e _ _ hc2
        have hsp2 : sp ≤ 400 := by omega
        have i0 := Int.emod_nonneg (sp : Int) (show (ms.length : Int) ≠ 0 by omega)
        have i1 := Int.emod_lt_of_pos (sp : Int) (show (0 : Int) < (ms.length : Int) by omega)
        obtain ⟨k, hk⟩ : ∃ k : Nat, (sp : Int) % (ms.length : Int) = (k : Int) := ⟨((sp : Int) % (ms.length : Int)).toNat, by omega⟩
        have hkm : k < ms.length := by omega
        have hat2 : atI (iv ms) ((sp : Int) % ((iv ms).length : Int)) = some (.int ms[k]) := by
          rw [iv_length, hk]
          refine atI_nat ?_
          unfold iv
          rw [List.getElem?_map, List.getElem?_eq_getElem hkm]
          rfl
        have d0 : 0 ≤ (sp : Int) / (ms.length : Int) := Int.ediv_nonneg (by omega) (by omega)
        have d1 : (sp : Int) / (ms.length : Int) ≤ 400 := by
          refine Int.le_trans (Int.ediv_le_self _ (by omega)) ?_
          omega
        refine ⟨_, rfl, _, rfl, _, rfl, c, _, rfl, .inl (sq_of hcz), _, _, rfl, rfl, by rw [iv_length]; omega, c, _, _, _, rfl, rfl, sq_of hcz, hat2, _, rfl, _, rfl, c, _, rfl, .inl (sq_of hcz), _, _, rfl, rfl, divW_small (by rw [iv_length]; omega) (by rw [iv_length]; omega), _, _, rfl, rfl, _, _, rfl, rfl, divW_small (by rw [iv_length]; omega) (by rw [iv_length]; omega), ?_⟩
        rw [iv_length]
        dsimp only
        have hbc : Big B (ms[k] / (1 + (sp : Int) / (ms.length : Int))) := (hB _ (List.getElem_mem hkm)).div (by omega)
        generalize ms[k] / (1 + (sp : Int) / (ms.length : Int)) = cl at hbc
        refine ⟨_, rfl, _, rfl, _, rfl, cl, sp, wh, B, rfl, by omega, by omega, hbc, hB2, _, rfl, _, _, rfl, rfl, mulOk_small (by decide) (by decide), _, _, rfl, rfl, _, _, rfl, rfl, by omega, _, rfl, _, _, rfl, rfl, ?_⟩
        dsimp only
        generalize lawNum cl sp wh % (2 * mo + 1) - mo = nm
        refine ⟨fun σ' H' => ∃ nm : Int, H'' = H' ∧ σ' = [some (.ref a), some (.int n), some (.ref c), some (.int wh), some (.int mo), some (.int kd), some (.ref D), some (.int sp), some (.int i), some (.int z), some (.int cl), some (.int nm), y12], ?_, ?_⟩
        · refine ⟨_, rfl, _, _, rfl, rfl, _, rfl, it2 (fun h1 => ?_) (fun h1 => ?_)⟩
          · exact ⟨_, rfl, _, _, rfl, rfl, mulOk_small (by decide) (by decide), _, rfl, _, _, rfl, rfl, (by decide : (0 : Int) < 2), _, _, rfl, rfl, _, rfl, rfl⟩
          · exact ⟨_, rfl, rfl⟩
        rintro _ _ ⟨nm, rfl, rfl⟩
        refine ⟨fun σ' H' => ∃ (nm : Int) (y12 : Option V), H'' = H' ∧ σ' = [some (.ref a), some (.int n), some (.ref c), some (.int wh), some (.int mo), some (.int kd), some (.ref D), some (.int sp), some (.int i), some (.int z), some (.int cl), some (.int nm), y12], ?_, ?_⟩
        · refine ⟨_, rfl, rfl, _, rfl, it2 (fun h1 => ?_) (fun h1 => ?_)⟩
          · refine ⟨_, rfl, _, rfl, _, _, rfl, rfl, divW_small (by decide) (by decide), _, rfl, _, rfl, _, _, rfl, rfl, _, _, rfl, rfl, mulOk_small (by omega) (by omega), _, _, rfl, rfl, divW_small (by decide) (by decide), _, _, rfl, _, _, rfl, rfl, (by show (0 : Int) < if _ then _ else _; split <;> omega), rfl, ?_⟩
            refine ⟨_, rfl, _, _, rfl, rfl, mulOk_small (by decide) (by decide), _, rfl, _, _, rfl, rfl, divW_small (by decide) (by decide), _, _, rfl, rfl, (by decide : (0 : Int) < 2), _, _, rfl, rfl, _, rfl, .inr ⟨_, rfl, _, _, rfl, rfl, _, _, rfl, rfl⟩⟩
          · exact ⟨_, _, rfl, rfl⟩
        rintro _ _ ⟨nm, y12, rfl, rfl⟩
        have hzn : z < n := by omega
        obtain ⟨r1, g1, m1, x1, c1⟩ := TT.at_ hi
        have T1 := TT.put (b := z) (z := nm) g1
        have e5 := fun o => TT.exMut (o := o) e m1
        obtain ⟨r2, g2, m2, x2, c2⟩ := T1.at_ hzn
        have T2 := T1.put (b := i) (z := -nm) g2
        refine ⟨_, rfl, _, rfl, _, rfl, D, _, i, .ref r1, rfl, rfl, sq_of TT.top, atI_nat x1, _, rfl, r1, _, z, z, rfl, rfl, c1, ixN_nat (by rw [rowV_length]; exact hzn), ?_⟩
        refine ⟨_, rfl, _, rfl, _, rfl, _, rfl, D, _, z, .ref r2, rfl, rfl, sq_of T1.top, atI_nat x2, _, rfl, r2, _, i, i, rfl, rfl, c2, ixN_nat (by rw [rowV_length]; exact hi), ?_⟩
        refine ⟨_, rfl, _, _, rfl, rfl, ?_⟩
        exact ⟨_, sp + 1, _, _, _, _, rfl, T1.exMut (e5 _) m2, T2, anti_put hA (by omega), by omega⟩
      · rintro σ' H' ⟨f, sp, y9, y10, y11, y12, rfl, e, TT, hA, hsp⟩
        exact ⟨f, sp, _, _, _, _, _, rfl, e, TT, hA, by omega⟩
    · rintro σ' H' ⟨f, sp, y8, y9, y10, y11, y12, rfl, e, TT, hA, hsp⟩
      exact ⟨_, rfl, q H' D ps f ((e1.trans e2).trans e) (TT.base (e1.trans e2)) hA⟩
end
end Hc
namespace Hc
open PySem PySem.Spec PyProof.Rows L2 Evl
section
variable {P : Program} {w : World} {K : PySem.W.Frag} {mg : Str → Option Value} {base : Heap}
open LamX in
theorem tabR_N {H H' : Hp} {v : V} {n : Nat} {f : Nat → Nat → Int} (T : TabR K H v n f) (e : ExtN H H') : TabR K H' v n f := by
  obtain ⟨t, rs, h1, h2, h3, h4⟩ := T
  exact ⟨t, rs, h1, h2, sqN e h3, fun i r h => sqN e (h4 i r h)⟩
theorem ex_N {H H' : Hp} (e : Ex H H') : LamX.ExtN H H' := LamX.ExtN.of e
/-- the table of the code that _law_tops makes -/
def tbs (T : Tx K mg) : List (Addr × Str) := [(T.pt, (Str.ofString "_law_tops" ++ Str.ofString ".<locals>.") ++ Str.ofString "<lambda>")]
def NoDom (n : Nat) (f : Nat → Nat → Int) (k : Nat) : Prop := ∀ S : List Nat, S.Nodup → S.length = k → (∀ x ∈ S, x < n) → ¬ Dom n f S
def spLTops (T : Tx K mg) : Sp := fun vs H Q _ => ∃ (v : V) (n : Nat) (f : Nat → Nat → Int), vs = [v] ∧ 1 ≤ n ∧ n ≤ 20 ∧ TabR K H v n f ∧ Anti n f ∧ LamX.Tabs (tbs T) H ∧
  ∀ H2 p ks, LamX.ExtN H H2 → LamX.Tabs (tbs T) H2 → H2 p = some (.lst (nv ks)) → (∀ ts, IsTops n f ts → ks = ts) → ks.length ≤ 20 → Q (.ref p) H2
theorem wins_len {n : Nat} {f : Nat → Nat → Int} {i : Nat} : (((List.range n).filter fun j => decide (0 < f i j)).map fun _ => V.int 1).length = wins n f i := by
  rw [List.length_map]
  rfl
theorem min_all {g : List Nat} {h : Nat → Int} {m : Int} (hm : m ∈ g.map h) (hle : ∀ y, y ∈ g.map h → m ≤ y) : decide (0 < m) = g.all fun x => decide (0 < h x) := by
  rw [Bool.eq_iff_iff, List.all_eq_true]
  constructor
  · intro h0 x hx
    have h1 := of_decide_eq_true h0
    have h2 := hle (h x) (List.mem_map.mpr ⟨x, hx, rfl⟩)
    exact decide_eq_true (by omega)
  · intro h0
    obtain ⟨x, hx, rfl⟩ := List.mem_map.mp hm
    exact h0 x hx
theorem nv_vals (l : List Nat) (h : Nat → Int) : ((List.range l.length).map fun i => V.int (h (l.getD i 0))) = iv (l.map h) := by
  unfold iv
  rw [List.map_map]
  apply List.ext_getElem?
  intro i
  rw [List.getElem?_map, List.getElem?_map]
  by_cases hi : i < l.length
  · rw [List.getElem?_range hi, List.getElem?_eq_getElem hi, Option.map_some, List.getD_eq_getElem?_getD, List.getElem?_eq_getElem hi]
    rfl
  · rw [List.getElem?_eq_none (by rw [List.length_range]; omega), List.getElem?_eq_none (by omega)]
    rfl
theorem ok_law_tops (T : Tx K mg) (TB : LamX.TabB base mg T.cc T.pt) : FnOk P w K mg base CX0 1 T.f_law_tops T.d_law_tops ["_law_table_here"] (spLTops T) := by
  refine okC T.FC sc_law_tops (fun vs H Q E h => ?_) (fun A outer s H vs Q E hr h => ?_)
  · obtain ⟨v, n, f, rfl, _⟩ := h
    rfl
  · obtain ⟨v, n, f, rfl, hn1, hn, TT, hA, hTb, q⟩ := h
    obtain ⟨t, xs, rfl, hS, hl, hat⟩ := TT.at_
    refine ⟨_, pss_cons (ps_set (i := 1) sc_law_tops.nd rfl (Or.inl rfl) (pe_callB (lenK K) (by rfl) T.n_len PySem.boot_len (pa_cons (pv 0) pa_nil)))
      (pss_cons (ps_set (i := 2) sc_law_tops.nd rfl (Or.inr rfl) (pe_lc (own := [("_law_row", 6)]) rfl sc_law_tops.nd (piL K (pv 0)) (blkOk_by (own := [("_law_row", 6)]) (N := ["_law_table_here", "_law_size", "_law_counts", "_law_many", "_law_group", "_law_others", "_law_row", "_law_number_here", "_law_one", "_law_other"]) (sc := defScope s_law_tops) (by decide +kernel)) (fun _ _ _ _ _ => (pg_name (i := 6) sc_law_tops.nd rfl (by first | exact Or.inl rfl | exact Or.inr rfl))) (fun _ _ _ _ _ => pts_nil) (fun _ _ _ _ _ => (pe_callB (lenK K) (by rfl) T.n_len PySem.boot_len (pa_cons (pe_lc (own := [("_law_number_here", 7)]) rfl sc_law_tops.nd (piL K (pv 6)) (blkOk_by (own := [("_law_number_here", 7)]) (N := ["_law_table_here", "_law_size", "_law_counts", "_law_many", "_law_group", "_law_others", "_law_row", "_law_number_here", "_law_one", "_law_other"]) (sc := _) (by kernel_rfl)) (fun _ _ _ _ _ => (pg_name (i := 7) sc_law_tops.nd rfl (by first | exact Or.inl rfl | exact Or.inr rfl))) (fun _ _ _ _ _ => pts_one (pt_cmpR op_gt (pv 7) pe_int (nomark _))) (fun _ _ _ _ _ => pe_int)) pa_nil)))))
      (pss_cons (ps_for PassesOwn.never rfl (pi_range2 (by rfl) T.n_range (pa_cons pe_int (pa_cons (pe_op op_add (pv 1) pe_int) pa_nil))) (pg_name (i := 3) sc_law_tops.nd rfl (by first | exact Or.inl rfl | exact Or.inr rfl))
        (pss_cons (ps_set (i := 4) sc_law_tops.nd rfl (Or.inr rfl) (pe_slice (slLK K) (pe_sortKey (T := tbs T) (j := 2) (pv 1) hr (by rfl) T.n_sorted (by rfl) T.n_range TB rfl (List.mem_singleton.mpr rfl) (fun p hp _ => by rw [List.mem_singleton.mp hp]; rfl) rfl (fun _ _ _ _ _ _ => rfl) rfl rfl rfl (by decide) (by decide) (by decide) (by decide) rfl (by rfl)) po_none (po_some (pv 3))))
      (pss_cons (ps_setLc (i := 5) (own := [("_law_one", 8)]) rfl sc_law_tops.nd rfl rfl (sw_true rfl rfl rfl (by decide +kernel)) (pi_range1 (by rfl) T.n_range (pa_cons (pv 1) pa_nil)) (blkOk_by (own := [("_law_one", 8)]) (N := ["_law_table_here", "_law_size", "_law_counts", "_law_many", "_law_group", "_law_others", "_law_row", "_law_number_here", "_law_one", "_law_other"]) (sc := defScope s_law_tops) (by decide +kernel)) (fun _ _ _ _ _ => (pg_name (i := 8) sc_law_tops.nd rfl (by first | exact Or.inl rfl | exact Or.inr rfl))) (fun _ _ _ _ _ => pts_one (pt_cmpR (notInK K) (pv 8) (pv 4) (by rfl))) (fun _ _ _ _ _ => (pv 8)))
      (pss_one (ps_if (pt_val (pe_callB (allK K) (by rfl) T.n_all PyProof.Rows.boot_all (pa_cons (pe_lc (own := [("_law_other", 9)]) rfl sc_law_tops.nd (piL K (pv 5)) (blkOk_by (own := [("_law_other", 9)]) (N := ["_law_table_here", "_law_size", "_law_counts", "_law_many", "_law_group", "_law_others", "_law_row", "_law_number_here", "_law_one", "_law_other"]) (sc := defScope s_law_tops) (by decide +kernel)) (fun _ _ _ _ _ => (pg_name (i := 9) sc_law_tops.nd rfl (by first | exact Or.inl rfl | exact Or.inr rfl))) (fun _ _ _ _ _ => pts_nil) (fun _ _ _ _ _ => (pe_cmpR op_gt (pe_callB (minK K) (by rfl) T.n_min PyProof.Rows.boot_min (pa_cons (pe_lc (own := [("_law_one", 8)]) rfl sc_law_tops.nd (piL K (pv 4)) (blkOk_by (own := [("_law_one", 8)]) (N := ["_law_table_here", "_law_size", "_law_counts", "_law_many", "_law_group", "_law_others", "_law_row", "_law_number_here", "_law_one", "_law_other"]) (sc := _) (by kernel_rfl)) (fun _ _ _ _ _ => (pg_name (i := 8) sc_law_tops.nd rfl (by first | exact Or.inl rfl | exact Or.inr rfl))) (fun _ _ _ _ _ => pts_nil) (fun _ _ _ _ _ => (pe_ix (ixLK K) (pe_ix (ixLK K) (pv 0) (pv 8) (fun _ _ => rfl)) (pv 9) (fun _ _ => rfl)))) pa_nil)) pe_int (nomark _)))) pa_nil))) (pss_one (ps_ret (pe_callB (sortK K) (by rfl) T.n_sorted PyProof.Rows.boot_sorted (pa_cons (pv 4) pa_nil)))) (pss_nil))))))
      (pss_one (ps_ret (pe_lst pa_nil))))), ?_⟩
    refine ⟨_, rfl, t, _, rfl, .inl hS, ?_⟩
    rw [hl]
    refine ⟨_, rfl, t, rfl, ⟨_, hS⟩, fun D hD => ?_⟩
    refine lc_vals (walk_list (K := K) (a := t) (xs := xs)) hD (by omega) (fun H2 e2 => ex_l e2 hS) (fun i => V.int ((wins n f i : Nat) : Int)) ?_ ?_
    · rintro i x Ha Ha' hi ea ⟨rfl, hx⟩ Qc hq
      obtain ⟨r, g1, g2⟩ := hat i (by omega)
      rw [g1] at hx
      cases hx
      refine ⟨rfl, _, rfl, r, rfl, ⟨_, ex_l ea g2⟩, fun D2 hD2 => ?_⟩
      refine lc_filt (walk_list (K := K) (a := r) (xs := rowV n (f i))) hD2 (by rw [rowV_length]; omega) (fun Hx e => ex_l (ea.trans e) g2) (fun j => decide (0 < f i j)) (fun _ => V.int 1) ?_ ?_
      · rintro j x Hb Hb' hj eb ⟨rfl, hx⟩ Bf Qd hno hyes
        rw [rowV_length] at hj
        rw [rowV_get hj] at hx
        cases hx
        refine ⟨rfl, _, rfl, _, _, rfl, rfl, _, rfl, ?_⟩
        exact it2 (fun h1 => hyes _ (Ex.refl _) h1) (fun h1 => hno _ (Ex.refl _) h1)
      · intro Hb eb hDb
        rw [rowV_length] at hDb
        refine ⟨D2, _, rfl, .inl (sq_of hDb), ?_⟩
        rw [wins_len]
        exact hq _ eb
    intro H1 e1 hD1
    rw [hl] at hD1
    obtain ⟨cs, hcs⟩ : ∃ cs : List Int, cs = (List.range n).map fun i => ((wins n f i : Nat) : Int) := ⟨_, rfl⟩
    have hcD : H1 D = some (.lst (iv cs)) := by
      rw [hD1, hcs]
      unfold iv
      rw [List.map_map]
      rfl
    have hcl : cs.length = n := by rw [hcs, List.length_map, List.length_range]
    have hcg : ∀ i, i < n → cs.getD i 0 = ((wins n f i : Nat) : Int) := fun i hi => by
      rw [hcs, List.getD_eq_getElem?_getD, List.getElem?_map, List.getElem?_range hi]
      rfl
    have hT1 : LamX.Tabs (tbs T) H1 := hTb.ext e1
    refine ⟨_, rfl, _, _, rfl, rfl, (1 : Int), (n : Int) + 1, rfl, ⟨by decide, by decide, by omega, by omega⟩, ?_⟩
    rw [show ((n : Int) + 1 - 1).toNat = n by omega]
    refine for_it (walk_rg (a := 1) (n := n)) (fun i σ' H' => ∃ (y3 y4 y5 : Option V), σ' = [some (.ref t), some (.int n), some (.ref D), y3, y4, y5, none, none, none, none] ∧ LamX.ExtN H1 H' ∧ LamX.Tabs (tbs T) H' ∧ H' D = some (.lst (iv cs)) ∧ ∀ k, 1 ≤ k → k < 1 + i → NoDom n f k)
      ⟨_, _, _, rfl, LamX.ExtN.refl _, hT1, hcD, fun k h1 h2 => by omega⟩ (fun _ _ _ _ _ => trivial) ?_ ?_
    · rintro i x σ' H' H'' hi ⟨y3, y4, y5, rfl, eN, hT', hD', hno⟩ ⟨rfl, rfl⟩
      refine ⟨_, rfl, n, D, cs, rfl, by omega, rfl, sq_of hD', hcl, hT', fun H2 p os eN2 hT2 hfr hp hperm hord => ?_⟩
      have eN3 : LamX.ExtN H H2 := (ex_N e1).trans (eN.trans eN2)
      have hol : os.length = n := by rw [hperm.length_eq, List.length_range]
      have hos : ∀ x ∈ os, x < n := fun x hx => List.mem_range.mp (hperm.mem_iff.mp hx)
      have hw : os.Pairwise fun a b => wins n f b ≤ wins n f a := hord.imp_of_mem fun {a b} ha hb h => by
        rw [hcg _ (hos _ ha), hcg _ (hos _ hb)] at h
        omega
      have hnd : os.Nodup := hperm.nodup_iff.mpr List.nodup_range
      refine ⟨_, rfl, _, rfl, p, _, rfl, sq_of hp, fun c nc => ?_⟩
      obtain ⟨g, hg⟩ : ∃ g, g = os.take (1 + i) := ⟨_, rfl⟩
      rw [cut_nv_to, ← hg]
      have hgl : g.length = 1 + i := by rw [hg, List.length_take]; omega
      have hgn : ∀ x ∈ g, x < n := fun x hx => hos x (List.mem_of_mem_take (hg ▸ hx))
      have hgd : g.Nodup := by rw [hg]; exact hnd.sublist (List.take_sublist ..)
      have ec := Ex.new (o := .lst (nv g)) nc
      generalize hH3 : upd H2 c (.lst (nv g)) = H3 at ec
      have hc3 : H3 c = some (.lst (nv g)) := by rw [← hH3]; exact upd_same
      have eN4 : LamX.ExtN H H3 := eN3.trans (ex_N ec)
      have hT3 : LamX.Tabs (tbs T) H3 := hT2.ext ec
      have hD3 : H3 D = some (.lst (iv cs)) := ec _ _ (eN2 _ _ hD' (fun _ z => nomatch z))
      refine ⟨_, rfl, (n : Int), rfl, by omega, by omega, fun O nO => ?_⟩
      refine lc_filt (n := n) (walk_rg0 (n := n)) nO (by omega) (fun _ _ => trivial) (fun j => !decide (j ∈ g)) (fun j => V.int (j : Int)) ?_ ?_
      · rintro j x Ha Ha' hj ea ⟨rfl, rfl⟩ Bf Qc hno2 hyes
        refine ⟨rfl, _, rfl, _, rfl, c, _, rfl, .inl (sq_of (ea _ _ hc3)), rfl, nv_flat _, _, rfl, ?_⟩
        show if (!inV (V.int (j : Int)) (nv g)) = true then _ else _
        rw [inV_nv]
        exact it2 (fun h1 => ⟨_, rfl, hyes _ (Ex.refl _) h1⟩) (fun h1 => hno2 _ (Ex.refl _) h1)
      intro H5 e5 hO
      obtain ⟨us, hus⟩ : ∃ us : List Nat, us = (List.range n).filter fun j => !decide (j ∈ g) := ⟨_, rfl⟩
      have hO5 : H5 O = some (.lst (nv us)) := by
        rw [hO, ← hus]
        rfl
      have hum : ∀ j, j ∈ us ↔ j < n ∧ j ∉ g := fun j => by
        rw [hus, List.mem_filter, List.mem_range, Bool.not_eq_true', decide_eq_false_iff_not]
      have hul : us.length ≤ n := by
        rw [hus]
        exact Nat.le_trans (List.length_filter_le ..) (by rw [List.length_range]; exact Nat.le_refl _)
      have hS5 : SqL K H5 t xs := sqN (eN4.trans (ex_N e5)) hS
      have hR5 : ∀ j, j < n → ∃ r, xs[j]? = some (.ref r) ∧ SqL K H5 r (rowV n (f j)) := fun j hj => by
        obtain ⟨r, r1, r2⟩ := hat j hj
        exact ⟨r, r1, sqN (eN4.trans (ex_N e5)) r2⟩
      have hc5 := e5 _ _ hc3
      refine ⟨_, rfl, O, rfl, ⟨_, sq_of hO5⟩, fun L nL => ?_⟩
      refine lc_vals (walk_list (K := K) (a := O) (xs := nv us)) nL (by rw [nv_length]; omega) (fun _ ea => ex_l ea (sq_of hO5)) (fun j => V.bl (g.all fun x => decide (0 < f x (us.getD j 0)))) ?_ ?_
      · rintro j x Ha Ha' hj ea ⟨rfl, hx⟩ Qc hq
        rw [nv_length] at hj
        obtain ⟨u, hu, rfl⟩ := nv_get hx
        have hug : us.getD j 0 = u := by rw [List.getD_eq_getElem?_getD, hu]; rfl
        rw [hug] at hq
        have hun : u < n := ((hum u).mp (List.mem_of_getElem? hu)).1
        refine ⟨rfl, _, rfl, c, rfl, ⟨_, sq_of (ea _ _ hc5)⟩, fun M nM => ?_⟩
        refine lc_vals (walk_list (K := K) (a := c) (xs := nv g)) nM (by rw [nv_length]; omega) (fun _ eb => ex_l eb (sq_of (ea _ _ hc5))) (fun k => V.int (f (g.getD k 0) u)) ?_ ?_
        · rintro k x Hb Hb' hk eb ⟨rfl, hx⟩ Qd hq2
          obtain ⟨v, hv, rfl⟩ := nv_get hx
          have hvg : g.getD k 0 = v := by rw [List.getD_eq_getElem?_getD, hv]; rfl
          rw [hvg] at hq2
          have hvn : v < n := hgn v (List.mem_of_getElem? hv)
          obtain ⟨r, r1, r2⟩ := hR5 v hvn
          exact ⟨rfl, _, rfl, _, rfl, t, _, v, .ref r, rfl, rfl, ex_l (ea.trans eb) hS5, atI_nat r1, _, rfl, r, _, u, _, rfl, rfl, ex_l (ea.trans eb) r2, atI_nat (rowV_get hun), hq2 _ (Ex.refl _)⟩
        · intro Hb eb hM
          rw [nv_length, nv_vals g fun v => f v u] at hM
          refine ⟨M, _, rfl, sq_of hM, by rw [List.length_map]; omega, fun m hm hle => ⟨_, _, rfl, rfl, ?_⟩⟩
          show Qc (V.bl (decide (0 < m))) Hb
          rw [min_all hm hle]
          exact hq _ eb
      · intro H6 e6 hL6
        rw [nv_length, map_bl_all] at hL6
        refine ⟨L, _, rfl, sq_of hL6, _, rfl, ?_⟩
        rw [all_map_id]
        have hdom : ((List.range us.length).all fun j => g.all fun x => decide (0 < f x (us.getD j 0))) = true ↔ Dom n f g := by
          rw [List.all_eq_true]
          constructor
          · intro h x hx y hy hyn
            obtain ⟨j, hj, ej⟩ := List.mem_iff_getElem.mp ((hum y).mpr ⟨hy, hyn⟩)
            have := List.all_eq_true.mp (h j (List.mem_range.mpr hj)) x hx
            rw [List.getD_eq_getElem?_getD, List.getElem?_eq_getElem hj, ej] at this
            exact of_decide_eq_true this
          · intro h j hj
            have hj := List.mem_range.mp hj
            refine List.all_eq_true.mpr fun x hx => decide_eq_true ?_
            rw [List.getD_eq_getElem?_getD, List.getElem?_eq_getElem hj]
            have := (hum us[j]).mp (List.getElem_mem hj)
            exact h x hx _ this.1 this.2
        have eH6 : LamX.ExtN H H6 := eN4.trans (ex_N (e5.trans e6))
        have hT6 : LamX.Tabs (tbs T) H6 := hT3.ext (e5.trans e6)
        refine it2 (fun hd => ?_) (fun hd => ?_)
        · have hD := hdom.mp hd
          have hc6 : SqL K H6 c ((g.map fun (k : Nat) => (k : Int)).map V.int) := by
            have := sq_of (K := K) (e6 _ _ hc5)
            rw [nv_iv] at this
            exact this
          refine ⟨_, rfl, c, _, rfl, hc6, by rw [List.length_map]; omega, fun ns p2 perm srt np2 => ?_⟩
          obtain ⟨ks, rfl, hks, hkp⟩ := rising_of perm srt hgd
          have ep := Ex.new (o := .lst ((ks.map fun (k : Nat) => (k : Int)).map V.int)) np2
          refine q _ p2 ks (eH6.trans (ex_N ep)) (hT6.ext ep) ?_ (fun ts hts => ?_) (by rw [hkp.length_eq]; omega)
          · rw [upd_same]
            show some (HO.lst (iv _)) = _
            rw [← nv_iv]
          · have same := tops_least hA hperm hw hts (m := 1 + i) (by omega) (by omega) (hg ▸ hD) (fun k k1 k2 hk => hno k k1 k2 (os.take k) (hnd.sublist (List.take_sublist ..)) (by rw [List.length_take]; omega) (fun x hx => hos x (List.mem_of_mem_take hx)) hk)
            obtain ⟨gs, i2, g1, g2, g3, g4, g5⟩ := hts
            refine rising_same hks (g4 ▸ (g2 i2 g3).1) fun x => ?_
            rw [← same x, ← hg]
            exact hkp.mem_iff
        · refine ⟨_, _, _, rfl, eN.trans (eN2.trans (ex_N (ec.trans (e5.trans e6)))), hT6, e6 _ _ (e5 _ _ hD3), fun k k1 k2 => ?_⟩
          by_cases hk : k < 1 + i
          · exact hno k k1 hk
          · have hk : k = 1 + i := by omega
            subst hk
            intro S s1 s2 s3 s4
            have := dom_take hA hperm hw s1 s3 s4
            rw [s2, ← hg] at this
            have hDg : Dom n f g := fun x hx y hy hyn => s4 x ((this x).mp hx) y hy fun z => hyn ((this y).mpr z)
            rw [hdom.mpr hDg] at hd
            cases hd
    · rintro σ' H2 ⟨y3, y4, y5, rfl, eN, hT', hD', hno⟩
      exact absurd (fun x hx y hy hyn => absurd (List.mem_range.mpr hy) hyn) (hno n hn1 (by omega) (List.range n) List.nodup_range (List.length_range ..) (fun x hx => List.mem_range.mp hx))
end
end Hc
namespace Hc
open PySem PySem.Spec PyProof.Rows L2 Evl
section
variable {P : Program} {w : World} {K : PySem.W.Frag} {mg : Str → Option Value} {base : Heap}
def spWay (K : PySem.W.Frag) : Sp := fun vs H Q _ => ∃ (v : V) (l : Addr) (n : Nat) (f : Nat → Nat → Int) (ns : List Int), vs = [v, .ref l] ∧ TabR K H v n f ∧ n ≤ 20 ∧ H l = some (.lst (iv ns)) ∧ ns.length ≤ 100 ∧ ∀ H2, Ex H H2 → Q (.bl true) H2
theorem cut_iv_from (ns : List Int) (k : Nat) : cutV (iv ns) (some (k : Int)) none = iv (ns.drop k) := by
  rw [cut_from]
  unfold iv
  rw [List.map_drop]
theorem cut_iv_to (ns : List Int) (k : Nat) : cutV (iv ns) none (some (k : Int)) = iv (ns.take k) := by
  rw [cut_to]
  unfold iv
  rw [List.map_take]
theorem around_len (ns : List Int) : (ns.drop 1 ++ ns.take 1).length = ns.length := by
  rw [List.length_append, List.length_drop, List.length_take]
  omega
theorem around_at (ns : List Int) {i : Nat} (h : i < ns.length) : at0 (ns.drop 1 ++ ns.take 1) i = at0 ns (if i + 1 = ns.length then 0 else i + 1) := by
  unfold at0
  rw [List.getD_eq_getElem?_getD, List.getD_eq_getElem?_getD, List.getElem?_append, List.length_drop]
  by_cases e : i + 1 = ns.length
  · rw [if_neg (by omega), if_pos e, show i - (ns.length - 1) = 0 by omega, List.getElem?_take_of_lt (by decide)]
  · rw [if_pos (by omega), if_neg e, List.getElem?_drop, show 1 + i = i + 1 by omega]
theorem ring_zip (f : Nat → Nat → Int) (ns : List Int) : ((List.range ns.length).all fun i => decide (0 < f (at0 ns i).toNat (at0 (ns.drop 1 ++ ns.take 1) i).toNat)) = ringBack f ns := by
  rw [ring_turn]
  unfold ringFore
  rw [Bool.eq_iff_iff, List.all_eq_true, List.all_eq_true]
  constructor
  · intro h i hi
    have := h i hi
    rw [around_at ns (List.mem_range.mp hi)] at this
    exact this
  · intro h i hi
    rw [around_at ns (List.mem_range.mp hi)]
    exact h i hi
/-- an answer of one of the two classes, and what is due of it -/
inductive DueR (T : Tx K mg) (H : Hp) (x : Addr) (n : Nat) (f : Nat → Nat → Int) : Bool → Prop where
  | unb (dx : Addr) (k : Int) (hx : H x = some (.ins T.c_Unbeaten dx [("who", .int k)])) : DueR T H x n f (shN n f k)
  | ring (dx p : Addr) (ns : List Int) (hx : H x = some (.ins T.c_Ring dx [("way", .ref p)])) (hp : H p = some (.lst (iv ns))) (hl : ns.length ≤ 100) : DueR T H x n f (shR n f ns)
theorem DueR.mono {T : Tx K mg} {H H' : Hp} {n : Nat} {f : Nat → Nat → Int} {x : Addr} {b : Bool} (h : DueR T H x n f b) (e : Ex H H') : DueR T H' x n f b := by
  cases h with
  | unb dx k hx => exact .unb dx k (e _ _ hx)
  | ring dx p ns hx hp hl => exact .ring dx p ns (e _ _ hx) (e _ _ hp) hl
def spDue (T : Tx K mg) : Sp := fun vs H Q _ => ∃ (v : V) (x : Addr) (n : Nat) (f : Nat → Nat → Int) (b : Bool), vs = [v, .ref x] ∧ TabR K H v n f ∧ 1 ≤ n ∧ n ≤ 20 ∧ DueR T H x n f b ∧ ∀ H2, Ex H H2 → Q (.bl b) H2
theorem ok_law_due (T : Tx K mg) : FnOk P w K mg base CX0 1 T.f_law_due T.d_law_due ["_law_table_here", "_law_found"] (spDue T) := by
  refine T.F_law_due.ok sc_law_due (fun vs H Q E h => ?_) (fun cdv A outer s H vs Q E hr h => ?_)
  · obtain ⟨v, x, n, f, b, rfl, _⟩ := h
    rfl
  · obtain ⟨v, x, n, f, b, rfl, TT, hn1, hn, hD, q⟩ := h
    obtain ⟨t, tx, rfl, hS, hl, hat⟩ := TT.at_
    refine ⟨_, pss_cons (ps_set (i := 2) sc_law_due.nd rfl (Or.inr rfl) (pe_callB (lenK K) (by rfl) T.n_len PySem.boot_len (pa_cons (pv 0) pa_nil)))
      (pss_cons (ps_if (pt_val (pe_callB (isiK K) (by rfl) T.n_isinstance PyProof.Rows.boot_isinstance (pa_cons (pv 1) (pa_cons (pe_glob (v := .ref T.c_Unbeaten) (by rfl) T.g_Unbeaten rfl) pa_nil)))) (pss_one (ps_ret (pe_and (pe_chain op_le op_lt pe_int (fldK K (pv 1)) (pv 2)) (pe_one (pe_callB (allK K) (by rfl) T.n_all PyProof.Rows.boot_all (pa_cons (pe_lc (own := [("_law_number_here", 4)]) rfl sc_law_due.nd (piL K (pe_ix (ixLK K) (pv 0) (fldK K (pv 1)) (fun _ _ => rfl))) (blkOk_by (own := [("_law_number_here", 4)]) (N := ["_law_table_here", "_law_found", "_law_size", "_law_way", "_law_number_here", "_law_one", "_law_other"]) (sc := defScope s_law_due) (by decide +kernel)) (fun _ _ _ _ _ => (pg_name (i := 4) sc_law_due.nd rfl (by first | exact Or.inl rfl | exact Or.inr rfl))) (fun _ _ _ _ _ => pts_nil) (fun _ _ _ _ _ => (pe_cmpR op_ge (pv 4) pe_int (nomark _)))) pa_nil)))))) (pss_nil))
      (pss_cons (ps_set (i := 3) sc_law_due.nd rfl (Or.inl rfl) (fldK K (pv 1)))
      (pss_cons (ps_if (PW.pt (pw_or (pt_cmpR (eqDK K hr.units) (pv 3) (pe_lst pa_nil) (nomark _)) (pw_or (pt_cmpR op_ne (pe_callB lenZ (by rfl) T.n_len PySem.boot_len (pa_cons (pe_callTy (setLK K) (by rfl) T.n_set bt_set (pa_cons (pv 3) pa_nil)) pa_nil)) (pe_callB (lenK K) (by rfl) T.n_len PySem.boot_len (pa_cons (pv 3) pa_nil)) (nomark _)) (pw_or1 (pt_not (pt_val (pe_callB (allK K) (by rfl) T.n_all PyProof.Rows.boot_all (pa_cons (pe_lc (own := [("_law_one", 5)]) rfl sc_law_due.nd (piL K (pv 3)) (blkOk_by (own := [("_law_one", 5)]) (N := ["_law_table_here", "_law_found", "_law_size", "_law_way", "_law_number_here", "_law_one", "_law_other"]) (sc := defScope s_law_due) (by decide +kernel)) (fun _ _ _ _ _ => (pg_name (i := 5) sc_law_due.nd rfl (by first | exact Or.inl rfl | exact Or.inr rfl))) (fun _ _ _ _ _ => pts_nil) (fun _ _ _ _ _ => (pe_chain op_le op_lt pe_int (pv 5) (pv 2)))) pa_nil)))))))) (pss_one (ps_ret pe_bl)) (pss_nil))
      (pss_one (ps_ret (pe_callB (allK K) (by rfl) T.n_all PyProof.Rows.boot_all (pa_cons (pe_lc (own := [("_law_one", 5), ("_law_other", 6)]) rfl sc_law_due.nd (piZ K (by rfl) T.n_zip (pa_cons (pv 3) (pa_cons (pe_op op_cat (pe_slice (slLK K) (pv 3) (po_some pe_int) po_none) (pe_slice (slLK K) (pv 3) po_none (po_some pe_int))) pa_nil))) (blkOk_by (own := [("_law_one", 5), ("_law_other", 6)]) (N := ["_law_table_here", "_law_found", "_law_size", "_law_way", "_law_number_here", "_law_one", "_law_other"]) (sc := defScope s_law_due) (by decide +kernel)) (fun _ _ _ _ _ => (pgT K (n := 2) (pgs_cons (pg_name (i := 5) sc_law_due.nd rfl (by first | exact Or.inl rfl | exact Or.inr rfl)) (pgs_cons (pg_name (i := 6) sc_law_due.nd rfl (by first | exact Or.inl rfl | exact Or.inr rfl)) pgs_nil)))) (fun _ _ _ _ _ => pts_nil) (fun _ _ _ _ _ => (pe_cmpR op_gt (pe_ix (ixLK K) (pe_ix (ixLK K) (pv 0) (pv 5) (fun _ _ => rfl)) (pv 6) (fun _ _ => rfl)) pe_int (nomark _)))) pa_nil))))))), ?_⟩
    refine ⟨_, rfl, t, _, rfl, .inl hS, ?_⟩
    rw [hl]
    cases hD with
    | unb dx k hx =>
      unfold shN inB at q
      refine ⟨_, rfl, .ref x, .ref T.c_Unbeaten, _, _, true, rfl, .own _, tyx_ins hx T.C_Unbeaten T.y_Unbeaten, T.k_Unbeaten_Unbeaten, true, rfl, ?_⟩
      refine itT rfl ?_
      refine ⟨_, rfl, x, T.c_Unbeaten, dx, _, _, rfl, hx, T.C_Unbeaten, T.a_Unbeaten_who, rfl, _, _, rfl, rfl, _, rfl, ?_⟩
      refine it2 (fun h0 => ?_) (fun h0 => ?_)
      · rw [h0, Bool.true_and] at q
        refine ⟨_, rfl, _, _, rfl, rfl, _, rfl, ?_⟩
        refine it2 (fun h1 => ?_) (fun h1 => ?_)
        · rw [h1, Bool.true_and] at q
          have h0' := of_decide_eq_true h0
          have h1' := of_decide_eq_true h1
          obtain ⟨k', rfl⟩ : ∃ k' : Nat, k = (k' : Int) := ⟨k.toNat, by omega⟩
          obtain ⟨r, g1, g2⟩ := hat k' (by omega)
          refine ⟨_, rfl, _, rfl, x, T.c_Unbeaten, dx, _, _, rfl, hx, T.C_Unbeaten, T.a_Unbeaten_who, rfl, t, _, k', .ref r, rfl, rfl, hS, atI_nat g1, r, rfl, ⟨_, g2⟩, fun D hD => ?_⟩
          refine lc_vals (walk_list (K := K) (a := r) (xs := rowV n (f k'))) hD (by rw [rowV_length]; omega) (fun H2 e2 => ex_l e2 g2) (fun j => V.bl (decide (0 ≤ f k' j))) ?_ ?_
          · rintro j y Ha Ha' hj ea ⟨rfl, hy⟩ Qc hq
            rw [rowV_length] at hj
            rw [rowV_get hj] at hy
            cases hy
            exact ⟨rfl, _, rfl, _, _, rfl, rfl, hq _ (Ex.refl _)⟩
          · intro H2 e2 hD2
            rw [rowV_length, map_bl_all] at hD2
            refine ⟨D, _, rfl, sq_of hD2, ?_⟩
            rw [all_map_id]
            exact q _ e2
        · rw [h1] at q
          exact q _ (Ex.refl _)
      · rw [h0] at q
        exact ⟨false, rfl, q _ (Ex.refl _)⟩
    | ring dx l ns hx hL hlen =>
      unfold shR at q
      refine ⟨_, rfl, .ref x, .ref T.c_Unbeaten, _, _, false, rfl, .own _, tyx_ins hx T.C_Ring T.y_Ring, T.k_Ring_Unbeaten, false, rfl, ?_⟩
      refine itF rfl ?_
      refine ⟨_, rfl, x, T.c_Ring, dx, _, _, rfl, hx, T.C_Ring, T.a_Ring_way, rfl, ?_⟩
      refine ⟨_, rfl, Nat.zero_le _, fun o no => ?_⟩
      have eo := Ex.new (o := .lst []) no
      refine ⟨_, _, dp_ints (sq_of (eo _ _ hL)), dp_ints (ns := []) (sq_of upd_same), shaped_ints _, shaped_ints _, _, rfl, ?_⟩
      rw [eqv_ints]
      refine it2 (fun h0 => ?_) (fun h0 => ?_)
      · have h0' : ns = [] := of_decide_eq_true h0
        rw [h0'] at q
        exact q _ eo
      · have h0' : ns ≠ [] := of_decide_eq_false h0
        have e0 : (!ns.isEmpty) = true := by
          cases hns : ns with
          | nil => exact absurd hns h0'
          | cons _ _ => rfl
        rw [e0, Bool.true_and] at q
        refine ⟨_, rfl, l, ns, rfl, sq_of (eo _ _ hL), by omega, fun z0 d nz0 hd hdm hdl => ⟨z0, _, _, rfl, upd_same, by omega, ?_⟩⟩
        replace eo := eo.trans (Ex.new (o := .set (fun k => d.any (· == k)) d.length) nz0)
        refine ⟨_, rfl, l, _, rfl, .inl (sq_of (eo _ _ hL)), rfl, _, rfl, ?_⟩
        rw [dec_int, iv_length]
        have edn : (!decide ((d.length : Int) = (ns.length : Int))) = !decide ns.Nodup := by
          congr 1
          have := set_len hd hdm
          by_cases h : ns.Nodup
          · rw [decide_eq_true h, decide_eq_true (by have := this.mpr h; omega)]
          · rw [decide_eq_false h, decide_eq_false (fun e => h (this.mp (by omega)))]
        show if (!decide ((d.length : Int) = (ns.length : Int))) = true then _ else _
        rw [edn]
        refine it2 (fun h1 => ?_) (fun h1 => ?_)
        · have h1' : decide ns.Nodup = false := by
            cases h : decide ns.Nodup with
            | false => rfl
            | true => rw [h] at h1; cases h1
          rw [h1'] at q
          exact q _ eo
        · have h1' : decide ns.Nodup = true := by
            cases h : decide ns.Nodup with
            | true => rfl
            | false => rw [h] at h1; cases h1
          rw [h1', Bool.true_and] at q
          refine ⟨_, rfl, l, rfl, ⟨_, sq_of (eo _ _ hL)⟩, fun D hD => ?_⟩
          refine lc_vals (walk_list (K := K) (a := l) (xs := iv ns)) hD (by rw [iv_length]; omega) (fun H2 e2 => sq_of (e2 _ _ (eo _ _ hL))) (fun i => V.bl (inB n (at0 ns i))) ?_ ?_
          · rintro j y H3 H3' hj e2 ⟨rfl, hy⟩ Qc hq
            rw [iv_length] at hj
            rw [iv_at0 hj] at hy
            cases hy
            refine ⟨rfl, _, rfl, _, _, rfl, rfl, _, rfl, ?_⟩
            unfold inB at hq
            refine it2 (fun k0 => ?_) (fun k0 => ?_)
            · rw [k0, Bool.true_and] at hq
              exact ⟨_, rfl, _, _, rfl, rfl, hq _ (Ex.refl _)⟩
            · rw [k0, Bool.false_and] at hq
              exact hq _ (Ex.refl _)
          intro H3 e3 hD3
          rw [iv_length, map_bl_all] at hD3
          refine ⟨D, _, rfl, sq_of hD3, _, rfl, ?_⟩
          rw [all_map_id, all_at0 ns (inB n)]
          have e13 := eo.trans e3
          show if (!ns.all (inB n)) = true then _ else _
          refine it2 (fun h2 => ?_) (fun h2 => ?_)
          · have h2' : ns.all (inB n) = false := by
              cases h : ns.all (inB n) with
              | false => rfl
              | true => rw [h] at h2; cases h2
            rw [h2'] at q
            exact q _ e13
          · have h2' : ns.all (inB n) = true := by
              cases h : ns.all (inB n) with
              | true => rfl
              | false => rw [h] at h2; cases h2
            rw [h2', Bool.true_and, ← ring_zip] at q
            have hin : ∀ i, i < ns.length → ∃ k : Nat, at0 ns i = (k : Int) ∧ k < n := fun i hi => by
              have := all_at0 ns (inB n)
              rw [h2', List.all_eq_true] at this
              have h9 := this i (List.mem_range.mpr hi)
              unfold inB at h9
              rw [Bool.and_eq_true] at h9
              have k0 := of_decide_eq_true h9.1
              have k1 := of_decide_eq_true h9.2
              exact ⟨(at0 ns i).toNat, by omega, by omega⟩
            have hL3 := e13 _ _ hL
            refine ⟨_, rfl, _, rfl, 1, rfl, l, _, rfl, sq_of hL3, fun c1 nc1 => ?_⟩
            have e4 := Ex.new (o := .lst (cutV (iv ns) (some 1) none)) nc1
            refine ⟨_, rfl, 1, rfl, l, _, rfl, sq_of (e4 _ _ hL3), fun c2 nc2 => ?_⟩
            have e5 := Ex.new (o := .lst (cutV (iv ns) none (some 1))) nc2
            have k1 : cutV (iv ns) (some 1) none = iv (ns.drop 1) := cut_iv_from ns 1
            have k2 : cutV (iv ns) none (some 1) = iv (ns.take 1) := cut_iv_to ns 1
            refine ⟨c1, c2, _, _, rfl, rfl, e5 _ _ upd_same, upd_same, sz_of (by rw [k1, k2, iv_length, iv_length, List.length_drop, List.length_take]; omega), fun c3 nc3 => ?_⟩
            have e6 := Ex.new (o := .lst (cutV (iv ns) (some 1) none ++ cutV (iv ns) none (some 1))) nc3
            have hc3 : (upd (upd (upd H3 c1 (.lst (cutV (iv ns) (some 1) none))) c2 (.lst (cutV (iv ns) none (some 1)))) c3 (.lst (cutV (iv ns) (some 1) none ++ cutV (iv ns) none (some 1)))) c3 = some (.lst (iv (ns.drop 1 ++ ns.take 1))) := by
              rw [upd_same, k1, k2]
              unfold iv
              rw [List.map_append]
            have e36 := (e4.trans e5).trans e6
            generalize (upd (upd (upd H3 c1 (.lst (cutV (iv ns) (some 1) none))) c2 (.lst (cutV (iv ns) none (some 1)))) c3 (.lst (cutV (iv ns) (some 1) none ++ cutV (iv ns) none (some 1)))) = H4 at hc3 e36
            have hL4 := e36 _ _ hL3
            have eH4 : Ex H H4 := e13.trans e36
            refine ⟨l, c3, _, _, rfl, sq_of hL4, sq_of hc3, fun D hD => ?_⟩
            refine lc_vals (walk_zip (K := K) (a := l) (b := c3) (xs := iv ns) (ys := iv (ns.drop 1 ++ ns.take 1)) (n := ns.length) (by rw [iv_length, iv_length, around_len, Nat.min_self])) hD (by omega) (fun H e => ⟨sq_of (e _ _ hL4), sq_of (e _ _ hc3)⟩) (fun i => V.bl (decide (0 < f (at0 ns i).toNat (at0 (ns.drop 1 ++ ns.take 1) i).toNat))) ?_ ?_
            · rintro j y Hb Hb' hj eb ⟨U2, x1, x2, rfl, nU2, rfl, h1, h2⟩ Qd hqd
              change (iv ns)[j]? = some x1 at h1
              change (iv (ns.drop 1 ++ ns.take 1))[j]? = some x2 at h2
              rw [iv_at0 hj] at h1
              rw [iv_at0 (by rw [around_len]; exact hj)] at h2
              cases h1
              cases h2
              rw [around_at ns hj] at hqd ⊢
              obtain ⟨k1, hk1, hk1n⟩ := hin j hj
              obtain ⟨k2, hk2, hk2n⟩ := hin (if j + 1 = ns.length then 0 else j + 1) (by split <;> omega)
              rw [hk1, hk2] at hqd ⊢
              rw [Int.toNat_natCast, Int.toNat_natCast] at hqd
              obtain ⟨r, g1, g2⟩ := hat k1 hk1n
              have eU := Ex.new (o := .tup [.int (k1 : Int), .int (k2 : Int)]) nU2
              have eHb := (eH4.trans eb).trans eU
              exact ⟨U2, _, rfl, st_of upd_same, rfl, _, _, rfl, _, [], rfl, rfl, rfl, _, rfl, _, rfl, t, _, k1, .ref r, rfl, rfl, ex_l eHb hS, atI_nat g1, _, rfl, r, _, k2, .int _, rfl, rfl, ex_l eHb g2, atI_nat (rowV_get hk2n), _, _, rfl, rfl, hqd _ eU⟩
            · intro Hb eb hb
              rw [map_bl_all] at hb
              refine ⟨D, _, rfl, sq_of hb, ?_⟩
              rw [all_map_id]
              exact q _ (eH4.trans eb)
end
end Hc
namespace Hc
open PySem PySem.Spec PyProof.Rows L2 Evl
section
variable {P : Program} {w : World} {K : PySem.W.Frag} {mg : Str → Option Value} {base : Heap}
/-- what foremost gave: of which class, and what it says of a table -/
inductive Got (T : Tx K mg) (H : Hp) (x : Addr) : (Nat → (Nat → Nat → Int) → Bool) → Bool → Addr → Prop where
  | unb (dx : Addr) (k : Int) (hx : H x = some (.ins T.c_Unbeaten dx [("who", .int k)])) : Got T H x (fun n g => shN n g k) true T.c_Unbeaten
  | ring (dx p : Addr) (ns : List Int) (hx : H x = some (.ins T.c_Ring dx [("way", .ref p)])) (hp : H p = some (.lst (iv ns))) (hl : ns.length ≤ 100) : Got T H x (fun n g => shR n g ns) false T.c_Ring
variable {T : Tx K mg} {x C : Addr} {sh : Nat → (Nat → Nat → Int) → Bool} {isU : Bool}
theorem Got.mono {H H' : Hp} (h : Got T H x sh isU C) (e : LamX.ExtN H H') : Got T H' x sh isU C := by
  cases h with
  | unb dx k hx => exact .unb dx k (e _ _ hx (fun _ z => nomatch z))
  | ring dx p ns hx hp hl => exact .ring dx p ns (e _ _ hx (fun _ z => nomatch z)) (e _ _ hp (fun _ z => nomatch z)) hl
theorem Got.ty {H : Hp} (h : Got T H x sh isU C) : TyX K H (.ref x) (.ref C) := by
  cases h with
  | unb dx k hx => exact tyx_ins hx T.C_Unbeaten T.y_Unbeaten
  | ring dx p ns hx hp hl => exact tyx_ins hx T.C_Ring T.y_Ring
theorem Got.kA {H : Hp} (h : Got T H x sh isU C) : PySem.W.kitOne K (.ref C) (.ref T.c_Answer) = some true := by
  cases h with
  | unb dx k hx => exact T.k_Unbeaten_Answer
  | ring dx p ns hx hp hl => exact T.k_Ring_Answer
theorem Got.kN {H : Hp} (h : Got T H x sh isU C) : PySem.W.kitOne K (.ref C) (.ref T.c_Unbeaten) = some isU := by
  cases h with
  | unb dx k hx => exact T.k_Unbeaten_Unbeaten
  | ring dx p ns hx hp hl => exact T.k_Ring_Unbeaten
theorem Got.kR {H : Hp} (h : Got T H x sh isU C) : PySem.W.kitOne K (.ref C) (.ref T.c_Ring) = some (!isU) := by
  cases h with
  | unb dx k hx => exact T.k_Unbeaten_Ring
  | ring dx p ns hx hp hl => exact T.k_Ring_Ring
theorem Got.kB {H : Hp} (h : Got T H x sh isU C) : PySem.W.kitOne K (.ref C) (.ref T.c_Ballots) = some false := by
  cases h with
  | unb dx k hx => exact T.k_Unbeaten_Ballots
  | ring dx p ns hx hp hl => exact T.k_Ring_Ballots
theorem Got.kU {H : Hp} (h : Got T H x sh isU C) : PySem.W.kitOne K (.ref C) (.ref T.c_Uneven) = some false := by
  cases h with
  | unb dx k hx => exact T.k_Unbeaten_Uneven
  | ring dx p ns hx hp hl => exact T.k_Ring_Uneven
theorem Got.shows {H : Hp} (h : Got T H x sh isU C) {σ : L2.St} {i : Nat} {v : V} {n : Nat} {g : Nat → Nat → Int} {E0 E1 : XK} {Q : VK} (h3 : σ[3]? = some (some (.ref x))) (hi : σ[i]? = some (some v)) (TT : TabR K H v n g) (hn1 : 1 ≤ n) (hq : ∀ H', Ex H H' → Q (.bl (sh n g)) H') :
    tMeth T.c_Unbeaten "shows" (spNShows K T.c_Unbeaten) [] E0 (tVar 3) (tCons (tVar i) tNil) σ H Q ∨ tMeth T.c_Ring "shows" (spRShows K T.c_Ring) [] E1 (tVar 3) (tCons (tVar i) tNil) σ H Q := by
  cases h with
  | unb dx k hx => exact .inl ⟨.ref x, h3, x, dx, _, rfl, hx, rfl, v, hi, x, dx, v, k, n, g, rfl, hx, TT, hn1, hq _ (Ex.refl _)⟩
  | ring dx p ns hx hp hl => exact .inr ⟨.ref x, h3, x, dx, _, rfl, hx, rfl, v, hi, x, dx, p, v, ns, n, g, rfl, hx, sq_of hp, by omega, TT, hq⟩
theorem Got.due {H : Hp} (h : Got T H x sh isU C) {σ : L2.St} {i : Nat} {v : V} {n : Nat} {g : Nat → Nat → Int} {E0 : XK} {Q : VK} (hi : σ[i]? = some (some v)) (h3 : σ[3]? = some (some (.ref x))) (TT : TabR K H v n g) (hn1 : 1 ≤ n) (hn : n ≤ 20) (hq : ∀ H', Ex H H' → Q (.bl (sh n g)) H') :
    tCall (spDue T) [] E0 (tCons (tVar i) (tCons (tVar 3) tNil)) σ H Q := by
  cases h with
  | unb dx k hx => exact ⟨v, hi, .ref x, h3, v, x, n, g, _, rfl, TT, hn1, hn, .unb dx k hx, hq⟩
  | ring dx p ns hx hp hl => exact ⟨v, hi, .ref x, h3, v, x, n, g, _, rfl, TT, hn1, hn, .ring dx p ns hx hp hl, hq⟩
def spLRight (T : Tx K mg) : Sp := fun vs H Q _ => ∃ (v : V) (o : Addr) (os : List V) (n : Nat) (f : Nat → Nat → Int), vs = [v, .ref o] ∧ TabR K H v n f ∧ Anti n f ∧ 1 ≤ n ∧ n ≤ 20 ∧ SqL K H o os ∧ (∀ u ∈ os, ∃ n' g, 1 ≤ n' ∧ n' ≤ 20 ∧ TabR K H u n' g) ∧ LamX.Tabs (tbs T) H ∧ ∀ H2, LamX.ExtN H H2 → LamX.Tabs (tbs T) H2 → Q (.bl true) H2
/-- a list is written to: no table of code -/
theorem tabs_mut {ts : List (Addr × Str)} {H : Hp} {p : Addr} {xs ys : List V} (h : LamX.Tabs ts H) (hp : H p = some (.lst xs)) : LamX.Tabs ts (upd H p (.lst ys)) := fun t ht => by
  obtain ⟨ps, h1, h2, h3⟩ := h t ht
  have ne : ∀ {a : Addr} {o : HO}, H a = some o → o ≠ .lst xs → a ≠ p := fun ha hno e => by
    rw [e, hp] at ha
    cases ha
    exact hno rfl
  refine ⟨ps, by rw [upd_ne (ne h1 (fun z => nomatch z))]; exact h1, h2, fun pos cv hc => ?_⟩
  obtain ⟨c, e1, e2⟩ := h3 pos cv hc
  exact ⟨c, e1, by rw [upd_ne (ne e2 (fun z => nomatch z))]; exact e2⟩
theorem mutN {H H' : Hp} {p : Addr} {o : HO} (e : LamX.ExtN H H') (h : H p = none) : LamX.ExtN H (upd H' p o) := fun a u ha hu => by
  have : a ≠ p := fun z => by
    rw [z, h] at ha
    cases ha
  rw [upd_ne this]
  exact e a u ha hu
theorem dp_nats {K : PySem.W.Frag} {H : Hp} {a : Addr} {ks : List Nat} (h : H a = some (.lst (nv ks))) : Dp K H (.ref a) (.list ((ks.map fun (k : Nat) => (k : Int)).map PyData.int)) := dp_ints (sq_of (by rw [h, nv_iv]))
theorem shR_twice {n : Nat} {f : Nat → Nat → Int} {a : Int} {l : List Int} : shR n f (a :: l ++ [a]) = false := by
  have h : ¬ (a :: l ++ [a]).Nodup := fun h => by
    have := (List.nodup_cons.mp h).1
    simp at this
  unfold shR
  rw [decide_eq_false h, Bool.false_and, Bool.and_false]
theorem shN_true {n w : Nat} {f : Nat → Nat → Int} (hw : w < n) (hu : ∀ j, j < n → 0 ≤ f w j) : shN n f (w : Int) = true := by
  unfold shN inB
  rw [decide_eq_true (by omega), decide_eq_true (by omega)]
  exact List.all_eq_true.mpr fun j hj => decide_eq_true (hu j (List.mem_range.mp hj))
theorem ok_law_right (T : Tx K mg) (TB : LamX.TabB base mg T.cc T.pt) : FnOk P w K mg base CX0 4 T.f_law_right T.d_law_right ["_law_table_here", "_law_others"] (spLRight T) := by
  refine T.F_law_right.ok sc_law_right (fun vs H Q E h => ?_) (fun cdv A outer s H vs Q E hr h => ?_)
  · obtain ⟨v, o, os, n, f, rfl, _⟩ := h
    rfl
  · obtain ⟨v, o, os, n, f, rfl, TT, hA, hn1, hn, hO, hOs, hTb, q⟩ := h
    obtain ⟨t, xs, rfl, hS, hl, hat⟩ := TT.at_
    refine ⟨_, pss_cons (ps_setLc (i := 2) (own := [("_law_row", 7)]) rfl sc_law_right.nd rfl rfl (sw_true rfl rfl rfl (by decide +kernel)) (piL K (pv 0)) (blkOk_by (own := [("_law_row", 7)]) (N := ["_law_table_here", "_law_others", "_law_handed", "_law_found", "_law_free", "_law_other", "_law_group", "_law_row", "_law_one"]) (sc := defScope s_law_right) (by decide +kernel)) (fun _ _ _ _ _ => (pg_name (i := 7) sc_law_right.nd rfl (by first | exact Or.inl rfl | exact Or.inr rfl))) (fun _ _ _ _ _ => pts_nil) (fun _ _ _ _ _ => (pe_callTy (listK K) (by rfl) T.n_list bt_list (pa_cons (pv 7) pa_nil))))
      (pss_cons (ps_set (i := 3) sc_law_right.nd rfl (Or.inl rfl) (pe_call (ok_foremost T) (hr.mono (by decide)) (by rfl) T.g_foremost T.F_foremost.kp (b_foremost T) .nil pass0 (pa_cons (pv 2) pa_nil)))
      (pss_cons (ps_if (PW.pt (pw_or (pt_not (pt_val (pe_callB (isiK K) (by rfl) T.n_isinstance PyProof.Rows.boot_isinstance (pa_cons (pv 3) (pa_cons (pe_glob (v := .ref T.c_Answer) (by rfl) T.g_Answer rfl) pa_nil))))) (pw_or (pt_cmpR op_eq (pe_callB (isiK K) (by rfl) T.n_isinstance PyProof.Rows.boot_isinstance (pa_cons (pv 3) (pa_cons (pe_glob (v := .ref T.c_Unbeaten) (by rfl) T.g_Unbeaten rfl) pa_nil))) (pe_callB (isiK K) (by rfl) T.n_isinstance PyProof.Rows.boot_isinstance (pa_cons (pv 3) (pa_cons (pe_glob (v := .ref T.c_Ring) (by rfl) T.g_Ring rfl) pa_nil))) (nomark _)) (pw_or1 (pt_cmpR (neDK K hr.units) (pv 2) (pv 0) (nomark _)))))) (pss_one (ps_ret pe_bl)) (pss_nil))
      (pss_cons (ps_if (PW.pt (pw_or (pt_val (pe_callB (isiK K) (by rfl) T.n_isinstance PyProof.Rows.boot_isinstance (pa_cons (pv 3) (pa_cons (pe_glob (v := .ref T.c_Ballots) (by rfl) T.g_Ballots rfl) pa_nil)))) (pw_or1 (pt_val (pe_callB (isiK K) (by rfl) T.n_isinstance PyProof.Rows.boot_isinstance (pa_cons (pv 3) (pa_cons (pe_glob (v := .ref T.c_Uneven) (by rfl) T.g_Uneven rfl) pa_nil))))))) (pss_one (ps_ret pe_bl)) (pss_nil))
      (pss_cons (ps_setLc (i := 4) (own := [("_law_one", 8), ("_law_row", 7)]) rfl sc_law_right.nd rfl rfl (sw_true rfl rfl rfl (by decide +kernel)) (piE K (by rfl) T.n_enumerate (pa_cons (pv 0) pa_nil)) (blkOk_by (own := [("_law_one", 8), ("_law_row", 7)]) (N := ["_law_table_here", "_law_others", "_law_handed", "_law_found", "_law_free", "_law_other", "_law_group", "_law_row", "_law_one"]) (sc := defScope s_law_right) (by decide +kernel)) (fun _ _ _ _ _ => (pgT K (n := 2) (pgs_cons (pg_name (i := 8) sc_law_right.nd rfl (by first | exact Or.inl rfl | exact Or.inr rfl)) (pgs_cons (pg_name (i := 7) sc_law_right.nd rfl (by first | exact Or.inl rfl | exact Or.inr rfl)) pgs_nil)))) (fun _ _ _ _ _ => pts_one (pt_cmpR op_ge (pe_callB (minK K) (by rfl) T.n_min PyProof.Rows.boot_min (pa_cons (pv 7) pa_nil)) pe_int (nomark _))) (fun _ _ _ _ _ => (pv 8)))
      (pss_cons (ps_if (PW.pt (pw_or (pt_cmpR op_ne (pe_callB (isiK K) (by rfl) T.n_isinstance PyProof.Rows.boot_isinstance (pa_cons (pv 3) (pa_cons (pe_glob (v := .ref T.c_Unbeaten) (by rfl) T.g_Unbeaten rfl) pa_nil))) (pe_cmpR (neDK K hr.units) (pv 4) (pe_lst pa_nil) (nomark _)) (nomark _)) (pw_or (pt_not (pt_val (pe_call (ok_law_due T) (hr.mono (by decide)) (by rfl) T.g_law_due T.F_law_due.kp (b_law_due T) .nil pass0 (pa_cons (pv 0) (pa_cons (pv 3) pa_nil))))) (pw_or1 (pt_cmpR op_notBl ((pe_alt (pe_meth (pv 3) T.C_Unbeaten T.S_Unbeaten (ok_Unbeaten_shows T) (hr.mono (by decide)) (b_Unbeaten_shows T) .nil pass0 (pa_cons (pv 0) pa_nil)) (pe_meth (pv 3) T.C_Ring T.S_Ring (ok_Ring_shows T) (hr.mono (by decide)) (b_Ring_shows T) .nil pass0 (pa_cons (pv 0) pa_nil)))) pe_bl (nomark _)))))) (pss_one (ps_ret pe_bl)) (pss_nil))
      (pss_cons (ps_for PassesOwn.never rfl (piL K (pv 1)) (pg_name (i := 5) sc_law_right.nd rfl (by first | exact Or.inl rfl | exact Or.inr rfl))
        (pss_one (ps_if (pt_cmpR op_ne ((pe_alt (pe_meth (pv 3) T.C_Unbeaten T.S_Unbeaten (ok_Unbeaten_shows T) (hr.mono (by decide)) (b_Unbeaten_shows T) .nil pass0 (pa_cons (pv 5) pa_nil)) (pe_meth (pv 3) T.C_Ring T.S_Ring (ok_Ring_shows T) (hr.mono (by decide)) (b_Ring_shows T) .nil pass0 (pa_cons (pv 5) pa_nil)))) (pe_call (ok_law_due T) (hr.mono (by decide)) (by rfl) T.g_law_due T.F_law_due.kp (b_law_due T) .nil pass0 (pa_cons (pv 5) (pa_cons (pv 3) pa_nil))) (nomark _)) (pss_one (ps_ret pe_bl)) (pss_nil))))
      (pss_cons (ps_set (i := 6) sc_law_right.nd rfl (Or.inl rfl) (pe_call (ok_tops T) (hr.mono (by decide)) (by rfl) T.g_tops T.F_tops.kp (b_tops T) .nil pass0 (pa_cons (pv 2) pa_nil)))
      (pss_cons (ps_if (PW.pt (pw_or (pt_not (pt_val (pe_callB (isiK K) (by rfl) T.n_isinstance PyProof.Rows.boot_isinstance (pa_cons (pv 6) (pa_cons (pe_bltn (v := .ty "list") (by rfl) T.n_list bt_list rfl) pa_nil))))) (pw_or (pt_cmpR (neDK K hr.units) (pv 6) (pe_call (ok_law_tops T TB) (hr.mono (by decide)) (by rfl) T.g_law_tops T.F_law_tops.kp (b_law_tops T) .nil pass0 (pa_cons (pv 0) pa_nil)) (nomark _)) (pw_or1 (pt_cmpR (neDK K hr.units) (pv 2) (pv 0) (nomark _)))))) (pss_one (ps_ret pe_bl)) (pss_nil))
      (pss_cons (ps_if (pt_val (pe_callB (anyK K) (by rfl) T.n_any PyProof.Rows.boot_any (pa_cons (pe_lc (own := [("_law_one", 8)]) rfl sc_law_right.nd (piL K (pv 6)) (blkOk_by (own := [("_law_one", 8)]) (N := ["_law_table_here", "_law_others", "_law_handed", "_law_found", "_law_free", "_law_other", "_law_group", "_law_row", "_law_one"]) (sc := defScope s_law_right) (by decide +kernel)) (fun _ _ _ _ _ => (pg_name (i := 8) sc_law_right.nd rfl (by first | exact Or.inl rfl | exact Or.inr rfl))) (fun _ _ _ _ _ => pts_nil) (fun _ _ _ _ _ => (pe_callB (isiK K) (by rfl) T.n_isinstance PyProof.Rows.boot_isinstance (pa_cons (pv 8) (pa_cons (pe_bltn (v := .ty "bool") (by rfl) T.n_bool bt_bool rfl) pa_nil))))) pa_nil))) (pss_one (ps_ret pe_bl)) (pss_nil))
      (pss_cons (ps_expr (pe_bm PySem.F.plainAttrs_list PySem.F.slot_list_append PySem.F.type_list_append mt_append (pv 6) (pa_cons pe_int pa_nil)))
      (Evl.pss_cut (ps_if (PW.pt (pw_and (pt_val (pe_callB (isiK K) (by rfl) T.n_isinstance PyProof.Rows.boot_isinstance (pa_cons (pv 3) (pa_cons (pe_glob (v := .ref T.c_Unbeaten) (by rfl) T.g_Unbeaten rfl) pa_nil)))) (pw_and1 (pt_val (pe_callB (isiK K) (by rfl) T.n_isinstance PyProof.Rows.boot_isinstance (pa_cons (fldK K (pv 3)) (pa_cons (pe_bltn (v := .ty "bool") (by rfl) T.n_bool bt_bool rfl) pa_nil))))))) (pss_one (ps_ret pe_bl)) (pss_nil))
      (Evl.pss_cut (ps_if (pt_val (pe_callB (isiK K) (by rfl) T.n_isinstance PyProof.Rows.boot_isinstance (pa_cons (pv 3) (pa_cons (pe_glob (v := .ref T.c_Ring) (by rfl) T.g_Ring rfl) pa_nil)))) (pss_cons (ps_if (PW.pt (pw_or (pt_not (pt_val (pe_callB (isiK K) (by rfl) T.n_isinstance PyProof.Rows.boot_isinstance (pa_cons (fldK K (pv 3)) (pa_cons (pe_bltn (v := .ty "list") (by rfl) T.n_list bt_list rfl) pa_nil))))) (pw_or1 (pt_val (pe_callB (anyK K) (by rfl) T.n_any PyProof.Rows.boot_any (pa_cons (pe_lc (own := [("_law_one", 8)]) rfl sc_law_right.nd (piL K (fldK K (pv 3))) (blkOk_by (own := [("_law_one", 8)]) (N := ["_law_table_here", "_law_others", "_law_handed", "_law_found", "_law_free", "_law_other", "_law_group", "_law_row", "_law_one"]) (sc := defScope s_law_right) (by decide +kernel)) (fun _ _ _ _ _ => (pg_name (i := 8) sc_law_right.nd rfl (by first | exact Or.inl rfl | exact Or.inr rfl))) (fun _ _ _ _ _ => pts_nil) (fun _ _ _ _ _ => (pe_callB (isiK K) (by rfl) T.n_isinstance PyProof.Rows.boot_isinstance (pa_cons (pv 8) (pa_cons (pe_bltn (v := .ty "bool") (by rfl) T.n_bool bt_bool rfl) pa_nil))))) pa_nil)))))) (pss_one (ps_ret pe_bl)) (pss_nil))
      (pss_cons (ps_expr (pe_bm PySem.F.plainAttrs_list PySem.F.slot_list_append PySem.F.type_list_append mt_append (fldK K (pv 3)) (pa_cons (pe_ix (ixLK K) (fldK K (pv 3)) pe_int (fun _ _ => rfl)) pa_nil)))
      (pss_one (ps_if (PW.pt (pw_or (pt_cmpR op_notBl ((pe_alt (pe_meth (pv 3) T.C_Unbeaten T.S_Unbeaten (ok_Unbeaten_shows T) (hr.mono (by decide)) (b_Unbeaten_shows T) .nil pass0 (pa_cons (pv 0) pa_nil)) (pe_meth (pv 3) T.C_Ring T.S_Ring (ok_Ring_shows T) (hr.mono (by decide)) (b_Ring_shows T) .nil pass0 (pa_cons (pv 0) pa_nil)))) pe_bl (nomark _)) (pw_or1 (pt_cmpR op_notBl ((pe_alt (pe_meth (pe_call (ok_foremost T) (hr.mono (by decide)) (by rfl) T.g_foremost T.F_foremost.kp (b_foremost T) .nil pass0 (pa_cons (pv 2) pa_nil)) T.C_Unbeaten T.S_Unbeaten (ok_Unbeaten_shows T) (hr.mono (by decide)) (b_Unbeaten_shows T) .nil pass0 (pa_cons (pv 0) pa_nil)) (pe_meth (pe_call (ok_foremost T) (hr.mono (by decide)) (by rfl) T.g_foremost T.F_foremost.kp (b_foremost T) .nil pass0 (pa_cons (pv 2) pa_nil)) T.C_Ring T.S_Ring (ok_Ring_shows T) (hr.mono (by decide)) (b_Ring_shows T) .nil pass0 (pa_cons (pv 0) pa_nil)))) pe_bl (nomark _))))) (pss_one (ps_ret pe_bl)) (pss_nil))))) (pss_nil))
      (pss_one (ps_ret (pe_and (pe_cmpR (eqDK K hr.units) (pe_call (ok_tops T) (hr.mono (by decide)) (by rfl) T.g_tops T.F_tops.kp (b_tops T) .nil pass0 (pa_cons (pv 2) pa_nil)) (pe_slice (slLK K) (pv 6) po_none (po_some (pe_un un_neg pe_int))) (nomark _)) (pe_one (pe_cmpR (eqDK K hr.units) (pv 2) (pv 0) (nomark _)))))))))))))))))), ?_⟩
    refine ⟨_, rfl, t, rfl, ⟨_, hS⟩, fun D hD => ?_⟩
    refine lc_rows (walk_list (K := K) (a := t) (xs := xs)) hD (by omega) (fun H2 e2 => ex_l e2 hS) (fun i => rowV n (f i)) ?_ ?_
    · rintro i x Ha Ha' hi ea ⟨rfl, hx⟩ Qc hq
      obtain ⟨r, g1, g2⟩ := hat i (by omega)
      rw [g1] at hx
      cases hx
      exact ⟨rfl, _, rfl, r, _, rfl, .inl (ex_l ea g2), fun l nl => hq l _ nl (Ex.new nl) upd_same⟩
    intro H1 ps e1 hD1 hl1 R1
    have HT : Tab H H1 D ps n f := R1.tab hD hD1 (by rw [hl1, hl])
    refine ⟨_, rfl, _, n, f, rfl, hn1, hn, HT.rd, hA, fun H2 x e2 nx hF => ?_⟩
    have e12 := e1.trans e2
    obtain ⟨C, isU, sh, G, hsh, hfree, hring⟩ : ∃ C isU sh, Got T H2 x sh isU C ∧ sh n f = true ∧ (isU = true ↔ ∃ i, i < n ∧ ∀ j, j < n → 0 ≤ f i j) ∧ (isU = false → (∀ u, u < n → ∃ j, j < n ∧ f u j < 0) ∧ ∃ dx p ks, H1 p = none ∧ H2 x = some (.ins T.c_Ring dx [("way", .ref p)]) ∧ H2 p = some (.lst (nv ks)) ∧ shR n f (ks.map fun (k : Nat) => (k : Int)) = true ∧ ks.length ≤ n) := by
      cases hF with
      | unb dx w hx hw hu hno => exact ⟨_, true, _, .unb dx w hx, shN_true hw hu, ⟨fun _ => ⟨w, hw, hu⟩, fun _ => rfl⟩, fun h => nomatch h⟩
      | ring dx p ks np hx hp hno hsh hl =>
        refine ⟨_, false, _, .ring dx p (ks.map fun (k : Nat) => (k : Int)) hx (by rw [hp, nv_iv]) (by rw [List.length_map]; omega), hsh, ⟨fun h => (nomatch h), fun ⟨i, hi, h⟩ => ?_⟩, fun _ => ⟨hno, dx, p, ks, np, hx, hp, hsh, hl⟩⟩
        obtain ⟨j, hj, hlt⟩ := hno i hi
        have := h j hj
        omega
    clear hF
    refine ⟨_, rfl, .ref x, .ref T.c_Answer, _, _, true, rfl, .own _, G.ty, G.kA, true, rfl, ?_⟩
    refine ⟨_, rfl, .ref x, .ref T.c_Unbeaten, _, _, isU, rfl, .own _, G.ty, G.kN, _, rfl, .ref x, .ref T.c_Ring, _, _, !isU, rfl, .own _, G.ty, G.kR, rfl, _, rfl, itF (by rw [dec_bl]; cases isU <;> rfl) ?_⟩
    refine ⟨_, rfl, _, rfl, _, _, (HT.rd.mono e2).dp, (TT.mono e12).dp, shaped_tab _ _, shaped_tab _ _, _, rfl, itF (by rw [eqv_tab (fun _ _ _ _ => rfl)]; rfl) ?_⟩
    refine ⟨_, rfl, .ref x, .ref T.c_Ballots, _, _, false, rfl, .own _, G.ty, G.kB, false, rfl, _, rfl, .ref x, .ref T.c_Uneven, _, _, false, rfl, .own _, G.ty, G.kU, false, rfl, ?_⟩
    refine ⟨_, rfl, t, xs, rfl, ex_l e12 hS, fun Fr nFr => ?_⟩
    refine lc_filt (walk_enum (K := K) (a := t) (xs := xs)) nFr (by omega) (fun Hx e => ex_l (e12.trans e) hS) (fun i => (List.range n).all fun j => decide (0 ≤ f i j)) (fun i => V.int (i : Int)) ?_ ?_
    · rintro i x' Ha Ha' hi ea ⟨U, x1, x2, rfl, nU, rfl, h1, h2⟩ Bf Qc hno hyes
      cases h1
      obtain ⟨r, g1, g2⟩ := hat i (by omega)
      change xs[i]? = some x2 at h2
      rw [g1] at h2
      cases h2
      have eU := Ex.new (o := .tup [.int (i : Nat), .ref r]) nU
      rw [rowV_iv] at g2
      refine ⟨U, _, rfl, st_of upd_same, rfl, _, _, rfl, _, [], rfl, rfl, rfl, _, rfl, r, _, rfl, ex_l ((e12.trans ea).trans eU) g2, by rw [List.length_map, List.length_range]; omega, fun m hm hle => ⟨_, _, rfl, rfl, _, rfl, ?_⟩⟩
      show if decide (0 ≤ m) = true then _ else _
      rw [min_row hm hle]
      exact it2 (fun h1 => ⟨_, rfl, hyes _ eU h1⟩) (fun h1 => hno _ eU h1)
    intro H3 e3 hFr
    obtain ⟨fr, hfr⟩ : ∃ fr : List Nat, fr = (List.range xs.length).filter fun i => (List.range n).all fun j => decide (0 ≤ f i j) := ⟨_, rfl⟩
    have hFr3 : H3 Fr = some (.lst (nv fr)) := by
      rw [hFr, hfr]
      rfl
    have hfrU : decide ((fr.map fun (k : Nat) => (k : Int)) = []) = !isU := by
      have : fr = [] ↔ isU = false := by
        rw [hfr, List.filter_eq_nil_iff]
        constructor
        · intro h
          cases hU : isU with
          | false => rfl
          | true =>
            obtain ⟨i, hi, hall⟩ := hfree.mp hU
            refine absurd (List.all_eq_true.mpr fun j hj => decide_eq_true (hall j (List.mem_range.mp hj))) (h i (List.mem_range.mpr (by omega)))
        · intro h i hi hall
          have := hfree.mpr ⟨i, by rw [← hl]; exact List.mem_range.mp hi, fun j hj => of_decide_eq_true (List.all_eq_true.mp hall j (List.mem_range.mpr hj))⟩
          rw [h] at this
          cases this
      rw [Bool.eq_iff_iff, decide_eq_true_eq, List.map_eq_nil_iff, this]
      cases isU <;> simp
    have G3 := G.mono (ex_N e3)
    refine ⟨_, rfl, .ref x, .ref T.c_Unbeaten, _, _, isU, rfl, .own _, G3.ty, G3.kN, _, rfl, Nat.zero_le _, fun o2 no2 => ?_⟩
    have eo := Ex.new (o := .lst []) no2
    refine ⟨_, _, dp_nats (eo _ _ hFr3), dp_ints (ns := []) (sq_of upd_same), shaped_ints _, shaped_ints _, rfl, _, rfl, itF (by rw [eqv_ints, hfrU, dec_bl]; cases isU <;> rfl) ?_⟩
    have e23 := e3.trans eo
    generalize upd H3 o2 (.lst []) = H4 at e23
    have e14 := e12.trans e23
    have G4 := G.mono (ex_N e23)
    refine G4.due rfl rfl (TT.mono e14) hn1 hn fun H5 e5 => ⟨true, by rw [hsh], ?_⟩
    have G5 := G4.mono (ex_N e5)
    refine G5.shows rfl rfl (TT.mono (e14.trans e5)) hn1 fun H6 e6 => ⟨_, _, rfl, rfl, _, rfl, itF (by rw [hsh]; rfl) ?_⟩
    have e26 := e23.trans (e5.trans e6)
    refine ⟨_, rfl, o, rfl, ⟨os, ex_l (e12.trans e26) hO⟩, for_list (K := K) (a := o) (xs := os) (fun i σ' H' => ∃ y5, σ' = [some (.ref t), some (.ref o), some (.ref D), some (.ref x), some (.ref Fr), y5, none, none, none] ∧ Ex H2 H')
      ⟨_, rfl, e26⟩ (fun i σ' H' _ ⟨_, _, e⟩ => ex_l (e12.trans e) hO) ?_ ?_⟩
    · rintro i u σ' H' hi ⟨y5, rfl, e⟩
      obtain ⟨n', g, hn1', hn', TG⟩ := hOs u (List.mem_of_getElem? hi)
      have Gi := G.mono (ex_N e)
      refine Gi.shows (i := 5) rfl rfl (TG.mono (e12.trans e)) hn1' fun H5 e5 => ?_
      have e25 := e.trans e5
      have Gj := G.mono (ex_N e25)
      exact Gj.due (i := 5) rfl rfl (TG.mono (e12.trans e25)) hn1' hn' fun H6 e6 => ⟨rfl, _, rfl, itF (by rw [decide_eq_true rfl]; rfl) ⟨_, rfl, e25.trans e6⟩⟩
    rintro σ' H7 ⟨y5, rfl, e27⟩
    have e17 : Ex H1 H7 := e2.trans e27
    have e07 : Ex H H7 := e1.trans e17
    refine ⟨_, rfl, _, n, f, rfl, hn1, hn, HT.rd.mono e17, hA, fun H8 p8 ks e8 np8 hp8 htop => ?_⟩
    have e08 := e07.trans e8
    refine ⟨_, rfl, .ref p8, .ty "list", _, _, true, rfl, .ty _, tyx_L (sq_of hp8), kit_ty (by decide +kernel), true, rfl, ?_⟩
    refine ⟨_, rfl, _, rfl, .ref t, n, f, rfl, hn1, hn, TT.mono e08, hA, hTb.ext e08, fun H9 p9 ks9 eN9 hT9 hp9 hsame hlen9 => ?_⟩
    have hks : ks9 = ks := hsame ks htop
    subst hks
    have hp89 : H9 p8 = some (.lst (nv ks9)) := eN9 _ _ hp8 (fun _ z => nomatch z)
    refine ⟨_, _, dp_nats hp89, dp_nats hp9, shaped_ints _, shaped_ints _, _, rfl, itF (by rw [eqv_ints, decide_eq_true rfl]; rfl) ?_⟩
    have eN79 : LamX.ExtN H7 H9 := (ex_N e8).trans eN9
    have eN19 : LamX.ExtN H1 H9 := (ex_N e17).trans eN79
    have eN09 : LamX.ExtN H H9 := (ex_N e1).trans eN19
    refine ⟨_, rfl, _, rfl, _, _, (tabR_N HT.rd eN19).dp, (tabR_N TT eN09).dp, shaped_tab _ _, shaped_tab _ _, _, rfl, itF (by rw [eqv_tab (fun _ _ _ _ => rfl)]; rfl) ?_⟩
    refine ⟨_, rfl, p8, rfl, ⟨_, sq_of hp89⟩, fun D2 hD2 => ?_⟩
    refine lc_vals (walk_list (K := K) (a := p8) (xs := nv ks9)) hD2 (by rw [nv_length]; omega) (fun Hx e => sq_of (e _ _ hp89)) (fun _ => V.bl false) ?_ ?_
    · rintro j x Ha Ha' hj ea ⟨rfl, hx⟩ Qc hq
      obtain ⟨k, _, rfl⟩ := nv_get hx
      exact ⟨rfl, _, rfl, _, .ty "bool", _, _, false, rfl, .ty _, .base (.int _), kit_ty (by decide +kernel), hq _ (Ex.refl _)⟩
    intro H10 e10 hD10
    rw [map_const_bl] at hD10
    refine ⟨D2, _, rfl, sq_of hD10, false, by rw [any_const_false], ?_⟩
    have hp10 := e10 _ _ hp89
    refine ⟨_, rfl, .inl ⟨rfl, _, sq_of hp10⟩, p8, _, _, rfl, rfl, hp10, sz_lt (by rw [nv_length]; omega), ?_⟩
    have eN7 : LamX.ExtN H7 (upd H10 p8 (.lst (nv ks9 ++ [.int 0]))) := mutN (eN79.trans (ex_N e10)) np8
    have hT11 : LamX.Tabs (tbs T) (upd H10 p8 (.lst (nv ks9 ++ [.int 0]))) := tabs_mut (hT9.ext e10) hp10
    have hp11 : (upd H10 p8 (.lst (nv ks9 ++ [.int 0]))) p8 = some (.lst (nv ks9 ++ [.int 0])) := upd_same
    generalize upd H10 p8 (.lst (nv ks9 ++ [.int 0])) = H11 at eN7 hT11 hp11
    have eN11 : LamX.ExtN H1 H11 := (ex_N e17).trans eN7
    have G11 := (G.mono (ex_N e27)).mono eN7
    refine ⟨fun σ' H' => σ' = [some (.ref t), some (.ref o), some (.ref D), some (.ref x), some (.ref Fr), y5, some (.ref p8), none, none] ∧ H' = H11, ?_, ?_⟩
    · cases G11 with
      | unb dx k hx => exact ⟨_, rfl, .ref x, .ref T.c_Unbeaten, _, _, true, rfl, .own _, tyx_ins hx T.C_Unbeaten T.y_Unbeaten, T.k_Unbeaten_Unbeaten, true, rfl, _, rfl, x, T.c_Unbeaten, dx, _, _, rfl, hx, T.C_Unbeaten, T.a_Unbeaten_who, rfl, .int k, .ty "bool", _, _, false, rfl, .ty _, .base (.int _), kit_ty (by decide +kernel), false, rfl, rfl, rfl⟩
      | ring dx p ns hx hp hl => exact ⟨_, rfl, .ref x, .ref T.c_Unbeaten, _, _, false, rfl, .own _, tyx_ins hx T.C_Ring T.y_Ring, T.k_Ring_Unbeaten, false, rfl, rfl, rfl⟩
    rintro _ _ ⟨rfl, rfl⟩
    refine ⟨fun σ' H' => σ' = [some (.ref t), some (.ref o), some (.ref D), some (.ref x), some (.ref Fr), y5, some (.ref p8), none, none] ∧ LamX.ExtN H1 H' ∧ LamX.Tabs (tbs T) H' ∧ H' p8 = some (.lst (nv ks9 ++ [.int 0])), ?_, ?_⟩
    · cases hU : isU with
      | true =>
        have kR := G11.kR
        rw [hU] at kR
        exact ⟨_, rfl, .ref x, .ref T.c_Ring, _, _, false, rfl, .own _, G11.ty, kR, false, rfl, rfl, eN11, hT11, hp11⟩
      | false =>
        obtain ⟨hno, dx, p, rs, np, hx2, hp2, hshr, hrl⟩ := hring hU
        have kR := G11.kR
        rw [hU] at kR
        have hx7 := e27 _ _ hx2
        have hp7 := e27 _ _ hp2
        have hx11 := eN7 _ _ hx7 (fun _ z => nomatch z)
        have hpp := eN7 _ _ hp7 (fun _ z => nomatch z)
        have np8p : p8 ≠ p := (ne_of_fresh hp7 np8).symm
        obtain ⟨r0, rl, rfl⟩ : ∃ r0 rl, rs = r0 :: rl := by
          cases rs with
          | nil => cases hshr
          | cons a l => exact ⟨a, l, rfl⟩
        refine ⟨_, rfl, .ref x, .ref T.c_Ring, _, _, true, rfl, .own _, G11.ty, kR, true, rfl, ?_⟩
        refine ⟨_, rfl, x, T.c_Ring, dx, _, _, rfl, hx11, T.C_Ring, T.a_Ring_way, rfl, .ref p, .ty "list", _, _, true, rfl, .ty _, tyx_L (sq_of hpp), kit_ty (by decide +kernel), true, rfl, ?_⟩
        refine ⟨_, rfl, x, T.c_Ring, dx, _, _, rfl, hx11, T.C_Ring, T.a_Ring_way, rfl, p, rfl, ⟨_, sq_of hpp⟩, fun D3 hD3 => ?_⟩
        refine lc_vals (walk_list (K := K) (a := p) (xs := nv (r0 :: rl))) hD3 (by rw [nv_length]; omega) (fun Hx e => sq_of (e _ _ hpp)) (fun _ => V.bl false) ?_ ?_
        · rintro j x Ha Ha' hj ea ⟨rfl, hx⟩ Qc hq
          obtain ⟨k, _, rfl⟩ := nv_get hx
          exact ⟨rfl, _, rfl, _, .ty "bool", _, _, false, rfl, .ty _, .base (.int _), kit_ty (by decide +kernel), hq _ (Ex.refl _)⟩
        intro H12 e12' hD12
        rw [map_const_bl] at hD12
        refine ⟨D3, _, rfl, sq_of hD12, false, by rw [any_const_false], ?_⟩
        have hx12 := e12' _ _ hx11
        have hp12 := e12' _ _ hpp
        refine ⟨_, rfl, x, T.c_Ring, dx, _, _, rfl, hx12, T.C_Ring, T.a_Ring_way, rfl, .inl ⟨rfl, _, sq_of hp12⟩, _, rfl, x, T.c_Ring, dx, _, _, rfl, hx12, T.C_Ring, T.a_Ring_way, rfl, p, _, 0, .int (r0 : Int), rfl, rfl, sq_of hp12, atI_nat (j := 0) rfl, p, _, _, rfl, rfl, hp12, sz_lt (by rw [nv_length]; omega), ?_⟩
        have eN13 : LamX.ExtN H1 (upd H12 p (.lst (nv (r0 :: rl) ++ [.int (r0 : Int)]))) := mutN (eN11.trans (ex_N e12')) np
        have hT13 : LamX.Tabs (tbs T) (upd H12 p (.lst (nv (r0 :: rl) ++ [.int (r0 : Int)]))) := tabs_mut (hT11.ext e12') hp12
        have hp13 : (upd H12 p (.lst (nv (r0 :: rl) ++ [.int (r0 : Int)]))) p = some (.lst (iv (((r0 :: rl).map fun (k : Nat) => (k : Int)) ++ [(r0 : Int)]))) := by
          rw [upd_same, nv_iv]
          unfold iv
          rw [List.map_append]
          rfl
        have hx13 : (upd H12 p (.lst (nv (r0 :: rl) ++ [.int (r0 : Int)]))) x = some (.ins T.c_Ring dx [("way", .ref p)]) := by
          rw [upd_ne (fun e => by rw [e, hp12] at hx12; cases hx12)]
          exact hx12
        have hp8' : (upd H12 p (.lst (nv (r0 :: rl) ++ [.int (r0 : Int)]))) p8 = some (.lst (nv ks9 ++ [.int 0])) := by
          rw [upd_ne np8p]
          exact e12' _ _ hp11
        generalize upd H12 p (.lst (nv (r0 :: rl) ++ [.int (r0 : Int)])) = H13 at eN13 hT13 hp13 hx13 hp8'
        have TT13 := tabR_N TT ((ex_N e1).trans eN13)
        have G13 : Got T H13 x _ false T.c_Ring := .ring dx p _ hx13 hp13 (by rw [List.length_append, List.length_map]; show _ + 1 ≤ _; omega)
        refine G13.shows rfl rfl TT13 hn1 fun H14 e14 => ⟨_, _, rfl, rfl, _, rfl, itF (by rw [List.map_cons, shR_twice]; rfl) ?_⟩
        refine .inr ⟨_, rfl, _, n, f, rfl, hn1, hn, (tabR_N HT.rd eN13).mono e14, hA, fun H15 x15 e15 nx15 hF15 => ?_⟩
        cases hF15 with
        | unb dx w hx hw hu hno' =>
          obtain ⟨j, hj, hlt⟩ := hno w hw
          have := hu j hj
          omega
        | ring dx p15 ks15 np15 hx15 hp15 hno15 hsh15 hl15 =>
          refine ⟨x15, dx, _, rfl, hx15, rfl, _, rfl, x15, dx, p15, .ref t, _, n, f, rfl, hx15, sq_of (by rw [hp15, nv_iv]), by rw [List.length_map]; omega, (TT13.mono e14).mono e15, fun H16 e16 => ⟨_, _, rfl, rfl, _, rfl, itF (by rw [hsh15]; rfl) ?_⟩⟩
          have e136 := e14.trans (e15.trans e16)
          exact ⟨rfl, eN13.trans (ex_N e136), hT13.ext e136, e136 _ _ hp8'⟩
    rintro _ H12 ⟨rfl, eN12, hT12, hp12⟩
    refine ⟨_, rfl, _, n, f, rfl, hn1, hn, tabR_N HT.rd eN12, hA, fun H13 p13 ks13 e13 np13 hp13 htop13 => ?_⟩
    have hks := htop13.same htop
    subst hks
    refine ⟨_, rfl, _, rfl, _, rfl, p8, _, rfl, sq_of (e13 _ _ hp12), fun c nc => ?_⟩
    have ec := Ex.new (o := .lst (cutV (nv ks13 ++ [.int 0]) none (some (-1)))) nc
    have hc : (upd H13 c (.lst (cutV (nv ks13 ++ [.int 0]) none (some (-1))))) c = some (.lst (nv ks13)) := by
      rw [upd_same, cut_m1, List.dropLast_concat]
    generalize upd H13 c (.lst (cutV (nv ks13 ++ [.int 0]) none (some (-1)))) = H14 at ec hc
    refine ⟨_, _, dp_nats (ec _ _ hp13), dp_nats hc, shaped_ints _, shaped_ints _, true, by rw [eqv_ints, decide_eq_true rfl], ?_⟩
    have e14 := e13.trans ec
    have eN14 := eN12.trans (ex_N e14)
    refine ⟨_, rfl, _, rfl, _, _, (tabR_N HT.rd eN14).dp, (tabR_N TT ((ex_N e1).trans eN14)).dp, shaped_tab _ _, shaped_tab _ _, ?_⟩
    rw [eqv_tab (fun _ _ _ _ => rfl)]
    exact q _ ((ex_N e1).trans eN14) (hT12.ext e14)
end
end Hc
namespace Hc
open PySem PySem.Spec PyProof.Rows L2 Evl
section
variable {P : Program} {w : World} {K : PySem.W.Frag} {mg : Str → Option Value} {base : Heap}
def step1 (n : Nat) (f : Nat → Nat → Int) (l : List Nat) : List Nat := (List.range n).filter fun j => l.contains j || l.any fun k => decide (f k j ≤ 0)
def stepN (n : Nat) (f : Nat → Nat → Int) : Nat → List Nat → List Nat
  | 0, l => l
  | m + 1, l => stepN n f m (step1 n f l)
def grpB (n : Nat) (f : Nat → Nat → Int) (i : Nat) : List Nat := stepN n f n [i]
def shutB (n : Nat) (f : Nat → Nat → Int) (l : List Nat) : Bool := (List.range n).all fun j => l.contains j || !(l.any fun k => decide (f k j ≤ 0))
theorem step_mem {n : Nat} {f : Nat → Nat → Int} {l : List Nat} {j : Nat} : j ∈ step1 n f l ↔ j < n ∧ (j ∈ l ∨ ∃ k ∈ l, f k j ≤ 0) := by
  unfold step1
  rw [List.mem_filter, List.mem_range, Bool.or_eq_true, List.contains_iff_mem, List.any_eq_true]
  constructor
  · rintro ⟨h1, h2 | ⟨k, h3, h4⟩⟩
    · exact ⟨h1, .inl h2⟩
    · exact ⟨h1, .inr ⟨k, h3, of_decide_eq_true h4⟩⟩
  · rintro ⟨h1, h2 | ⟨k, h3, h4⟩⟩
    · exact ⟨h1, .inl h2⟩
    · exact ⟨h1, .inr ⟨k, h3, decide_eq_true h4⟩⟩
theorem stepN_good {n : Nat} {f : Nat → Nat → Int} {i : Nat} : ∀ (m : Nat) (l : List Nat), (∀ x ∈ l, x < n ∧ Reach n (fun a b => - f a b) 0 i x) → i ∈ l → l.Pairwise (· < ·) → (∀ x ∈ stepN n f m l, x < n ∧ Reach n (fun a b => - f a b) 0 i x) ∧ i ∈ stepN n f m l ∧ (stepN n f m l).Pairwise (· < ·)
  | 0, _, h1, h2, h3 => ⟨h1, h2, h3⟩
  | m + 1, l, h1, h2, _ => stepN_good m (step1 n f l) (fun x hx => by
      obtain ⟨a, b⟩ := step_mem.mp hx
      rcases b with b | ⟨k, b, c⟩
      · exact h1 x b
      · exact ⟨a, .on (h1 k b).2 (h1 k b).1 a (by omega)⟩) (step_mem.mpr ⟨(h1 i h2).1, .inl h2⟩) (List.pairwise_lt_range.filter _)
theorem grp_of {n : Nat} {f : Nat → Nat → Int} {i : Nat} (hi : i < n) (hc : shutB n f (grpB n f i) = true) : Grp n f i (grpB n f i) := by
  obtain ⟨h1, h2, h3⟩ := stepN_good (n := n) (f := f) (i := i) n [i] (fun x hx => by
    have : x = i := by simpa using hx
    rw [this]
    exact ⟨hi, .me⟩) (by simp) (by simp)
  refine ⟨h3, fun j => ⟨fun h => h1 j h, fun h => reach_mem h2 (fun k hk j hj hL => ?_) h.2⟩⟩
  have := List.all_eq_true.mp hc j (List.mem_range.mpr hj)
  rw [Bool.or_eq_true] at this
  rcases this with h | h
  · exact List.contains_iff_mem.mp h
  · rw [Bool.not_eq_true', List.any_eq_false] at h
    exact absurd (decide_eq_true (show f k j ≤ 0 by omega)) (h k hk)
theorem tops_of {n : Nat} {f : Nat → Nat → Int} {ks : List Nat} (i : Nat) (hi : i < n) (hc : ∀ j, j < n → shutB n f (grpB n f j) = true) (hk : ks = grpB n f i) (hb : ∀ j, j < n → ks.length ≤ (grpB n f j).length ∧ (j < i → ks.length < (grpB n f j).length)) : IsTops n f ks := by
  have at_ : ∀ j, j < n → ((List.range n).map (grpB n f)).getD j [] = grpB n f j := fun j hj => by
    rw [List.getD_eq_getElem?_getD, List.getElem?_map, List.getElem?_range hj]
    rfl
  exact ⟨(List.range n).map (grpB n f), i, by rw [List.length_map, List.length_range], fun j hj => by rw [at_ j hj]; exact grp_of hj (hc j hj), hi, by rw [at_ i hi, hk], fun j hj => by rw [at_ j hj]; exact hb j hj⟩
theorem fin2 {n : Nat} {f g : Nat → Nat → Int} (h : ∀ i j : Fin n, f i j = g i j) : ∀ i j, i < n → j < n → f i j = g i j := fun i j hi hj => h ⟨i, hi⟩ ⟨j, hj⟩
theorem antiL {n : Nat} {f : Nat → Nat → Int} (h : ∀ i j : Fin n, f i j = - f j i) : Anti n f := fun i j hi hj => h ⟨i, hi⟩ ⟨j, hj⟩
theorem allc {P : V → Prop} {a : V} {l : List V} (h : P a) (r : ∀ x ∈ l, P x) : ∀ x ∈ a :: l, P x := fun x hx => by
  rcases List.mem_cons.mp hx with rfl | hx
  · exact h
  · exact r x hx
theorem alln {P : V → Prop} : ∀ x ∈ ([] : List V), P x := fun _ h => nomatch h
theorem fore_ring {CU CR : Addr} {H H2 : Hp} {x : Addr} {n : Nat} {f : Nat → Nat → Int} (h : Fore CU CR H H2 x n f) (hb : ((List.range n).all fun w => (List.range n).any fun j => decide (f w j < 0)) = true) : ∃ (dx p : Addr) (ks : List Nat), H2 x = some (.ins CR dx [("way", .ref p)]) := by
  cases h with
  | unb dx w hx hw hu hno =>
    obtain ⟨j, hj, hn⟩ := List.any_eq_true.mp (List.all_eq_true.mp hb w (List.mem_range.mpr hw))
    have := hu j (List.mem_range.mp hj)
    have := of_decide_eq_true hn
    omega
  | ring dx p ks np hx hp hno hsh hl => exact ⟨dx, p, ks, hx⟩
theorem fore_who {CU CR : Addr} {H H2 : Hp} {x : Addr} {n : Nat} {f : Nat → Nat → Int} (w0 : Nat) (h : Fore CU CR H H2 x n f) (hb : (decide (w0 < n) && ((List.range n).all (fun j => decide (0 ≤ f w0 j)) && (List.range w0).all fun u => (List.range n).any fun j => decide (f u j < 0))) = true) : ∃ dx, H2 x = some (.ins CU dx [("who", .int (w0 : Int))]) := by
  rw [Bool.and_eq_true, Bool.and_eq_true] at hb
  obtain ⟨b1, b2, b3⟩ := hb
  have hw0 := of_decide_eq_true b1
  have all0 : ∀ j, j < n → 0 ≤ f w0 j := fun j hj => of_decide_eq_true (List.all_eq_true.mp b2 j (List.mem_range.mpr hj))
  cases h with
  | unb dx w hx hw hu hno =>
    rcases Nat.lt_trichotomy w w0 with c | c | c
    · obtain ⟨j, hj, hn⟩ := List.any_eq_true.mp (List.all_eq_true.mp b3 w (List.mem_range.mpr c))
      have := hu j (List.mem_range.mp hj)
      have := of_decide_eq_true hn
      omega
    · subst c
      exact ⟨dx, hx⟩
    · obtain ⟨j, hj, hn⟩ := hno w0 c
      have := all0 j hj
      omega
  | ring dx p ks np hx hp hno hsh hl =>
    obtain ⟨j, hj, hn⟩ := hno w0 hw0
    have := all0 j hj
    omega
def spLaw (T : Tx K mg) : Sp := fun vs H Q _ => ∃ (a : Addr) (ns : List Int) (B : Nat), vs = [.ref a] ∧ SqL K H a (iv ns) ∧ ns.length ≤ 63 ∧ (∀ z ∈ ns, Big B z) ∧ B ≤ 2000000 ∧ 64 ≤ B ∧ LamX.Tabs (tbs T) H ∧ ∀ H', Q (.bl true) H'
theorem anti_put0 {n a b : Nat} {f : Nat → Nat → Int} {z : Int} (h : Anti n f) (hz : a = b → z = 0) : Anti n (fun i j => if i = b ∧ j = a then -z else if i = a ∧ j = b then z else f i j) := fun i j hi hj => by
  have := h i j hi hj
  by_cases e : a = b
  · have := hz e
    subst e
    simp only
    split <;> split <;> omega
  · simp only
    split <;> split <;> (try split) <;> (try split) <;> omega
theorem ok_law (T : Tx K mg) (TB : LamX.TabB base mg T.cc T.pt) : FnOk P w K mg base CX0 6 T.f_law T.d_law ["_law_script"] (spLaw T) := by
  refine T.F_law.ok sc_law (fun vs H Q E h => ?_) (fun cdv A outer s H vs Q E hr h => ?_)
  · obtain ⟨a, ns, B, rfl, _⟩ := h
    rfl
  · obtain ⟨a, ns, B, rfl, hS, h63, hB, hB2, hB3, hTb, q⟩ := h
    refine ⟨_, pss_cons (ps_set (i := 1) sc_law.nd rfl (Or.inl rfl) (pe_callB (sumK K) (by rfl) T.n_sum PyProof.Rows.boot_sum (pa_cons (pe_slice (slLK K) (pv 0) po_none (po_some pe_int)) pa_nil)))
      (pss_cons (ps_set (i := 2) sc_law.nd rfl (Or.inl rfl) (pe_op op_add pe_int (pe_op op_mod (pv 1) pe_int)))
      (Evl.pss_cut (ps_if (pt_cmpR op_eq (pe_op op_mod (pe_op op_fdivW (pv 1) pe_int) pe_int) pe_int (nomark _)) (pss_one (ps_set (i := 2) sc_law.nd rfl (Or.inl rfl) (pe_op op_add pe_int (pe_op op_mod (pe_op op_fdivW (pv 1) pe_int) pe_int)))) (pss_nil))
      (pss_cons (ps_set (i := 3) sc_law.nd rfl (Or.inl rfl) (pe_call (ok_law_table T) (hr.mono (by decide)) (by rfl) T.g_law_table T.F_law_table.kp (b_law_table T) .nil pass0 (pa_cons (pv 0) (pa_cons (pv 2) pa_nil))))
      (pss_cons (ps_set (i := 4) sc_law.nd rfl (Or.inl rfl) (pe_call (ok_law_count T) (hr.mono (by decide)) (by rfl) T.g_law_count T.F_law_count.kp (b_law_count T) .nil pass0 (pa_cons (pv 2) (pa_cons (pe_call (ok_law_ballots T) (hr.mono (by decide)) (by rfl) T.g_law_ballots T.F_law_ballots.kp (b_law_ballots T) .nil pass0 (pa_cons (pe_slice (slLK K) (pv 0) po_none (po_some pe_int)) (pa_cons (pv 2) pa_nil))) pa_nil))))
      (pss_cons (ps_setLc (i := 5) (own := [("_law_row", 10)]) rfl sc_law.nd rfl rfl (sw_true rfl rfl rfl (by decide +kernel)) (piL K (pv 3)) (blkOk_by (own := [("_law_row", 10)]) (N := ["_law_script", "_law_whole", "_law_size", "_law_table_here", "_law_made", "_law_ring", "_law_one", "_law_other", "_law_more", "_law_some", "_law_row"]) (sc := defScope s_law) (by decide +kernel)) (fun _ _ _ _ _ => (pg_name (i := 10) sc_law.nd rfl (by first | exact Or.inl rfl | exact Or.inr rfl))) (fun _ _ _ _ _ => pts_nil) (fun _ _ _ _ _ => (pe_callTy (listK K) (by rfl) T.n_list bt_list (pa_cons (pv 10) pa_nil))))
      (Evl.pss_cut (ps_if (pt_cmpR op_gt (pv 2) pe_int (nomark _)) (pss_one (ps_for PassesOwn.never rfl (pi_range1 (by rfl) T.n_range (pa_cons pe_int pa_nil)) (pg_name (i := 6) sc_law.nd rfl (by first | exact Or.inl rfl | exact Or.inr rfl))
        (pss_one (ps_for PassesOwn.never rfl (pi_range1 (by rfl) T.n_range (pa_cons (pv 2) pa_nil)) (pg_name (i := 7) sc_law.nd rfl (by first | exact Or.inl rfl | exact Or.inr rfl))
        (Evl.pss_cut (ps_set (i := 8) sc_law.nd rfl (Or.inl rfl) (pe_ifExp (PW.pt (pw_or (pt_cmpR op_gt (pv 7) pe_int (nomark _)) (pw_or1 (pt_cmpR op_eq (pv 7) (pe_op op_mod (pe_op op_add (pv 6) pe_int) pe_int) (nomark _))))) pe_int (pe_ifExp (pt_cmpR op_ne (pv 7) (pv 6) (nomark _)) (pe_un un_neg pe_int) pe_int)))
      (pss_cons (ps_asg (pv 8) (pg_sub (pe_ix (ixLK K) (pv 5) (pv 6) (fun _ _ => rfl)) (pv 7) set_list))
      (pss_one (ps_asg (pe_un un_neg (pv 8)) (pg_sub (pe_ix (ixLK K) (pv 5) (pv 7) (fun _ _ => rfl)) (pv 6) set_list))))))))) (pss_nil))
      (pss_cons (ps_for PassesOwn.never rfl (piL K (pe_lst (pa_cons (pv 3) (pa_cons (pv 4) (pa_cons (pv 5) pa_nil))))) (pg_name (i := 9) sc_law.nd rfl (by first | exact Or.inl rfl | exact Or.inr rfl))
        (pss_one (ps_if (pt_not (pt_val (pe_call (ok_law_right T TB) (hr.mono (by decide)) (by rfl) T.g_law_right T.F_law_right.kp (b_law_right T) .nil pass0 (pa_cons (pv 9) (pa_cons (pe_lst (pa_cons (pv 3) (pa_cons (pv 4) (pa_cons (pv 5) pa_nil)))) pa_nil))))) (pss_one (ps_ret pe_bl)) (pss_nil))))
      (pss_one (ps_ret (pe_and (pe_cmpR op_eq (fldK K (pe_call (ok_foremost T) (hr.mono (by decide)) (by rfl) T.g_foremost T.F_foremost.kp (b_foremost T) .nil pass0 (pa_cons (pe_lst (pa_cons (pe_lst (pa_cons pe_int pa_nil)) pa_nil)) pa_nil))) pe_int (nomark _)) (pe_and (pe_cmpR (eqDK K hr.units) (pe_call (ok_tops T) (hr.mono (by decide)) (by rfl) T.g_tops T.F_tops.kp (b_tops T) .nil pass0 (pa_cons (pe_lst (pa_cons (pe_lst (pa_cons pe_int (pa_cons pe_int pa_nil))) (pa_cons (pe_lst (pa_cons pe_int (pa_cons pe_int pa_nil))) pa_nil))) pa_nil)) (pe_lst (pa_cons pe_int (pa_cons pe_int pa_nil))) (nomark _)) (pe_one (pe_cmpR (eqDK K hr.units) (pe_call (ok_tops T) (hr.mono (by decide)) (by rfl) T.g_tops T.F_tops.kp (b_tops T) .nil pass0 (pa_cons (pe_lst (pa_cons (pe_lst (pa_cons pe_int (pa_cons (pe_un un_neg pe_int) pa_nil))) (pa_cons (pe_lst (pa_cons pe_int (pa_cons pe_int pa_nil))) pa_nil))) pa_nil)) (pe_lst (pa_cons pe_int pa_nil)) (nomark _)))))))))))))), ?_⟩
    refine ⟨.ref a, rfl, 63, rfl, a, iv ns, rfl, hS, fun c1 nc1 => ?_⟩
    have e1 : Ex _ (upd H c1 (.lst (cutV (iv ns) none (some 63)))) := Ex.new nc1
    have ec1 : cutV (iv ns) none (some 63) = (ns.take 63).map V.int := by
      rw [show (63 : Int) = ((63 : Nat) : Int) from rfl, cut_to]
      unfold iv
      rw [List.map_take]
    refine ⟨c1, ns.take 63, rfl, sq_of (by rw [upd_same, ec1]), ?_⟩
    generalize (ns.take 63).sum = wh
    generalize (upd H c1 (.lst (cutV (iv ns) none (some 63)))) = H1 at e1
    have m5 := Int.emod_nonneg wh (show (9 : Int) ≠ 0 by decide)
    have m5' := Int.emod_lt_of_pos wh (show (0 : Int) < 9 by decide)
    refine ⟨_, rfl, _, _, rfl, rfl, (by decide : (0 : Int) < 9), _, _, rfl, rfl, ?_⟩
    refine ⟨fun σ' H' => H1 = H' ∧ ∃ z : Int, 1 ≤ z ∧ z ≤ 20 ∧ σ' = [some (.ref a), some (.int wh), some (.int z), none, none, none, none, none, none, none, none], ?_, ?_⟩
    · refine ⟨_, rfl, _, _, rfl, rfl, divW_small (by decide) (by decide), _, _, rfl, rfl, (by decide : (0 : Int) < 16), rfl, _, rfl, it2 (fun _ => ?_) (fun _ => ?_)⟩
      · have k0 := Int.emod_nonneg (wh / 144) (show (11 : Int) ≠ 0 by decide)
        have k1 := Int.emod_lt_of_pos (wh / 144) (show (0 : Int) < 11 by decide)
        exact ⟨_, rfl, _, _, rfl, rfl, divW_small (by decide) (by decide), _, _, rfl, rfl, (by decide : (0 : Int) < 11), _, _, rfl, rfl, rfl, _, by omega, by omega, rfl⟩
      · exact ⟨rfl, _, by omega, by omega, rfl⟩
    rintro _ _ ⟨rfl, z, hz1, hz2, rfl⟩
    obtain ⟨n, rfl⟩ : ∃ n : Nat, z = (n : Int) := ⟨z.toNat, by omega⟩
    have hn1 : 1 ≤ n := by omega
    have hn : n ≤ 20 := by omega
    refine ⟨_, rfl, _, rfl, a, ns, n, B, rfl, ex_l e1 hS, hn, hB, hB2, hB3, fun H2 t1 rs1 f1 e2 T1 hA1 => ?_⟩
    have e12 := e1.trans e2
    refine ⟨_, rfl, .ref a, rfl, 7, rfl, a, iv ns, rfl, ex_l e12 hS, fun c2 nc2 => ?_⟩
    have ec2 : cutV (iv ns) none (some 7) = iv (ns.take 7) := by
      rw [show (7 : Int) = ((7 : Nat) : Int) from rfl, cut_to]
      unfold iv
      rw [List.map_take]
    rw [ec2]
    have e3 := Ex.new (o := .lst (iv (ns.take 7))) nc2
    refine ⟨_, rfl, c2, ns.take 7, n, B, rfl, sq_of upd_same, hn, fun z hz => hB z (List.mem_of_mem_take hz), hB2, fun H4 D xs bs e4 nD hD hP hok hlen => ?_⟩
    have hlt : ∀ b ∈ bs, ∀ k ∈ b.1, k < n := fun b hb => okB_lt (List.all_eq_true.mp hok b hb)
    refine ⟨n, _, bs, rfl, hn, ⟨D, xs, rfl, sq_of hD, hP⟩, hlt, fun H5 t2 rs2 e5 T2 => ?_⟩
    have e25 : Ex H2 H5 := (e3.trans e4).trans e5
    have T15 := T1.rd.mono e25 (K := K)
    obtain ⟨t1', x1, et, hS1, hl1, hat1⟩ := T15.at_
    cases et
    refine ⟨_, rfl, t1, rfl, ⟨_, hS1⟩, fun R nR => ?_⟩
    refine lc_rows (walk_list (K := K) (a := t1) (xs := x1)) nR (by omega) (fun H2 e2 => ex_l e2 hS1) (fun i => rowV n (f1 i)) ?_ ?_
    · rintro i x Ha Ha' hi ea ⟨rfl, hx⟩ Qc hq
      obtain ⟨r, g1, g2⟩ := hat1 i (by omega)
      rw [g1] at hx
      cases hx
      exact ⟨rfl, _, rfl, r, _, rfl, .inl (ex_l ea g2), fun l nl => hq l _ nl (Ex.new nl) upd_same⟩
    intro H6 ps e6 hR6 hl6 R6
    have RT : Tab H5 H6 R ps n f1 := R6.tab nR hR6 (by rw [hl6, hl1])
    refine ⟨fun σ' H' => ∃ (g : Nat → Nat → Int) (y6 y7 y8 : Option V), σ' = [some (.ref a), some (.int wh), some (.int n), some (.ref t1), some (.ref t2), some (.ref R), y6, y7, y8, none, none] ∧ Ex H5 H' ∧ Tab H5 H' R ps n g ∧ Anti n g, ?_, ?_⟩
    · refine ⟨_, rfl, _, _, rfl, rfl, _, rfl, it2 (fun h3 => ?_) (fun _ => ⟨f1, _, _, _, rfl, e6, RT, hA1⟩)⟩
      have h3' : 2 < n := by have := of_decide_eq_true h3; omega
      refine ⟨(3 : Int), rfl, by decide, by decide, ?_⟩
      refine for_it (walk_rg0 (n := 3)) (fun i σ' H' => ∃ (g : Nat → Nat → Int) (y6 y7 y8 : Option V), σ' = [some (.ref a), some (.int wh), some (.int n), some (.ref t1), some (.ref t2), some (.ref R), y6, y7, y8, none, none] ∧ Ex H5 H' ∧ Tab H5 H' R ps n g ∧ Anti n g)
        ⟨f1, _, _, _, rfl, e6, RT, hA1⟩ (fun _ _ _ _ _ => trivial) ?_ (fun σ' H' h => h)
      rintro i x σ' H' H'' hi ⟨g, y6, y7, y8, rfl, e, TG, hG⟩ ⟨rfl, rfl⟩
      refine ⟨_, rfl, (n : Int), rfl, by omega, by omega, ?_⟩
      refine for_it (walk_rg0 (n := n)) (fun j σ' H' => ∃ (g : Nat → Nat → Int) (y7 y8 : Option V), σ' = [some (.ref a), some (.int wh), some (.int n), some (.ref t1), some (.ref t2), some (.ref R), some (.int i), y7, y8, none, none] ∧ Ex H5 H' ∧ Tab H5 H' R ps n g ∧ Anti n g)
        ⟨g, _, _, rfl, e, TG, hG⟩ (fun _ _ _ _ _ => trivial) ?_ (fun σ' H' ⟨g, y7, y8, h1, h2⟩ => ⟨g, _, _, _, h1, h2⟩)
      rintro j x σ' H' H'' hj ⟨g, y7, y8, rfl, e, TG, hG⟩ ⟨rfl, rfl⟩
      refine ⟨fun σ' H' => ∃ m : Int, (i = j → m = 0) ∧ σ' = [some (.ref a), some (.int wh), some (.int n), some (.ref t1), some (.ref t2), some (.ref R), some (.int i), some (.int j), some (.int m), none, none] ∧ H'' = H', ?_, ?_⟩
      · refine ⟨_, rfl, _, _, rfl, rfl, _, rfl, it2 (fun k0 => ?_) (fun k0 => ?_)⟩
        · have k0' := of_decide_eq_true k0
          exact ⟨1, fun e => by omega, rfl, rfl⟩
        · refine ⟨_, rfl, _, rfl, _, _, rfl, rfl, _, _, rfl, rfl, (by decide : (0 : Int) < 3), rfl, _, rfl, ?_⟩
          rw [dec_int]
          refine it2 (fun k1 => ?_) (fun k1 => ?_)
          · have k1' := of_decide_eq_true k1
            exact ⟨1, fun e => by omega, rfl, rfl⟩
          · refine ⟨_, rfl, _, rfl, rfl, _, rfl, ?_⟩
            show if (!decide (V.int (j : Int) = V.int (i : Int))) = true then _ else _
            rw [dec_int]
            refine it2 (fun k2 => ?_) (fun k2 => ?_)
            · have k2' : ¬ (j : Int) = (i : Int) := fun e => by
                rw [decide_eq_true e] at k2
                cases k2
              exact ⟨_, rfl, -1, fun e => by omega, rfl, rfl⟩
            · exact ⟨0, fun _ => rfl, rfl, rfl⟩
      rintro _ _ ⟨m, hm, rfl, rfl⟩
      have hin : i < n := by omega
      obtain ⟨r1, g1, m1, z1, c1⟩ := TG.at_ hin
      have P1 := TG.put (b := j) (z := m) g1
      have e5' := fun o => TG.exMut (o := o) e m1
      obtain ⟨r2, g2, m2, z2, c2⟩ := P1.at_ hj
      have P2 := P1.put (b := i) (z := -m) g2
      refine ⟨_, rfl, _, rfl, _, rfl, R, _, i, .ref r1, rfl, rfl, sq_of TG.top, atI_nat z1, _, rfl, r1, _, j, j, rfl, rfl, c1, ixN_nat (by rw [rowV_length]; exact hj), ?_⟩
      refine ⟨_, rfl, _, rfl, _, rfl, _, rfl, R, _, j, .ref r2, rfl, rfl, sq_of P1.top, atI_nat z2, _, rfl, r2, _, i, i, rfl, rfl, c2, ixN_nat (by rw [rowV_length]; exact hin), ?_⟩
      exact ⟨_, _, _, rfl, P1.exMut (e5' _) m2, P2, anti_put0 hG hm⟩
    rintro _ H7 ⟨g, y6, y7, y8, rfl, e7, TG, hG⟩
    have e17 : Ex H1 H7 := e2.trans (e25.trans e7)
    refine ⟨_, rfl, _, rfl, _, rfl, (by decide : 3 ≤ sizeLine), fun L nL => ⟨L, rfl, ⟨_, sq_of upd_same⟩, ?_⟩⟩
    have eL := Ex.new (o := .lst [V.ref t1, V.ref t2, V.ref R]) nL
    have kL : (upd H7 L (.lst [V.ref t1, V.ref t2, V.ref R])) L = some (.lst [V.ref t1, V.ref t2, V.ref R]) := upd_same
    have TA : TabR K (upd H7 L (.lst [V.ref t1, V.ref t2, V.ref R])) (.ref t1) n f1 := T15.mono (e7.trans eL)
    have TB2 : TabR K (upd H7 L (.lst [V.ref t1, V.ref t2, V.ref R])) (.ref t2) n _ := T2.rd.mono (e7.trans eL)
    have TC : TabR K (upd H7 L (.lst [V.ref t1, V.ref t2, V.ref R])) (.ref R) n g := TG.rd.mono eL
    have hT8 : LamX.Tabs (tbs T) (upd H7 L (.lst [V.ref t1, V.ref t2, V.ref R])) := hTb.ext (e1.trans (e17.trans eL))
    generalize upd H7 L (.lst [V.ref t1, V.ref t2, V.ref R]) = H8 at kL TA TB2 TC hT8
    have all3 : ∀ u ∈ [V.ref t1, V.ref t2, V.ref R], ∃ g, TabR K H8 u n g ∧ Anti n g := fun u hu => by
      rcases List.mem_cons.mp hu with rfl | hu
      · exact ⟨_, TA, hA1⟩
      · rcases List.mem_cons.mp hu with rfl | hu
        · exact ⟨_, TB2, anti_cnt n bs⟩
        · have : u = .ref R := by simpa using hu
          rw [this]
          exact ⟨_, TC, hG⟩
    refine for_list (K := K) (a := L) (xs := [.ref t1, .ref t2, .ref R]) (fun i σ' H' => ∃ y9, σ' = [some (.ref a), some (.int wh), some (.int n), some (.ref t1), some (.ref t2), some (.ref R), y6, y7, y8, y9, none] ∧ LamX.ExtN H8 H' ∧ LamX.Tabs (tbs T) H')
      ⟨_, rfl, LamX.ExtN.refl _, hT8⟩ (fun i σ' H' _ ⟨_, _, e, _⟩ => sqN e (sq_of kL)) ?_ ?_
    · rintro i x σ' H' hi ⟨y9, rfl, eN, hT'⟩
      obtain ⟨g', TG', hG'⟩ := all3 x (List.mem_of_getElem? hi)
      refine ⟨_, rfl, _, rfl, _, rfl, _, rfl, (by decide : 3 ≤ sizeLine), fun L2 nL2 => ?_⟩
      have eL2 := Ex.new (o := .lst [V.ref t1, V.ref t2, V.ref R]) nL2
      have eN2 := eN.trans (ex_N eL2)
      exact ⟨x, L2, _, n, g', rfl, tabR_N TG' eN2, hG', hn1, hn, sq_of upd_same, fun u hu => by
        obtain ⟨g2, TG2, _⟩ := all3 u hu
        exact ⟨n, g2, hn1, hn, tabR_N TG2 eN2⟩, hT'.ext eL2, fun H9 eN9 hT9 => ⟨true, rfl, _, rfl, eN2.trans eN9, hT9⟩⟩
    rintro σ' G0 ⟨y9, rfl, _, _⟩
    refine ⟨(by decide : 1 ≤ sizeLine), fun p1 np1 => ?_⟩
    generalize g1 : upd _ p1 _ = G1
    have k1 : G1 p1 = some (.lst [.int 0]) := by rw [← g1]; exact upd_same
    clear g1
    refine ⟨(by decide : 1 ≤ sizeLine), fun p2 np2 => ?_⟩
    generalize g2 : upd _ p2 _ = G2
    have f2 : Ex G1 G2 := by rw [← g2]; exact Ex.new np2
    have k2 : G2 p2 = some (.lst [.ref p1]) := by rw [← g2]; exact upd_same
    clear g2
    refine ⟨.ref p2, 1, (litF [[0]]), rfl, by decide, by decide, (tabR_lit (rs := [p1]) [[0]] k2 (by decide) (.cons (f2 _ _ k1) .nil) : TabR K _ _ 1 (litF [[0]])), antiL (by decide +kernel), fun G3 x3 f3 nx3 hF3 => ?_⟩
    obtain ⟨dx3, hx3⟩ := fore_who 0 hF3 (by decide +kernel)
    refine ⟨x3, T.c_Unbeaten, dx3, _, _, rfl, hx3, T.C_Unbeaten, T.a_Unbeaten_who, rfl, rfl, true, rfl, ?_⟩
    refine ⟨(by decide : 2 ≤ sizeLine), fun p4 np4 => ?_⟩
    generalize g4 : upd _ p4 _ = G4
    have k4 : G4 p4 = some (.lst [.int 0, .int 0]) := by rw [← g4]; exact upd_same
    clear g4
    refine ⟨(by decide : 2 ≤ sizeLine), fun p5 np5 => ?_⟩
    generalize g5 : upd _ p5 _ = G5
    have f5 : Ex G4 G5 := by rw [← g5]; exact Ex.new np5
    have k5 : G5 p5 = some (.lst [.int 0, .int 0]) := by rw [← g5]; exact upd_same
    clear g5
    refine ⟨(by decide : 2 ≤ sizeLine), fun p6 np6 => ?_⟩
    generalize g6 : upd _ p6 _ = G6
    have f6 : Ex G5 G6 := by rw [← g6]; exact Ex.new np6
    have k6 : G6 p6 = some (.lst [.ref p4, .ref p5]) := by rw [← g6]; exact upd_same
    clear g6
    refine ⟨.ref p6, 2, (litF [[0, 0], [0, 0]]), rfl, by decide, by decide, (tabR_lit (rs := [p4, p5]) [[0, 0], [0, 0]] k6 (by decide) (.cons (f6 _ _ (f5 _ _ k4)) (.cons (f6 _ _ k5) .nil)) : TabR K _ _ 2 (litF [[0, 0], [0, 0]])), antiL (by decide +kernel), fun G7 q7 ks7 f7 nq7 h7 ht7 => ?_⟩
    rw [ht7.same (tops_of (ks := [0, 1]) 0 (by decide) (by decide +kernel) (by decide +kernel) (by decide +kernel))] at h7
    refine ⟨(by decide : 2 ≤ sizeLine), fun p8 np8 => ?_⟩
    generalize g8 : upd _ p8 _ = G8
    have f8 : Ex G7 G8 := by rw [← g8]; exact Ex.new np8
    have k8 : G8 p8 = some (.lst [.int 0, .int 1]) := by rw [← g8]; exact upd_same
    clear g8
    refine ⟨_, _, dp_ints (ns := [0, 1]) (sq_of (f8 _ _ h7)), dp_ints (ns := [0, 1]) (sq_of k8), shaped_ints _, shaped_ints _, true, by rw [eqv_ints]; rfl, ?_⟩
    refine ⟨_, rfl, (by decide : 2 ≤ sizeLine), fun p9 np9 => ?_⟩
    generalize g9 : upd _ p9 _ = G9
    have k9 : G9 p9 = some (.lst [.int 0, .int (-2)]) := by rw [← g9]; exact upd_same
    clear g9
    refine ⟨(by decide : 2 ≤ sizeLine), fun pa npa => ?_⟩
    generalize ga : upd _ pa _ = Ga
    have fa : Ex G9 Ga := by rw [← ga]; exact Ex.new npa
    have ka : Ga pa = some (.lst [.int 2, .int 0]) := by rw [← ga]; exact upd_same
    clear ga
    refine ⟨(by decide : 2 ≤ sizeLine), fun pb npb => ?_⟩
    generalize gb : upd _ pb _ = Gb
    have fb : Ex Ga Gb := by rw [← gb]; exact Ex.new npb
    have kb : Gb pb = some (.lst [.ref p9, .ref pa]) := by rw [← gb]; exact upd_same
    clear gb
    refine ⟨.ref pb, 2, (litF [[0, -2], [2, 0]]), rfl, by decide, by decide, (tabR_lit (rs := [p9, pa]) [[0, -2], [2, 0]] kb (by decide) (.cons (fb _ _ (fa _ _ k9)) (.cons (fb _ _ ka) .nil)) : TabR K _ _ 2 (litF [[0, -2], [2, 0]])), antiL (by decide +kernel), fun Gc qc ksc fc nqc hc htc => ?_⟩
    rw [htc.same (tops_of (ks := [1]) 1 (by decide) (by decide +kernel) (by decide +kernel) (by decide +kernel))] at hc
    refine ⟨(by decide : 1 ≤ sizeLine), fun pd npd => ?_⟩
    generalize gd : upd _ pd _ = Gd
    have fd : Ex Gc Gd := by rw [← gd]; exact Ex.new npd
    have kd : Gd pd = some (.lst [.int 1]) := by rw [← gd]; exact upd_same
    clear gd
    refine ⟨_, _, dp_ints (ns := [1]) (sq_of (fd _ _ hc)), dp_ints (ns := [1]) (sq_of kd), shaped_ints _, shaped_ints _, ?_⟩
    rw [eqv_ints]
    exact q _
end
end Hc
namespace Hc
open PySem PySem.Spec PyProof.Rows L2 Evl
theorem tx_of {K : PySem.W.Frag} {h : Heap} {mg : Str → Option Value} (X : K.In h) (G : h.Ns mainGlobals mg)
    {c_Answer : Addr} {c_Ballots : Addr} {c_Uneven : Addr} {c_Unbeaten : Addr} {c_Ring : Addr} {f1 : Addr} {od1 an1 : Option Addr} {sl1 : Array (Option Value)} {oc1 kV1 dc1 pm1 cd1 ct1 : Value} {f2 : Addr} {od2 an2 : Option Addr} {sl2 : Array (Option Value)} {oc2 kV2 dc2 pm2 cd2 ct2 : Value} {f3 : Addr} {od3 an3 : Option Addr} {sl3 : Array (Option Value)} {oc3 kV3 dc3 pm3 cd3 ct3 : Value} {f4 : Addr} {od4 an4 : Option Addr} {sl4 : Array (Option Value)} {oc4 kV4 dc4 pm4 cd4 ct4 : Value} {f5 : Addr} {od5 an5 : Option Addr} {sl5 : Array (Option Value)} {oc5 kV5 dc5 pm5 cd5 ct5 : Value} {f6 : Addr} {od6 an6 : Option Addr} {sl6 : Array (Option Value)} {oc6 kV6 dc6 pm6 cd6 ct6 : Value} {f7 : Addr} {od7 an7 : Option Addr} {sl7 : Array (Option Value)} {oc7 kV7 dc7 pm7 cd7 ct7 : Value} {f8 : Addr} {od8 an8 : Option Addr} {sl8 : Array (Option Value)} {oc8 kV8 dc8 pm8 cd8 ct8 : Value} {f9 : Addr} {od9 an9 : Option Addr} {sl9 : Array (Option Value)} {oc9 kV9 dc9 pm9 cd9 ct9 : Value} {f10 : Addr} {od10 an10 : Option Addr} {sl10 : Array (Option Value)} {oc10 kV10 dc10 pm10 cd10 ct10 : Value} {f11 : Addr} {od11 an11 : Option Addr} {sl11 : Array (Option Value)} {oc11 kV11 dc11 pm11 cd11 ct11 : Value} {f12 : Addr} {od12 an12 : Option Addr} {sl12 : Array (Option Value)} {oc12 kV12 dc12 pm12 cd12 ct12 : Value} {f13 : Addr} {od13 an13 : Option Addr} {sl13 : Array (Option Value)} {oc13 kV13 dc13 pm13 cd13 ct13 : Value} {f14 : Addr} {od14 an14 : Option Addr} {sl14 : Array (Option Value)} {oc14 kV14 dc14 pm14 cd14 ct14 : Value} {f15 : Addr} {od15 an15 : Option Addr} {sl15 : Array (Option Value)} {oc15 kV15 dc15 pm15 cd15 ct15 : Value} {f16 : Addr} {od16 an16 : Option Addr} {sl16 : Array (Option Value)} {oc16 kV16 dc16 pm16 cd16 ct16 : Value} {f17 : Addr} {od17 an17 : Option Addr} {sl17 : Array (Option Value)} {oc17 kV17 dc17 pm17 cd17 ct17 : Value} {f18 : Addr} {od18 an18 : Option Addr} {sl18 : Array (Option Value)} {oc18 kV18 dc18 pm18 cd18 ct18 : Value} {f19 : Addr} {od19 an19 : Option Addr} {sl19 : Array (Option Value)} {oc19 kV19 dc19 pm19 cd19 ct19 : Value} {f20 : Addr} {od20 an20 : Option Addr} {sl20 : Array (Option Value)} {oc20 kV20 dc20 pm20 cd20 ct20 : Value} {f21 : Addr} {od21 an21 : Option Addr} {sl21 : Array (Option Value)} {oc21 kV21 dc21 pm21 ct21 : Value} {cc pt : Addr} {f22 : Addr} {od22 an22 : Option Addr} {sl22 : Array (Option Value)} {oc22 kV22 dc22 pm22 cd22 ct22 : Value} {f23 : Addr} {od23 an23 : Option Addr} {sl23 : Array (Option Value)} {oc23 kV23 dc23 pm23 cd23 ct23 : Value} {t_MOST : Nat}
    (q_Answer : PySem.W.nsIn K mainGlobals "Answer" = some (some (.ref c_Answer)))
    (q_Ballots : PySem.W.nsIn K mainGlobals "Ballots" = some (some (.ref c_Ballots)))
    (q_Uneven : PySem.W.nsIn K mainGlobals "Uneven" = some (some (.ref c_Uneven)))
    (q_Unbeaten : PySem.W.nsIn K mainGlobals "Unbeaten" = some (some (.ref c_Unbeaten)))
    (q_Ring : PySem.W.nsIn K mainGlobals "Ring" = some (some (.ref c_Ring)))
    (a1 : PySem.W.nsIn K mainGlobals "is_number" = some (some (.ref f1)))
    (l1 : K.lookup f1 = some ⟨oc1, od1, .func (PySem.W.fnOf "is_number" "is_number" (defArgs s_is_number) (defBody s_is_number) (defScope s_is_number) .none kV1 dc1 pm1 an1 cd1 ct1), sl1⟩)
    (e1 : PySem.W.codeIn K cd1 "is_number" = true)
    (k1 : PySem.W.keepIn K (.ref f1) = true)
    (a2 : PySem.W.nsIn K mainGlobals "are_ballots" = some (some (.ref f2)))
    (l2 : K.lookup f2 = some ⟨oc2, od2, .func (PySem.W.fnOf "are_ballots" "are_ballots" (defArgs s_are_ballots) (defBody s_are_ballots) (defScope s_are_ballots) .none kV2 dc2 pm2 an2 cd2 ct2), sl2⟩)
    (e2 : PySem.W.codeIn K cd2 "are_ballots" = true)
    (k2 : PySem.W.keepIn K (.ref f2) = true)
    (a3 : PySem.W.nsIn K mainGlobals "asked_table" = some (some (.ref f3)))
    (l3 : K.lookup f3 = some ⟨oc3, od3, .func (PySem.W.fnOf "asked_table" "asked_table" (defArgs s_asked_table) (defBody s_asked_table) (defScope s_asked_table) .none kV3 dc3 pm3 an3 cd3 ct3), sl3⟩)
    (e3 : PySem.W.codeIn K cd3 "asked_table" = true)
    (k3 : PySem.W.keepIn K (.ref f3) = true)
    (a4 : PySem.W.nsIn K mainGlobals "count_of" = some (some (.ref f4)))
    (l4 : K.lookup f4 = some ⟨oc4, od4, .func (PySem.W.fnOf "count_of" "count_of" (defArgs s_count_of) (defBody s_count_of) (defScope s_count_of) .none kV4 dc4 pm4 an4 cd4 ct4), sl4⟩)
    (e4 : PySem.W.codeIn K cd4 "count_of" = true)
    (k4 : PySem.W.keepIn K (.ref f4) = true)
    (a5 : PySem.W.nsIn K mainGlobals "is_pair" = some (some (.ref f5)))
    (l5 : K.lookup f5 = some ⟨oc5, od5, .func (PySem.W.fnOf "is_pair" "is_pair" (defArgs s_is_pair) (defBody s_is_pair) (defScope s_is_pair) .none kV5 dc5 pm5 an5 cd5 ct5), sl5⟩)
    (e5 : PySem.W.codeIn K cd5 "is_pair" = true)
    (k5 : PySem.W.keepIn K (.ref f5) = true)
    (a6 : PySem.W.findIn K (.ref c_Ballots) "__init__" = some (some (.ref f6)))
    (i6 : PySem.W.isFn K (.ref f6) = true)
    (l6 : K.lookup f6 = some ⟨oc6, od6, .func (PySem.W.fnOf "__init__" "Ballots.__init__" (defArgs s_Ballots__init) (defBody s_Ballots__init) (defScope s_Ballots__init) .none kV6 dc6 pm6 an6 cd6 ct6), sl6⟩)
    (e6 : PySem.W.codeIn K cd6 "Ballots.__init__" = true)
    (k6 : PySem.W.keepIn K (.ref f6) = true)
    (a7 : PySem.W.findIn K (.ref c_Ballots) "shows" = some (some (.ref f7)))
    (i7 : PySem.W.isFn K (.ref f7) = true)
    (l7 : K.lookup f7 = some ⟨oc7, od7, .func (PySem.W.fnOf "shows" "Ballots.shows" (defArgs s_Ballots_shows) (defBody s_Ballots_shows) (defScope s_Ballots_shows) .none kV7 dc7 pm7 an7 cd7 ct7), sl7⟩)
    (e7 : PySem.W.codeIn K cd7 "Ballots.shows" = true)
    (k7 : PySem.W.keepIn K (.ref f7) = true)
    (a8 : PySem.W.findIn K (.ref c_Uneven) "__init__" = some (some (.ref f8)))
    (i8 : PySem.W.isFn K (.ref f8) = true)
    (l8 : K.lookup f8 = some ⟨oc8, od8, .func (PySem.W.fnOf "__init__" "Uneven.__init__" (defArgs s_Uneven__init) (defBody s_Uneven__init) (defScope s_Uneven__init) .none kV8 dc8 pm8 an8 cd8 ct8), sl8⟩)
    (e8 : PySem.W.codeIn K cd8 "Uneven.__init__" = true)
    (k8 : PySem.W.keepIn K (.ref f8) = true)
    (a9 : PySem.W.findIn K (.ref c_Uneven) "shows" = some (some (.ref f9)))
    (i9 : PySem.W.isFn K (.ref f9) = true)
    (l9 : K.lookup f9 = some ⟨oc9, od9, .func (PySem.W.fnOf "shows" "Uneven.shows" (defArgs s_Uneven_shows) (defBody s_Uneven_shows) (defScope s_Uneven_shows) .none kV9 dc9 pm9 an9 cd9 ct9), sl9⟩)
    (e9 : PySem.W.codeIn K cd9 "Uneven.shows" = true)
    (k9 : PySem.W.keepIn K (.ref f9) = true)
    (a10 : PySem.W.findIn K (.ref c_Unbeaten) "__init__" = some (some (.ref f10)))
    (i10 : PySem.W.isFn K (.ref f10) = true)
    (l10 : K.lookup f10 = some ⟨oc10, od10, .func (PySem.W.fnOf "__init__" "Unbeaten.__init__" (defArgs s_Unbeaten__init) (defBody s_Unbeaten__init) (defScope s_Unbeaten__init) .none kV10 dc10 pm10 an10 cd10 ct10), sl10⟩)
    (e10 : PySem.W.codeIn K cd10 "Unbeaten.__init__" = true)
    (k10 : PySem.W.keepIn K (.ref f10) = true)
    (a11 : PySem.W.findIn K (.ref c_Unbeaten) "shows" = some (some (.ref f11)))
    (i11 : PySem.W.isFn K (.ref f11) = true)
    (l11 : K.lookup f11 = some ⟨oc11, od11, .func (PySem.W.fnOf "shows" "Unbeaten.shows" (defArgs s_Unbeaten_shows) (defBody s_Unbeaten_shows) (defScope s_Unbeaten_shows) .none kV11 dc11 pm11 an11 cd11 ct11), sl11⟩)
    (e11 : PySem.W.codeIn K cd11 "Unbeaten.shows" = true)
    (k11 : PySem.W.keepIn K (.ref f11) = true)
    (a12 : PySem.W.findIn K (.ref c_Ring) "__init__" = some (some (.ref f12)))
    (i12 : PySem.W.isFn K (.ref f12) = true)
    (l12 : K.lookup f12 = some ⟨oc12, od12, .func (PySem.W.fnOf "__init__" "Ring.__init__" (defArgs s_Ring__init) (defBody s_Ring__init) (defScope s_Ring__init) .none kV12 dc12 pm12 an12 cd12 ct12), sl12⟩)
    (e12 : PySem.W.codeIn K cd12 "Ring.__init__" = true)
    (k12 : PySem.W.keepIn K (.ref f12) = true)
    (a13 : PySem.W.findIn K (.ref c_Ring) "shows" = some (some (.ref f13)))
    (i13 : PySem.W.isFn K (.ref f13) = true)
    (l13 : K.lookup f13 = some ⟨oc13, od13, .func (PySem.W.fnOf "shows" "Ring.shows" (defArgs s_Ring_shows) (defBody s_Ring_shows) (defScope s_Ring_shows) .none kV13 dc13 pm13 an13 cd13 ct13), sl13⟩)
    (e13 : PySem.W.codeIn K cd13 "Ring.shows" = true)
    (k13 : PySem.W.keepIn K (.ref f13) = true)
    (a14 : PySem.W.nsIn K mainGlobals "foremost" = some (some (.ref f14)))
    (l14 : K.lookup f14 = some ⟨oc14, od14, .func (PySem.W.fnOf "foremost" "foremost" (defArgs s_foremost) (defBody s_foremost) (defScope s_foremost) .none kV14 dc14 pm14 an14 cd14 ct14), sl14⟩)
    (e14 : PySem.W.codeIn K cd14 "foremost" = true)
    (k14 : PySem.W.keepIn K (.ref f14) = true)
    (a15 : PySem.W.nsIn K mainGlobals "tops" = some (some (.ref f15)))
    (l15 : K.lookup f15 = some ⟨oc15, od15, .func (PySem.W.fnOf "tops" "tops" (defArgs s_tops) (defBody s_tops) (defScope s_tops) .none kV15 dc15 pm15 an15 cd15 ct15), sl15⟩)
    (e15 : PySem.W.codeIn K cd15 "tops" = true)
    (k15 : PySem.W.keepIn K (.ref f15) = true)
    (a16 : PySem.W.nsIn K mainGlobals "_law_number" = some (some (.ref f16)))
    (l16 : K.lookup f16 = some ⟨oc16, od16, .func (PySem.W.fnOf "_law_number" "_law_number" (defArgs s_law_number) (defBody s_law_number) (defScope s_law_number) .none kV16 dc16 pm16 an16 cd16 ct16), sl16⟩)
    (e16 : PySem.W.codeIn K cd16 "_law_number" = true)
    (k16 : PySem.W.keepIn K (.ref f16) = true)
    (a17 : PySem.W.nsIn K mainGlobals "_law_table" = some (some (.ref f17)))
    (l17 : K.lookup f17 = some ⟨oc17, od17, .func (PySem.W.fnOf "_law_table" "_law_table" (defArgs s_law_table) (defBody s_law_table) (defScope s_law_table) .none kV17 dc17 pm17 an17 cd17 ct17), sl17⟩)
    (e17 : PySem.W.codeIn K cd17 "_law_table" = true)
    (k17 : PySem.W.keepIn K (.ref f17) = true)
    (a18 : PySem.W.nsIn K mainGlobals "_law_ballots" = some (some (.ref f18)))
    (l18 : K.lookup f18 = some ⟨oc18, od18, .func (PySem.W.fnOf "_law_ballots" "_law_ballots" (defArgs s_law_ballots) (defBody s_law_ballots) (defScope s_law_ballots) .none kV18 dc18 pm18 an18 cd18 ct18), sl18⟩)
    (e18 : PySem.W.codeIn K cd18 "_law_ballots" = true)
    (k18 : PySem.W.keepIn K (.ref f18) = true)
    (a19 : PySem.W.nsIn K mainGlobals "_law_count" = some (some (.ref f19)))
    (l19 : K.lookup f19 = some ⟨oc19, od19, .func (PySem.W.fnOf "_law_count" "_law_count" (defArgs s_law_count) (defBody s_law_count) (defScope s_law_count) .none kV19 dc19 pm19 an19 cd19 ct19), sl19⟩)
    (e19 : PySem.W.codeIn K cd19 "_law_count" = true)
    (k19 : PySem.W.keepIn K (.ref f19) = true)
    (a20 : PySem.W.nsIn K mainGlobals "_law_due" = some (some (.ref f20)))
    (l20 : K.lookup f20 = some ⟨oc20, od20, .func (PySem.W.fnOf "_law_due" "_law_due" (defArgs s_law_due) (defBody s_law_due) (defScope s_law_due) .none kV20 dc20 pm20 an20 cd20 ct20), sl20⟩)
    (e20 : PySem.W.codeIn K cd20 "_law_due" = true)
    (k20 : PySem.W.keepIn K (.ref f20) = true)
    (a21 : PySem.W.nsIn K mainGlobals "_law_tops" = some (some (.ref f21)))
    (l21 : K.lookup f21 = some ⟨oc21, od21, .func (PySem.W.fnOf "_law_tops" "_law_tops" (defArgs s_law_tops) (defBody s_law_tops) (defScope s_law_tops) .none kV21 dc21 pm21 an21 (.ref cc) ct21), sl21⟩)
    (e21 : PySem.W.codeIn K (.ref cc) "_law_tops" = true)
    (nT : K.lookup pt = none)
    (hC : PySem.W.codeHdIn K cc pt = true)
    (k21 : PySem.W.keepIn K (.ref f21) = true)
    (a22 : PySem.W.nsIn K mainGlobals "_law_right" = some (some (.ref f22)))
    (l22 : K.lookup f22 = some ⟨oc22, od22, .func (PySem.W.fnOf "_law_right" "_law_right" (defArgs s_law_right) (defBody s_law_right) (defScope s_law_right) .none kV22 dc22 pm22 an22 cd22 ct22), sl22⟩)
    (e22 : PySem.W.codeIn K cd22 "_law_right" = true)
    (k22 : PySem.W.keepIn K (.ref f22) = true)
    (a23 : PySem.W.nsIn K mainGlobals "law" = some (some (.ref f23)))
    (l23 : K.lookup f23 = some ⟨oc23, od23, .func (PySem.W.fnOf "law" "law" (defArgs s_law) (defBody s_law) (defScope s_law) .none kV23 dc23 pm23 an23 cd23 ct23), sl23⟩)
    (e23 : PySem.W.codeIn K cd23 "law" = true)
    (k23 : PySem.W.keepIn K (.ref f23) = true)
    (qhn : PySem.W.specialIn K (.builtin "object.__class__") "__get__" = some (some (.builtin "getset_descriptor.__get__")))
    (qht : PySem.W.takesIn K (.builtin "object.__class__") = some true)
    (pg_Ballots : PySem.W.plainGet K c_Ballots Str.empty = true)
    (hd_Ballots : PySem.W.hasDictIn K c_Ballots = true)
    (po_Ballots : PySem.W.plainOver K c_Ballots = true)
    (sa_Ballots : PySem.W.findIn K (.ref c_Ballots) "__setattr__" = some (some (.builtin "object.__setattr__")))
    (ha_Ballots : PySem.W.findIn K (.ref c_Ballots) "__class__" = some (some (.builtin "object.__class__")))
    (hm_Ballots : PySem.W.mroIn K c_Ballots (.type "object") = some true)
    (mk_Ballots : PySem.W.makesIn K c_Ballots = true)
    (kc_Ballots : PySem.W.keepIn K (.ref c_Ballots) = true)
    (n_Ballots_ballots : PySem.W.findIn K (.ref c_Ballots) "ballots" = some none)
    (k_Ballots_Answer : PySem.W.kitOne K (.ref c_Ballots) (.ref c_Answer) = some true)
    (k_Ballots_Ballots : PySem.W.kitOne K (.ref c_Ballots) (.ref c_Ballots) = some true)
    (k_Ballots_Uneven : PySem.W.kitOne K (.ref c_Ballots) (.ref c_Uneven) = some false)
    (k_Ballots_Unbeaten : PySem.W.kitOne K (.ref c_Ballots) (.ref c_Unbeaten) = some false)
    (k_Ballots_Ring : PySem.W.kitOne K (.ref c_Ballots) (.ref c_Ring) = some false)
    (pg_Uneven : PySem.W.plainGet K c_Uneven Str.empty = true)
    (hd_Uneven : PySem.W.hasDictIn K c_Uneven = true)
    (po_Uneven : PySem.W.plainOver K c_Uneven = true)
    (sa_Uneven : PySem.W.findIn K (.ref c_Uneven) "__setattr__" = some (some (.builtin "object.__setattr__")))
    (ha_Uneven : PySem.W.findIn K (.ref c_Uneven) "__class__" = some (some (.builtin "object.__class__")))
    (hm_Uneven : PySem.W.mroIn K c_Uneven (.type "object") = some true)
    (mk_Uneven : PySem.W.makesIn K c_Uneven = true)
    (kc_Uneven : PySem.W.keepIn K (.ref c_Uneven) = true)
    (n_Uneven_one : PySem.W.findIn K (.ref c_Uneven) "one" = some none)
    (n_Uneven_other : PySem.W.findIn K (.ref c_Uneven) "other" = some none)
    (k_Uneven_Answer : PySem.W.kitOne K (.ref c_Uneven) (.ref c_Answer) = some true)
    (k_Uneven_Ballots : PySem.W.kitOne K (.ref c_Uneven) (.ref c_Ballots) = some false)
    (k_Uneven_Uneven : PySem.W.kitOne K (.ref c_Uneven) (.ref c_Uneven) = some true)
    (k_Uneven_Unbeaten : PySem.W.kitOne K (.ref c_Uneven) (.ref c_Unbeaten) = some false)
    (k_Uneven_Ring : PySem.W.kitOne K (.ref c_Uneven) (.ref c_Ring) = some false)
    (pg_Unbeaten : PySem.W.plainGet K c_Unbeaten Str.empty = true)
    (hd_Unbeaten : PySem.W.hasDictIn K c_Unbeaten = true)
    (po_Unbeaten : PySem.W.plainOver K c_Unbeaten = true)
    (sa_Unbeaten : PySem.W.findIn K (.ref c_Unbeaten) "__setattr__" = some (some (.builtin "object.__setattr__")))
    (ha_Unbeaten : PySem.W.findIn K (.ref c_Unbeaten) "__class__" = some (some (.builtin "object.__class__")))
    (hm_Unbeaten : PySem.W.mroIn K c_Unbeaten (.type "object") = some true)
    (mk_Unbeaten : PySem.W.makesIn K c_Unbeaten = true)
    (kc_Unbeaten : PySem.W.keepIn K (.ref c_Unbeaten) = true)
    (n_Unbeaten_who : PySem.W.findIn K (.ref c_Unbeaten) "who" = some none)
    (k_Unbeaten_Answer : PySem.W.kitOne K (.ref c_Unbeaten) (.ref c_Answer) = some true)
    (k_Unbeaten_Ballots : PySem.W.kitOne K (.ref c_Unbeaten) (.ref c_Ballots) = some false)
    (k_Unbeaten_Uneven : PySem.W.kitOne K (.ref c_Unbeaten) (.ref c_Uneven) = some false)
    (k_Unbeaten_Unbeaten : PySem.W.kitOne K (.ref c_Unbeaten) (.ref c_Unbeaten) = some true)
    (k_Unbeaten_Ring : PySem.W.kitOne K (.ref c_Unbeaten) (.ref c_Ring) = some false)
    (pg_Ring : PySem.W.plainGet K c_Ring Str.empty = true)
    (hd_Ring : PySem.W.hasDictIn K c_Ring = true)
    (po_Ring : PySem.W.plainOver K c_Ring = true)
    (sa_Ring : PySem.W.findIn K (.ref c_Ring) "__setattr__" = some (some (.builtin "object.__setattr__")))
    (ha_Ring : PySem.W.findIn K (.ref c_Ring) "__class__" = some (some (.builtin "object.__class__")))
    (hm_Ring : PySem.W.mroIn K c_Ring (.type "object") = some true)
    (mk_Ring : PySem.W.makesIn K c_Ring = true)
    (kc_Ring : PySem.W.keepIn K (.ref c_Ring) = true)
    (n_Ring_way : PySem.W.findIn K (.ref c_Ring) "way" = some none)
    (k_Ring_Answer : PySem.W.kitOne K (.ref c_Ring) (.ref c_Answer) = some true)
    (k_Ring_Ballots : PySem.W.kitOne K (.ref c_Ring) (.ref c_Ballots) = some false)
    (k_Ring_Uneven : PySem.W.kitOne K (.ref c_Ring) (.ref c_Uneven) = some false)
    (k_Ring_Unbeaten : PySem.W.kitOne K (.ref c_Ring) (.ref c_Unbeaten) = some false)
    (k_Ring_Ring : PySem.W.kitOne K (.ref c_Ring) (.ref c_Ring) = some true)
    (a_MOST : PySem.W.nsIn K mainGlobals "MOST" = some (some (.int 20 t_MOST)))
    (z_all : PySem.W.nsIn K mainGlobals "all" = some none)
    (z_any : PySem.W.nsIn K mainGlobals "any" = some none)
    (z_bool : PySem.W.nsIn K mainGlobals "bool" = some none)
    (z_enumerate : PySem.W.nsIn K mainGlobals "enumerate" = some none)
    (z_int : PySem.W.nsIn K mainGlobals "int" = some none)
    (z_isinstance : PySem.W.nsIn K mainGlobals "isinstance" = some none)
    (z_len : PySem.W.nsIn K mainGlobals "len" = some none)
    (z_list : PySem.W.nsIn K mainGlobals "list" = some none)
    (z_max : PySem.W.nsIn K mainGlobals "max" = some none)
    (z_min : PySem.W.nsIn K mainGlobals "min" = some none)
    (z_range : PySem.W.nsIn K mainGlobals "range" = some none)
    (z_set : PySem.W.nsIn K mainGlobals "set" = some none)
    (z_sorted : PySem.W.nsIn K mainGlobals "sorted" = some none)
    (z_sum : PySem.W.nsIn K mainGlobals "sum" = some none)
    (z_tuple : PySem.W.nsIn K mainGlobals "tuple" = some none)
    (z_zip : PySem.W.nsIn K mainGlobals "zip" = some none) :
    ∃ T : Tx K mg, T.d_law = PySem.W.fnOf "law" "law" (defArgs s_law) (defBody s_law) (defScope s_law) .none kV23 dc23 pm23 an23 cd23 ct23 ∧ T.cc = cc ∧ T.pt = pt :=
  ⟨{ c_Answer := c_Answer,
      g_Answer := PySem.W.mg_of X G q_Answer,
      c_Ballots := c_Ballots,
      g_Ballots := PySem.W.mg_of X G q_Ballots,
      c_Uneven := c_Uneven,
      g_Uneven := PySem.W.mg_of X G q_Uneven,
      c_Unbeaten := c_Unbeaten,
      g_Unbeaten := PySem.W.mg_of X G q_Unbeaten,
      c_Ring := c_Ring,
      g_Ring := PySem.W.mg_of X G q_Ring,
      f_is_number := f1,
      d_is_number := _,
      F_is_number := fun_mk (st := s_is_number) l1 e1 k1,
      g_is_number := PySem.W.mg_of X G a1,
      f_are_ballots := f2,
      d_are_ballots := _,
      F_are_ballots := fun_mk (st := s_are_ballots) l2 e2 k2,
      g_are_ballots := PySem.W.mg_of X G a2,
      f_asked_table := f3,
      d_asked_table := _,
      F_asked_table := fun_mk (st := s_asked_table) l3 e3 k3,
      g_asked_table := PySem.W.mg_of X G a3,
      f_count_of := f4,
      d_count_of := _,
      F_count_of := fun_mk (st := s_count_of) l4 e4 k4,
      g_count_of := PySem.W.mg_of X G a4,
      f_is_pair := f5,
      d_is_pair := _,
      F_is_pair := fun_mk (st := s_is_pair) l5 e5 k5,
      g_is_pair := PySem.W.mg_of X G a5,
      f_Ballots__init := f6,
      d_Ballots__init := _,
      F_Ballots__init := fun_mk (st := s_Ballots__init) l6 e6 k6,
      f_Ballots_shows := f7,
      d_Ballots_shows := _,
      F_Ballots_shows := fun_mk (st := s_Ballots_shows) l7 e7 k7,
      f_Uneven__init := f8,
      d_Uneven__init := _,
      F_Uneven__init := fun_mk (st := s_Uneven__init) l8 e8 k8,
      f_Uneven_shows := f9,
      d_Uneven_shows := _,
      F_Uneven_shows := fun_mk (st := s_Uneven_shows) l9 e9 k9,
      f_Unbeaten__init := f10,
      d_Unbeaten__init := _,
      F_Unbeaten__init := fun_mk (st := s_Unbeaten__init) l10 e10 k10,
      f_Unbeaten_shows := f11,
      d_Unbeaten_shows := _,
      F_Unbeaten_shows := fun_mk (st := s_Unbeaten_shows) l11 e11 k11,
      f_Ring__init := f12,
      d_Ring__init := _,
      F_Ring__init := fun_mk (st := s_Ring__init) l12 e12 k12,
      f_Ring_shows := f13,
      d_Ring_shows := _,
      F_Ring_shows := fun_mk (st := s_Ring_shows) l13 e13 k13,
      f_foremost := f14,
      d_foremost := _,
      F_foremost := fun_mk (st := s_foremost) l14 e14 k14,
      g_foremost := PySem.W.mg_of X G a14,
      f_tops := f15,
      d_tops := _,
      F_tops := fun_mk (st := s_tops) l15 e15 k15,
      g_tops := PySem.W.mg_of X G a15,
      f_law_number := f16,
      d_law_number := _,
      F_law_number := fun_mk (st := s_law_number) l16 e16 k16,
      g_law_number := PySem.W.mg_of X G a16,
      f_law_table := f17,
      d_law_table := _,
      F_law_table := fun_mk (st := s_law_table) l17 e17 k17,
      g_law_table := PySem.W.mg_of X G a17,
      f_law_ballots := f18,
      d_law_ballots := _,
      F_law_ballots := fun_mk (st := s_law_ballots) l18 e18 k18,
      g_law_ballots := PySem.W.mg_of X G a18,
      f_law_count := f19,
      d_law_count := _,
      F_law_count := fun_mk (st := s_law_count) l19 e19 k19,
      g_law_count := PySem.W.mg_of X G a19,
      f_law_due := f20,
      d_law_due := _,
      F_law_due := fun_mk (st := s_law_due) l20 e20 k20,
      g_law_due := PySem.W.mg_of X G a20,
      cc := cc,
      pt := pt,
      FC := ⟨oc21, od21, kV21, dc21, pm21, an21, ct21, sl21, rfl, l21, e21⟩,
      f_law_tops := f21,
      d_law_tops := _,
      F_law_tops := fun_mk (st := s_law_tops) l21 e21 k21,
      g_law_tops := PySem.W.mg_of X G a21,
      f_law_right := f22,
      d_law_right := _,
      F_law_right := fun_mk (st := s_law_right) l22 e22 k22,
      g_law_right := PySem.W.mg_of X G a22,
      f_law := f23,
      d_law := _,
      F_law := fun_mk (st := s_law) l23 e23 k23,
      g_law := PySem.W.mg_of X G a23,
      C_Ballots := ⟨pg_Ballots, hd_Ballots, po_Ballots, sa_Ballots⟩,
      y_Ballots := fun _ _ _ _ e => .base (.ins e ⟨pg_Ballots, hd_Ballots, po_Ballots, sa_Ballots⟩ ha_Ballots qhn qht hm_Ballots),
      M_Ballots := ⟨mk_Ballots, a6, i6, kc_Ballots⟩,
      S_Ballots := ⟨a7, i7, k7⟩,
      a_Ballots_ballots := n_Ballots_ballots,
      k_Ballots_Answer := k_Ballots_Answer,
      k_Ballots_Ballots := k_Ballots_Ballots,
      k_Ballots_Uneven := k_Ballots_Uneven,
      k_Ballots_Unbeaten := k_Ballots_Unbeaten,
      k_Ballots_Ring := k_Ballots_Ring,
      C_Uneven := ⟨pg_Uneven, hd_Uneven, po_Uneven, sa_Uneven⟩,
      y_Uneven := fun _ _ _ _ e => .base (.ins e ⟨pg_Uneven, hd_Uneven, po_Uneven, sa_Uneven⟩ ha_Uneven qhn qht hm_Uneven),
      M_Uneven := ⟨mk_Uneven, a8, i8, kc_Uneven⟩,
      S_Uneven := ⟨a9, i9, k9⟩,
      a_Uneven_one := n_Uneven_one,
      a_Uneven_other := n_Uneven_other,
      k_Uneven_Answer := k_Uneven_Answer,
      k_Uneven_Ballots := k_Uneven_Ballots,
      k_Uneven_Uneven := k_Uneven_Uneven,
      k_Uneven_Unbeaten := k_Uneven_Unbeaten,
      k_Uneven_Ring := k_Uneven_Ring,
      C_Unbeaten := ⟨pg_Unbeaten, hd_Unbeaten, po_Unbeaten, sa_Unbeaten⟩,
      y_Unbeaten := fun _ _ _ _ e => .base (.ins e ⟨pg_Unbeaten, hd_Unbeaten, po_Unbeaten, sa_Unbeaten⟩ ha_Unbeaten qhn qht hm_Unbeaten),
      M_Unbeaten := ⟨mk_Unbeaten, a10, i10, kc_Unbeaten⟩,
      S_Unbeaten := ⟨a11, i11, k11⟩,
      a_Unbeaten_who := n_Unbeaten_who,
      k_Unbeaten_Answer := k_Unbeaten_Answer,
      k_Unbeaten_Ballots := k_Unbeaten_Ballots,
      k_Unbeaten_Uneven := k_Unbeaten_Uneven,
      k_Unbeaten_Unbeaten := k_Unbeaten_Unbeaten,
      k_Unbeaten_Ring := k_Unbeaten_Ring,
      C_Ring := ⟨pg_Ring, hd_Ring, po_Ring, sa_Ring⟩,
      y_Ring := fun _ _ _ _ e => .base (.ins e ⟨pg_Ring, hd_Ring, po_Ring, sa_Ring⟩ ha_Ring qhn qht hm_Ring),
      M_Ring := ⟨mk_Ring, a12, i12, kc_Ring⟩,
      S_Ring := ⟨a13, i13, k13⟩,
      a_Ring_way := n_Ring_way,
      k_Ring_Answer := k_Ring_Answer,
      k_Ring_Ballots := k_Ring_Ballots,
      k_Ring_Uneven := k_Ring_Uneven,
      k_Ring_Unbeaten := k_Ring_Unbeaten,
      k_Ring_Ring := k_Ring_Ring,
      g_MOST := ⟨t_MOST, PySem.W.mg_of X G a_MOST⟩,
      n_all := PySem.W.mg_none_of X G z_all,
      n_any := PySem.W.mg_none_of X G z_any,
      n_bool := PySem.W.mg_none_of X G z_bool,
      n_enumerate := PySem.W.mg_none_of X G z_enumerate,
      n_int := PySem.W.mg_none_of X G z_int,
      n_isinstance := PySem.W.mg_none_of X G z_isinstance,
      n_len := PySem.W.mg_none_of X G z_len,
      n_list := PySem.W.mg_none_of X G z_list,
      n_max := PySem.W.mg_none_of X G z_max,
      n_min := PySem.W.mg_none_of X G z_min,
      n_range := PySem.W.mg_none_of X G z_range,
      n_set := PySem.W.mg_none_of X G z_set,
      n_sorted := PySem.W.mg_none_of X G z_sorted,
      n_sum := PySem.W.mg_none_of X G z_sum,
      n_tuple := PySem.W.mg_none_of X G z_tuple,
      n_zip := PySem.W.mg_none_of X G z_zip }, rfl, rfl, rfl⟩
theorem law_of {l : PySem.W.OpenLaw} {w : World} {K : PySem.W.Frag} {h : Heap} {mg : Str → Option Value} {fa cc pt : Addr} (X : K.In h) (hfa : mg "law" = some (.ref fa)) (tb : h.get? pt = some { cls := .none, data := .fields #[] }) (nT : K.lookup pt = none) (hC : PySem.W.codeHdIn K cc pt = true) {kV dc pm cd ct : Value} {an : Option Addr}
    (hT : ∃ T : Tx K mg, T.d_law = PySem.W.fnOf "law" "law" (defArgs s_law) (defBody s_law) (defScope s_law) .none kV dc pm an cd ct ∧ T.cc = cc ∧ T.pt = pt) : LamX.LawAtS l w K CX0 6 63 "_law_script" mg fa h := by
  obtain ⟨T, e, rfl, rfl⟩ := hT
  have e2 := hfa.symm.trans T.g_law
  cases e2
  have one : ∀ {C : Addr × Addr → Prop}, C (T.cc, T.pt) → ∀ p ∈ [(T.cc, T.pt)], C p := fun h p hp => by rw [List.mem_singleton.mp hp]; exact h
  refine ⟨T.d_law, [(T.cc, T.pt)], spLaw T, one tb, one nT, one (PySem.W.codeHd_of_K X hC), fun s v => by rw [e]; exact .of_eq rfl, fun H a ns hl hb hH hS => ?_, fun base _ _ hTB => ok_law T (hTB _ (List.mem_singleton.mpr rfl))⟩
  refine ⟨a, ns, 1048576, rfl, hS, hl, fun z hz => big_of_bits (hb z hz), by decide, by decide, fun p hp => ?_, fun _ => rfl⟩
  rw [List.mem_singleton.mp hp]
  exact LamX.TabS.nil (hH _ (List.mem_singleton.mpr rfl))
theorem all_of {l : PySem.W.OpenLaw} {w : World} {K : PySem.W.Frag} {h : Heap} {mg : Str → Option Value} {fa : Addr} (X : K.In h) (G : h.Ns mainGlobals mg) (hfa : mg "law" = some (.ref fa))
    {c_Answer : Addr} {c_Ballots : Addr} {c_Uneven : Addr} {c_Unbeaten : Addr} {c_Ring : Addr} {f1 : Addr} {od1 an1 : Option Addr} {sl1 : Array (Option Value)} {oc1 kV1 dc1 pm1 cd1 ct1 : Value} {f2 : Addr} {od2 an2 : Option Addr} {sl2 : Array (Option Value)} {oc2 kV2 dc2 pm2 cd2 ct2 : Value} {f3 : Addr} {od3 an3 : Option Addr} {sl3 : Array (Option Value)} {oc3 kV3 dc3 pm3 cd3 ct3 : Value} {f4 : Addr} {od4 an4 : Option Addr} {sl4 : Array (Option Value)} {oc4 kV4 dc4 pm4 cd4 ct4 : Value} {f5 : Addr} {od5 an5 : Option Addr} {sl5 : Array (Option Value)} {oc5 kV5 dc5 pm5 cd5 ct5 : Value} {f6 : Addr} {od6 an6 : Option Addr} {sl6 : Array (Option Value)} {oc6 kV6 dc6 pm6 cd6 ct6 : Value} {f7 : Addr} {od7 an7 : Option Addr} {sl7 : Array (Option Value)} {oc7 kV7 dc7 pm7 cd7 ct7 : Value} {f8 : Addr} {od8 an8 : Option Addr} {sl8 : Array (Option Value)} {oc8 kV8 dc8 pm8 cd8 ct8 : Value} {f9 : Addr} {od9 an9 : Option Addr} {sl9 : Array (Option Value)} {oc9 kV9 dc9 pm9 cd9 ct9 : Value} {f10 : Addr} {od10 an10 : Option Addr} {sl10 : Array (Option Value)} {oc10 kV10 dc10 pm10 cd10 ct10 : Value} {f11 : Addr} {od11 an11 : Option Addr} {sl11 : Array (Option Value)} {oc11 kV11 dc11 pm11 cd11 ct11 : Value} {f12 : Addr} {od12 an12 : Option Addr} {sl12 : Array (Option Value)} {oc12 kV12 dc12 pm12 cd12 ct12 : Value} {f13 : Addr} {od13 an13 : Option Addr} {sl13 : Array (Option Value)} {oc13 kV13 dc13 pm13 cd13 ct13 : Value} {f14 : Addr} {od14 an14 : Option Addr} {sl14 : Array (Option Value)} {oc14 kV14 dc14 pm14 cd14 ct14 : Value} {f15 : Addr} {od15 an15 : Option Addr} {sl15 : Array (Option Value)} {oc15 kV15 dc15 pm15 cd15 ct15 : Value} {f16 : Addr} {od16 an16 : Option Addr} {sl16 : Array (Option Value)} {oc16 kV16 dc16 pm16 cd16 ct16 : Value} {f17 : Addr} {od17 an17 : Option Addr} {sl17 : Array (Option Value)} {oc17 kV17 dc17 pm17 cd17 ct17 : Value} {f18 : Addr} {od18 an18 : Option Addr} {sl18 : Array (Option Value)} {oc18 kV18 dc18 pm18 cd18 ct18 : Value} {f19 : Addr} {od19 an19 : Option Addr} {sl19 : Array (Option Value)} {oc19 kV19 dc19 pm19 cd19 ct19 : Value} {f20 : Addr} {od20 an20 : Option Addr} {sl20 : Array (Option Value)} {oc20 kV20 dc20 pm20 cd20 ct20 : Value} {f21 : Addr} {od21 an21 : Option Addr} {sl21 : Array (Option Value)} {oc21 kV21 dc21 pm21 ct21 : Value} {cc pt : Addr} {f22 : Addr} {od22 an22 : Option Addr} {sl22 : Array (Option Value)} {oc22 kV22 dc22 pm22 cd22 ct22 : Value} {f23 : Addr} {od23 an23 : Option Addr} {sl23 : Array (Option Value)} {oc23 kV23 dc23 pm23 cd23 ct23 : Value} {t_MOST : Nat}
    (tb : h.get? pt = some { cls := .none, data := .fields #[] })
    (q_Answer : PySem.W.nsIn K mainGlobals "Answer" = some (some (.ref c_Answer)))
    (q_Ballots : PySem.W.nsIn K mainGlobals "Ballots" = some (some (.ref c_Ballots)))
    (q_Uneven : PySem.W.nsIn K mainGlobals "Uneven" = some (some (.ref c_Uneven)))
    (q_Unbeaten : PySem.W.nsIn K mainGlobals "Unbeaten" = some (some (.ref c_Unbeaten)))
    (q_Ring : PySem.W.nsIn K mainGlobals "Ring" = some (some (.ref c_Ring)))
    (a1 : PySem.W.nsIn K mainGlobals "is_number" = some (some (.ref f1)))
    (l1 : K.lookup f1 = some ⟨oc1, od1, .func (PySem.W.fnOf "is_number" "is_number" (defArgs s_is_number) (defBody s_is_number) (defScope s_is_number) .none kV1 dc1 pm1 an1 cd1 ct1), sl1⟩)
    (e1 : PySem.W.codeIn K cd1 "is_number" = true)
    (k1 : PySem.W.keepIn K (.ref f1) = true)
    (a2 : PySem.W.nsIn K mainGlobals "are_ballots" = some (some (.ref f2)))
    (l2 : K.lookup f2 = some ⟨oc2, od2, .func (PySem.W.fnOf "are_ballots" "are_ballots" (defArgs s_are_ballots) (defBody s_are_ballots) (defScope s_are_ballots) .none kV2 dc2 pm2 an2 cd2 ct2), sl2⟩)
    (e2 : PySem.W.codeIn K cd2 "are_ballots" = true)
    (k2 : PySem.W.keepIn K (.ref f2) = true)
    (a3 : PySem.W.nsIn K mainGlobals "asked_table" = some (some (.ref f3)))
    (l3 : K.lookup f3 = some ⟨oc3, od3, .func (PySem.W.fnOf "asked_table" "asked_table" (defArgs s_asked_table) (defBody s_asked_table) (defScope s_asked_table) .none kV3 dc3 pm3 an3 cd3 ct3), sl3⟩)
    (e3 : PySem.W.codeIn K cd3 "asked_table" = true)
    (k3 : PySem.W.keepIn K (.ref f3) = true)
    (a4 : PySem.W.nsIn K mainGlobals "count_of" = some (some (.ref f4)))
    (l4 : K.lookup f4 = some ⟨oc4, od4, .func (PySem.W.fnOf "count_of" "count_of" (defArgs s_count_of) (defBody s_count_of) (defScope s_count_of) .none kV4 dc4 pm4 an4 cd4 ct4), sl4⟩)
    (e4 : PySem.W.codeIn K cd4 "count_of" = true)
    (k4 : PySem.W.keepIn K (.ref f4) = true)
    (a5 : PySem.W.nsIn K mainGlobals "is_pair" = some (some (.ref f5)))
    (l5 : K.lookup f5 = some ⟨oc5, od5, .func (PySem.W.fnOf "is_pair" "is_pair" (defArgs s_is_pair) (defBody s_is_pair) (defScope s_is_pair) .none kV5 dc5 pm5 an5 cd5 ct5), sl5⟩)
    (e5 : PySem.W.codeIn K cd5 "is_pair" = true)
    (k5 : PySem.W.keepIn K (.ref f5) = true)
    (a6 : PySem.W.findIn K (.ref c_Ballots) "__init__" = some (some (.ref f6)))
    (i6 : PySem.W.isFn K (.ref f6) = true)
    (l6 : K.lookup f6 = some ⟨oc6, od6, .func (PySem.W.fnOf "__init__" "Ballots.__init__" (defArgs s_Ballots__init) (defBody s_Ballots__init) (defScope s_Ballots__init) .none kV6 dc6 pm6 an6 cd6 ct6), sl6⟩)
    (e6 : PySem.W.codeIn K cd6 "Ballots.__init__" = true)
    (k6 : PySem.W.keepIn K (.ref f6) = true)
    (a7 : PySem.W.findIn K (.ref c_Ballots) "shows" = some (some (.ref f7)))
    (i7 : PySem.W.isFn K (.ref f7) = true)
    (l7 : K.lookup f7 = some ⟨oc7, od7, .func (PySem.W.fnOf "shows" "Ballots.shows" (defArgs s_Ballots_shows) (defBody s_Ballots_shows) (defScope s_Ballots_shows) .none kV7 dc7 pm7 an7 cd7 ct7), sl7⟩)
    (e7 : PySem.W.codeIn K cd7 "Ballots.shows" = true)
    (k7 : PySem.W.keepIn K (.ref f7) = true)
    (a8 : PySem.W.findIn K (.ref c_Uneven) "__init__" = some (some (.ref f8)))
    (i8 : PySem.W.isFn K (.ref f8) = true)
    (l8 : K.lookup f8 = some ⟨oc8, od8, .func (PySem.W.fnOf "__init__" "Uneven.__init__" (defArgs s_Uneven__init) (defBody s_Uneven__init) (defScope s_Uneven__init) .none kV8 dc8 pm8 an8 cd8 ct8), sl8⟩)
    (e8 : PySem.W.codeIn K cd8 "Uneven.__init__" = true)
    (k8 : PySem.W.keepIn K (.ref f8) = true)
    (a9 : PySem.W.findIn K (.ref c_Uneven) "shows" = some (some (.ref f9)))
    (i9 : PySem.W.isFn K (.ref f9) = true)
    (l9 : K.lookup f9 = some ⟨oc9, od9, .func (PySem.W.fnOf "shows" "Uneven.shows" (defArgs s_Uneven_shows) (defBody s_Uneven_shows) (defScope s_Uneven_shows) .none kV9 dc9 pm9 an9 cd9 ct9), sl9⟩)
    (e9 : PySem.W.codeIn K cd9 "Uneven.shows" = true)
    (k9 : PySem.W.keepIn K (.ref f9) = true)
    (a10 : PySem.W.findIn K (.ref c_Unbeaten) "__init__" = some (some (.ref f10)))
    (i10 : PySem.W.isFn K (.ref f10) = true)
    (l10 : K.lookup f10 = some ⟨oc10, od10, .func (PySem.W.fnOf "__init__" "Unbeaten.__init__" (defArgs s_Unbeaten__init) (defBody s_Unbeaten__init) (defScope s_Unbeaten__init) .none kV10 dc10 pm10 an10 cd10 ct10), sl10⟩)
    (e10 : PySem.W.codeIn K cd10 "Unbeaten.__init__" = true)
    (k10 : PySem.W.keepIn K (.ref f10) = true)
    (a11 : PySem.W.findIn K (.ref c_Unbeaten) "shows" = some (some (.ref f11)))
    (i11 : PySem.W.isFn K (.ref f11) = true)
    (l11 : K.lookup f11 = some ⟨oc11, od11, .func (PySem.W.fnOf "shows" "Unbeaten.shows" (defArgs s_Unbeaten_shows) (defBody s_Unbeaten_shows) (defScope s_Unbeaten_shows) .none kV11 dc11 pm11 an11 cd11 ct11), sl11⟩)
    (e11 : PySem.W.codeIn K cd11 "Unbeaten.shows" = true)
    (k11 : PySem.W.keepIn K (.ref f11) = true)
    (a12 : PySem.W.findIn K (.ref c_Ring) "__init__" = some (some (.ref f12)))
    (i12 : PySem.W.isFn K (.ref f12) = true)
    (l12 : K.lookup f12 = some ⟨oc12, od12, .func (PySem.W.fnOf "__init__" "Ring.__init__" (defArgs s_Ring__init) (defBody s_Ring__init) (defScope s_Ring__init) .none kV12 dc12 pm12 an12 cd12 ct12), sl12⟩)
    (e12 : PySem.W.codeIn K cd12 "Ring.__init__" = true)
    (k12 : PySem.W.keepIn K (.ref f12) = true)
    (a13 : PySem.W.findIn K (.ref c_Ring) "shows" = some (some (.ref f13)))
    (i13 : PySem.W.isFn K (.ref f13) = true)
    (l13 : K.lookup f13 = some ⟨oc13, od13, .func (PySem.W.fnOf "shows" "Ring.shows" (defArgs s_Ring_shows) (defBody s_Ring_shows) (defScope s_Ring_shows) .none kV13 dc13 pm13 an13 cd13 ct13), sl13⟩)
    (e13 : PySem.W.codeIn K cd13 "Ring.shows" = true)
    (k13 : PySem.W.keepIn K (.ref f13) = true)
    (a14 : PySem.W.nsIn K mainGlobals "foremost" = some (some (.ref f14)))
    (l14 : K.lookup f14 = some ⟨oc14, od14, .func (PySem.W.fnOf "foremost" "foremost" (defArgs s_foremost) (defBody s_foremost) (defScope s_foremost) .none kV14 dc14 pm14 an14 cd14 ct14), sl14⟩)
    (e14 : PySem.W.codeIn K cd14 "foremost" = true)
    (k14 : PySem.W.keepIn K (.ref f14) = true)
    (a15 : PySem.W.nsIn K mainGlobals "tops" = some (some (.ref f15)))
    (l15 : K.lookup f15 = some ⟨oc15, od15, .func (PySem.W.fnOf "tops" "tops" (defArgs s_tops) (defBody s_tops) (defScope s_tops) .none kV15 dc15 pm15 an15 cd15 ct15), sl15⟩)
    (e15 : PySem.W.codeIn K cd15 "tops" = true)
    (k15 : PySem.W.keepIn K (.ref f15) = true)
    (a16 : PySem.W.nsIn K mainGlobals "_law_number" = some (some (.ref f16)))
    (l16 : K.lookup f16 = some ⟨oc16, od16, .func (PySem.W.fnOf "_law_number" "_law_number" (defArgs s_law_number) (defBody s_law_number) (defScope s_law_number) .none kV16 dc16 pm16 an16 cd16 ct16), sl16⟩)
    (e16 : PySem.W.codeIn K cd16 "_law_number" = true)
    (k16 : PySem.W.keepIn K (.ref f16) = true)
    (a17 : PySem.W.nsIn K mainGlobals "_law_table" = some (some (.ref f17)))
    (l17 : K.lookup f17 = some ⟨oc17, od17, .func (PySem.W.fnOf "_law_table" "_law_table" (defArgs s_law_table) (defBody s_law_table) (defScope s_law_table) .none kV17 dc17 pm17 an17 cd17 ct17), sl17⟩)
    (e17 : PySem.W.codeIn K cd17 "_law_table" = true)
    (k17 : PySem.W.keepIn K (.ref f17) = true)
    (a18 : PySem.W.nsIn K mainGlobals "_law_ballots" = some (some (.ref f18)))
    (l18 : K.lookup f18 = some ⟨oc18, od18, .func (PySem.W.fnOf "_law_ballots" "_law_ballots" (defArgs s_law_ballots) (defBody s_law_ballots) (defScope s_law_ballots) .none kV18 dc18 pm18 an18 cd18 ct18), sl18⟩)
    (e18 : PySem.W.codeIn K cd18 "_law_ballots" = true)
    (k18 : PySem.W.keepIn K (.ref f18) = true)
    (a19 : PySem.W.nsIn K mainGlobals "_law_count" = some (some (.ref f19)))
    (l19 : K.lookup f19 = some ⟨oc19, od19, .func (PySem.W.fnOf "_law_count" "_law_count" (defArgs s_law_count) (defBody s_law_count) (defScope s_law_count) .none kV19 dc19 pm19 an19 cd19 ct19), sl19⟩)
    (e19 : PySem.W.codeIn K cd19 "_law_count" = true)
    (k19 : PySem.W.keepIn K (.ref f19) = true)
    (a20 : PySem.W.nsIn K mainGlobals "_law_due" = some (some (.ref f20)))
    (l20 : K.lookup f20 = some ⟨oc20, od20, .func (PySem.W.fnOf "_law_due" "_law_due" (defArgs s_law_due) (defBody s_law_due) (defScope s_law_due) .none kV20 dc20 pm20 an20 cd20 ct20), sl20⟩)
    (e20 : PySem.W.codeIn K cd20 "_law_due" = true)
    (k20 : PySem.W.keepIn K (.ref f20) = true)
    (a21 : PySem.W.nsIn K mainGlobals "_law_tops" = some (some (.ref f21)))
    (l21 : K.lookup f21 = some ⟨oc21, od21, .func (PySem.W.fnOf "_law_tops" "_law_tops" (defArgs s_law_tops) (defBody s_law_tops) (defScope s_law_tops) .none kV21 dc21 pm21 an21 (.ref cc) ct21), sl21⟩)
    (e21 : PySem.W.codeIn K (.ref cc) "_law_tops" = true)
    (nT : K.lookup pt = none)
    (hC : PySem.W.codeHdIn K cc pt = true)
    (k21 : PySem.W.keepIn K (.ref f21) = true)
    (a22 : PySem.W.nsIn K mainGlobals "_law_right" = some (some (.ref f22)))
    (l22 : K.lookup f22 = some ⟨oc22, od22, .func (PySem.W.fnOf "_law_right" "_law_right" (defArgs s_law_right) (defBody s_law_right) (defScope s_law_right) .none kV22 dc22 pm22 an22 cd22 ct22), sl22⟩)
    (e22 : PySem.W.codeIn K cd22 "_law_right" = true)
    (k22 : PySem.W.keepIn K (.ref f22) = true)
    (a23 : PySem.W.nsIn K mainGlobals "law" = some (some (.ref f23)))
    (l23 : K.lookup f23 = some ⟨oc23, od23, .func (PySem.W.fnOf "law" "law" (defArgs s_law) (defBody s_law) (defScope s_law) .none kV23 dc23 pm23 an23 cd23 ct23), sl23⟩)
    (e23 : PySem.W.codeIn K cd23 "law" = true)
    (k23 : PySem.W.keepIn K (.ref f23) = true)
    (qhn : PySem.W.specialIn K (.builtin "object.__class__") "__get__" = some (some (.builtin "getset_descriptor.__get__")))
    (qht : PySem.W.takesIn K (.builtin "object.__class__") = some true)
    (pg_Ballots : PySem.W.plainGet K c_Ballots Str.empty = true)
    (hd_Ballots : PySem.W.hasDictIn K c_Ballots = true)
    (po_Ballots : PySem.W.plainOver K c_Ballots = true)
    (sa_Ballots : PySem.W.findIn K (.ref c_Ballots) "__setattr__" = some (some (.builtin "object.__setattr__")))
    (ha_Ballots : PySem.W.findIn K (.ref c_Ballots) "__class__" = some (some (.builtin "object.__class__")))
    (hm_Ballots : PySem.W.mroIn K c_Ballots (.type "object") = some true)
    (mk_Ballots : PySem.W.makesIn K c_Ballots = true)
    (kc_Ballots : PySem.W.keepIn K (.ref c_Ballots) = true)
    (n_Ballots_ballots : PySem.W.findIn K (.ref c_Ballots) "ballots" = some none)
    (k_Ballots_Answer : PySem.W.kitOne K (.ref c_Ballots) (.ref c_Answer) = some true)
    (k_Ballots_Ballots : PySem.W.kitOne K (.ref c_Ballots) (.ref c_Ballots) = some true)
    (k_Ballots_Uneven : PySem.W.kitOne K (.ref c_Ballots) (.ref c_Uneven) = some false)
    (k_Ballots_Unbeaten : PySem.W.kitOne K (.ref c_Ballots) (.ref c_Unbeaten) = some false)
    (k_Ballots_Ring : PySem.W.kitOne K (.ref c_Ballots) (.ref c_Ring) = some false)
    (pg_Uneven : PySem.W.plainGet K c_Uneven Str.empty = true)
    (hd_Uneven : PySem.W.hasDictIn K c_Uneven = true)
    (po_Uneven : PySem.W.plainOver K c_Uneven = true)
    (sa_Uneven : PySem.W.findIn K (.ref c_Uneven) "__setattr__" = some (some (.builtin "object.__setattr__")))
    (ha_Uneven : PySem.W.findIn K (.ref c_Uneven) "__class__" = some (some (.builtin "object.__class__")))
    (hm_Uneven : PySem.W.mroIn K c_Uneven (.type "object") = some true)
    (mk_Uneven : PySem.W.makesIn K c_Uneven = true)
    (kc_Uneven : PySem.W.keepIn K (.ref c_Uneven) = true)
    (n_Uneven_one : PySem.W.findIn K (.ref c_Uneven) "one" = some none)
    (n_Uneven_other : PySem.W.findIn K (.ref c_Uneven) "other" = some none)
    (k_Uneven_Answer : PySem.W.kitOne K (.ref c_Uneven) (.ref c_Answer) = some true)
    (k_Uneven_Ballots : PySem.W.kitOne K (.ref c_Uneven) (.ref c_Ballots) = some false)
    (k_Uneven_Uneven : PySem.W.kitOne K (.ref c_Uneven) (.ref c_Uneven) = some true)
    (k_Uneven_Unbeaten : PySem.W.kitOne K (.ref c_Uneven) (.ref c_Unbeaten) = some false)
    (k_Uneven_Ring : PySem.W.kitOne K (.ref c_Uneven) (.ref c_Ring) = some false)
    (pg_Unbeaten : PySem.W.plainGet K c_Unbeaten Str.empty = true)
    (hd_Unbeaten : PySem.W.hasDictIn K c_Unbeaten = true)
    (po_Unbeaten : PySem.W.plainOver K c_Unbeaten = true)
    (sa_Unbeaten : PySem.W.findIn K (.ref c_Unbeaten) "__setattr__" = some (some (.builtin "object.__setattr__")))
    (ha_Unbeaten : PySem.W.findIn K (.ref c_Unbeaten) "__class__" = some (some (.builtin "object.__class__")))
    (hm_Unbeaten : PySem.W.mroIn K c_Unbeaten (.type "object") = some true)
    (mk_Unbeaten : PySem.W.makesIn K c_Unbeaten = true)
    (kc_Unbeaten : PySem.W.keepIn K (.ref c_Unbeaten) = true)
    (n_Unbeaten_who : PySem.W.findIn K (.ref c_Unbeaten) "who" = some none)
    (k_Unbeaten_Answer : PySem.W.kitOne K (.ref c_Unbeaten) (.ref c_Answer) = some true)
    (k_Unbeaten_Ballots : PySem.W.kitOne K (.ref c_Unbeaten) (.ref c_Ballots) = some false)
    (k_Unbeaten_Uneven : PySem.W.kitOne K (.ref c_Unbeaten) (.ref c_Uneven) = some false)
    (k_Unbeaten_Unbeaten : PySem.W.kitOne K (.ref c_Unbeaten) (.ref c_Unbeaten) = some true)
    (k_Unbeaten_Ring : PySem.W.kitOne K (.ref c_Unbeaten) (.ref c_Ring) = some false)
    (pg_Ring : PySem.W.plainGet K c_Ring Str.empty = true)
    (hd_Ring : PySem.W.hasDictIn K c_Ring = true)
    (po_Ring : PySem.W.plainOver K c_Ring = true)
    (sa_Ring : PySem.W.findIn K (.ref c_Ring) "__setattr__" = some (some (.builtin "object.__setattr__")))
    (ha_Ring : PySem.W.findIn K (.ref c_Ring) "__class__" = some (some (.builtin "object.__class__")))
    (hm_Ring : PySem.W.mroIn K c_Ring (.type "object") = some true)
    (mk_Ring : PySem.W.makesIn K c_Ring = true)
    (kc_Ring : PySem.W.keepIn K (.ref c_Ring) = true)
    (n_Ring_way : PySem.W.findIn K (.ref c_Ring) "way" = some none)
    (k_Ring_Answer : PySem.W.kitOne K (.ref c_Ring) (.ref c_Answer) = some true)
    (k_Ring_Ballots : PySem.W.kitOne K (.ref c_Ring) (.ref c_Ballots) = some false)
    (k_Ring_Uneven : PySem.W.kitOne K (.ref c_Ring) (.ref c_Uneven) = some false)
    (k_Ring_Unbeaten : PySem.W.kitOne K (.ref c_Ring) (.ref c_Unbeaten) = some false)
    (k_Ring_Ring : PySem.W.kitOne K (.ref c_Ring) (.ref c_Ring) = some true)
    (a_MOST : PySem.W.nsIn K mainGlobals "MOST" = some (some (.int 20 t_MOST)))
    (z_all : PySem.W.nsIn K mainGlobals "all" = some none)
    (z_any : PySem.W.nsIn K mainGlobals "any" = some none)
    (z_bool : PySem.W.nsIn K mainGlobals "bool" = some none)
    (z_enumerate : PySem.W.nsIn K mainGlobals "enumerate" = some none)
    (z_int : PySem.W.nsIn K mainGlobals "int" = some none)
    (z_isinstance : PySem.W.nsIn K mainGlobals "isinstance" = some none)
    (z_len : PySem.W.nsIn K mainGlobals "len" = some none)
    (z_list : PySem.W.nsIn K mainGlobals "list" = some none)
    (z_max : PySem.W.nsIn K mainGlobals "max" = some none)
    (z_min : PySem.W.nsIn K mainGlobals "min" = some none)
    (z_range : PySem.W.nsIn K mainGlobals "range" = some none)
    (z_set : PySem.W.nsIn K mainGlobals "set" = some none)
    (z_sorted : PySem.W.nsIn K mainGlobals "sorted" = some none)
    (z_sum : PySem.W.nsIn K mainGlobals "sum" = some none)
    (z_tuple : PySem.W.nsIn K mainGlobals "tuple" = some none)
    (z_zip : PySem.W.nsIn K mainGlobals "zip" = some none) :
    LamX.LawAtS l w K CX0 6 63 "_law_script" mg fa h :=
  law_of X hfa tb nT hC (tx_of X G q_Answer q_Ballots q_Uneven q_Unbeaten q_Ring a1 l1 e1 k1 a2 l2 e2 k2 a3 l3 e3 k3 a4 l4 e4 k4 a5 l5 e5 k5 a6 i6 l6 e6 k6 a7 i7 l7 e7 k7 a8 i8 l8 e8 k8 a9 i9 l9 e9 k9 a10 i10 l10 e10 k10 a11 i11 l11 e11 k11 a12 i12 l12 e12 k12 a13 i13 l13 e13 k13 a14 l14 e14 k14 a15 l15 e15 k15 a16 l16 e16 k16 a17 l17 e17 k17 a18 l18 e18 k18 a19 l19 e19 k19 a20 l20 e20 k20 a21 l21 e21 nT hC k21 a22 l22 e22 k22 a23 l23 e23 k23 qhn qht pg_Ballots hd_Ballots po_Ballots sa_Ballots ha_Ballots hm_Ballots mk_Ballots kc_Ballots n_Ballots_ballots k_Ballots_Answer k_Ballots_Ballots k_Ballots_Uneven k_Ballots_Unbeaten k_Ballots_Ring pg_Uneven hd_Uneven po_Uneven sa_Uneven ha_Uneven hm_Uneven mk_Uneven kc_Uneven n_Uneven_one n_Uneven_other k_Uneven_Answer k_Uneven_Ballots k_Uneven_Uneven k_Uneven_Unbeaten k_Uneven_Ring pg_Unbeaten hd_Unbeaten po_Unbeaten sa_Unbeaten ha_Unbeaten hm_Unbeaten mk_Unbeaten kc_Unbeaten n_Unbeaten_who k_Unbeaten_Answer k_Unbeaten_Ballots k_Unbeaten_Uneven k_Unbeaten_Unbeaten k_Unbeaten_Ring pg_Ring hd_Ring po_Ring sa_Ring ha_Ring hm_Ring mk_Ring kc_Ring n_Ring_way k_Ring_Answer k_Ring_Ballots k_Ring_Uneven k_Ring_Unbeaten k_Ring_Ring a_MOST z_all z_any z_bool z_enumerate z_int z_isinstance z_len z_list z_max z_min z_range z_set z_sorted z_sum z_tuple z_zip)
end Hc
open PySem PySem.W PyProof.Rows
set_option maxHeartbeats 0 in
theorem PySem.Challenge.cw_headcounts_k03_whole_foremost_holds : PySem.Challenge.rw_headcounts_k03_whole_foremost.Holds := by
  w_on; o_law; k_head; (case hw => w_witness2)
  k_fill
  refine LamX.walk_ofTsE (l := PySem.Challenge.rw_headcounts_k03_whole_foremost) (n := 63) (k := 6) (x := "_law_script") (CX := fun _ => L2.CX0) rfl (by decide) rfl ⟨rfl, by decide, by decide⟩ ?F (fun _ _ _ _ _ h => h)
  case F =>
    intro w mg fa h Y G hmg
    refine ⟨_, PySem.W.km_in_of Y, ?_⟩
    refine' Hc.all_of (PySem.W.km_in_of Y) G hmg (PySem.W.km_tabs_of Y _ (List.mem_singleton.mpr rfl)) ?q_Answer ?q_Ballots ?q_Uneven ?q_Unbeaten ?q_Ring ?a1 ?l1 ?e1 ?k1 ?a2 ?l2 ?e2 ?k2 ?a3 ?l3 ?e3 ?k3 ?a4 ?l4 ?e4 ?k4 ?a5 ?l5 ?e5 ?k5 ?a6 ?i6 ?l6 ?e6 ?k6 ?a7 ?i7 ?l7 ?e7 ?k7 ?a8 ?i8 ?l8 ?e8 ?k8 ?a9 ?i9 ?l9 ?e9 ?k9 ?a10 ?i10 ?l10 ?e10 ?k10 ?a11 ?i11 ?l11 ?e11 ?k11 ?a12 ?i12 ?l12 ?e12 ?k12 ?a13 ?i13 ?l13 ?e13 ?k13 ?a14 ?l14 ?e14 ?k14 ?a15 ?l15 ?e15 ?k15 ?a16 ?l16 ?e16 ?k16 ?a17 ?l17 ?e17 ?k17 ?a18 ?l18 ?e18 ?k18 ?a19 ?l19 ?e19 ?k19 ?a20 ?l20 ?e20 ?k20 ?a21 ?l21 ?e21 ?nT ?hC ?k21 ?a22 ?l22 ?e22 ?k22 ?a23 ?l23 ?e23 ?k23 ?qhn ?qht ?pg_Ballots ?hd_Ballots ?po_Ballots ?sa_Ballots ?ha_Ballots ?hm_Ballots ?mk_Ballots ?kc_Ballots ?n_Ballots_ballots ?k_Ballots_Answer ?k_Ballots_Ballots ?k_Ballots_Uneven ?k_Ballots_Unbeaten ?k_Ballots_Ring ?pg_Uneven ?hd_Uneven ?po_Uneven ?sa_Uneven ?ha_Uneven ?hm_Uneven ?mk_Uneven ?kc_Uneven ?n_Uneven_one ?n_Uneven_other ?k_Uneven_Answer ?k_Uneven_Ballots ?k_Uneven_Uneven ?k_Uneven_Unbeaten ?k_Uneven_Ring ?pg_Unbeaten ?hd_Unbeaten ?po_Unbeaten ?sa_Unbeaten ?ha_Unbeaten ?hm_Unbeaten ?mk_Unbeaten ?kc_Unbeaten ?n_Unbeaten_who ?k_Unbeaten_Answer ?k_Unbeaten_Ballots ?k_Unbeaten_Uneven ?k_Unbeaten_Unbeaten ?k_Unbeaten_Ring ?pg_Ring ?hd_Ring ?po_Ring ?sa_Ring ?ha_Ring ?hm_Ring ?mk_Ring ?kc_Ring ?n_Ring_way ?k_Ring_Answer ?k_Ring_Ballots ?k_Ring_Uneven ?k_Ring_Unbeaten ?k_Ring_Ring ?a_MOST ?z_all ?z_any ?z_bool ?z_enumerate ?z_int ?z_isinstance ?z_len ?z_list ?z_max ?z_min ?z_range ?z_set ?z_sorted ?z_sum ?z_tuple ?z_zip
    (case q_Answer => k_is); (case q_Ballots => k_is); (case q_Uneven => k_is); (case q_Unbeaten => k_is); (case q_Ring => k_is); (case a1 => k_is); (case l1 => k_is); (case e1 => k_is); (case k1 => k_is); (case a2 => k_is); (case l2 => k_is); (case e2 => k_is); (case k2 => k_is); (case a3 => k_is); (case l3 => k_is); (case e3 => k_is); (case k3 => k_is); (case a4 => k_is); (case l4 => k_is); (case e4 => k_is); (case k4 => k_is); (case a5 => k_is); (case l5 => k_is); (case e5 => k_is); (case k5 => k_is); (case a6 => k_is); (case i6 => k_is); (case l6 => k_is); (case e6 => k_is); (case k6 => k_is); (case a7 => k_is); (case i7 => k_is); (case l7 => k_is); (case e7 => k_is); (case k7 => k_is); (case a8 => k_is); (case i8 => k_is); (case l8 => k_is); (case e8 => k_is); (case k8 => k_is); (case a9 => k_is); (case i9 => k_is); (case l9 => k_is); (case e9 => k_is); (case k9 => k_is); (case a10 => k_is); (case i10 => k_is); (case l10 => k_is); (case e10 => k_is); (case k10 => k_is); (case a11 => k_is); (case i11 => k_is); (case l11 => k_is); (case e11 => k_is); (case k11 => k_is); (case a12 => k_is); (case i12 => k_is); (case l12 => k_is); (case e12 => k_is); (case k12 => k_is); (case a13 => k_is); (case i13 => k_is); (case l13 => k_is); (case e13 => k_is); (case k13 => k_is); (case a14 => k_is); (case l14 => k_is); (case e14 => k_is); (case k14 => k_is); (case a15 => k_is); (case l15 => k_is); (case e15 => k_is); (case k15 => k_is); (case a16 => k_is); (case l16 => k_is); (case e16 => k_is); (case k16 => k_is); (case a17 => k_is); (case l17 => k_is); (case e17 => k_is); (case k17 => k_is); (case a18 => k_is); (case l18 => k_is); (case e18 => k_is); (case k18 => k_is); (case a19 => k_is); (case l19 => k_is); (case e19 => k_is); (case k19 => k_is); (case a20 => k_is); (case l20 => k_is); (case e20 => k_is); (case k20 => k_is); (case a21 => k_is); (case l21 => k_is); (case e21 => k_is); (case nT => kernel_rfl); (case hC => kernel_rfl); (case k21 => k_is); (case a22 => k_is); (case l22 => k_is); (case e22 => k_is); (case k22 => k_is); (case a23 => k_is); (case l23 => k_is); (case e23 => k_is); (case k23 => k_is); (case qhn => k_is); (case qht => k_is); (case pg_Ballots => k_is); (case hd_Ballots => k_is); (case po_Ballots => k_is); (case sa_Ballots => k_is); (case ha_Ballots => k_is); (case hm_Ballots => k_is); (case mk_Ballots => k_is); (case kc_Ballots => k_is); (case n_Ballots_ballots => k_is); (case k_Ballots_Answer => kit_is); (case k_Ballots_Ballots => kit_is); (case k_Ballots_Uneven => kit_is); (case k_Ballots_Unbeaten => kit_is); (case k_Ballots_Ring => kit_is); (case pg_Uneven => k_is); (case hd_Uneven => k_is); (case po_Uneven => k_is); (case sa_Uneven => k_is); (case ha_Uneven => k_is); (case hm_Uneven => k_is); (case mk_Uneven => k_is); (case kc_Uneven => k_is); (case n_Uneven_one => k_is); (case n_Uneven_other => k_is); (case k_Uneven_Answer => kit_is); (case k_Uneven_Ballots => kit_is); (case k_Uneven_Uneven => kit_is); (case k_Uneven_Unbeaten => kit_is); (case k_Uneven_Ring => kit_is); (case pg_Unbeaten => k_is); (case hd_Unbeaten => k_is); (case po_Unbeaten => k_is); (case sa_Unbeaten => k_is); (case ha_Unbeaten => k_is); (case hm_Unbeaten => k_is); (case mk_Unbeaten => k_is); (case kc_Unbeaten => k_is); (case n_Unbeaten_who => k_is); (case k_Unbeaten_Answer => kit_is); (case k_Unbeaten_Ballots => kit_is); (case k_Unbeaten_Uneven => kit_is); (case k_Unbeaten_Unbeaten => kit_is); (case k_Unbeaten_Ring => kit_is); (case pg_Ring => k_is); (case hd_Ring => k_is); (case po_Ring => k_is); (case sa_Ring => k_is); (case ha_Ring => k_is); (case hm_Ring => k_is); (case mk_Ring => k_is); (case kc_Ring => k_is); (case n_Ring_way => k_is); (case k_Ring_Answer => kit_is); (case k_Ring_Ballots => kit_is); (case k_Ring_Uneven => kit_is); (case k_Ring_Unbeaten => kit_is); (case k_Ring_Ring => kit_is); (case a_MOST => k_is); (case z_all => k_is); (case z_any => k_is); (case z_bool => k_is); (case z_enumerate => k_is); (case z_int => k_is); (case z_isinstance => k_is); (case z_len => k_is); (case z_list => k_is); (case z_max => k_is); (case z_min => k_is); (case z_range => k_is); (case z_set => k_is); (case z_sorted => k_is); (case z_sum => k_is); (case z_tuple => k_is); (case z_zip => k_is)
