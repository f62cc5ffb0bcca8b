import PyProof.Rows.All
import Wide.All
import OpenK.AllK
import Wide.FinOn
import HandS.Base
import HandS.Call
import HandS.List
import HandS.Comp
import HandS.Ends
import HandS.Dict
import HandS.Iter
import HandS.Words
import HandS.WordsList
import HandS.Conv
import HandS.Wide
import HandS.Evl
import HandS.Zip
import HandS.EndBits
import HandS.Walk
import HandS.IsInst
import HandS.Style
import HandS.SetFor
import HandS.Strs
import PySem.Challenge.RW_headcounts_k04_whole_strengths
set_option Elab.async false
set_option linter.all false
set_option maxRecDepth 100000
set_option maxHeartbeats 4000000
/-! Plain laws of counting: no program in sight. -/
namespace Hc

/-- what one pair (a ahead of b) adds to the cell (i, j) -/
def dlt (i j a b : Nat) : Int := (if a = i ∧ b = j then 1 else 0) - (if b = i ∧ a = j then 1 else 0)
def dsum (i j a : Nat) (l : List Nat) : Int := (l.map fun b => dlt i j a b).sum
def psum (i j : Nat) : List Nat → Int
  | [] => 0
  | a :: l => dsum i j a l + psum i j l
/-- the first p places taken as the one ahead -/
def psA (i j : Nat) : Nat → List Nat → Int
  | 0, _ => 0
  | _ + 1, [] => 0
  | p + 1, a :: l => dsum i j a l + psA i j p l
def cnt (bs : List (List Nat × Int)) (i j : Nat) : Int := (bs.map fun b => b.2 * psum i j b.1).sum

theorem dlt_swap (i j a b : Nat) : dlt i j b a = - dlt i j a b := by
  unfold dlt
  have e1 : (b = i ∧ a = j) ↔ (b = i ∧ a = j) := Iff.rfl
  by_cases h1 : a = i ∧ b = j <;> by_cases h2 : b = i ∧ a = j <;> simp [h1, h2] <;> omega
theorem dlt_neg (i j a b : Nat) : dlt j i a b = - dlt i j a b := by
  unfold dlt
  have e1 : (a = j ∧ b = i) ↔ (b = i ∧ a = j) := And.comm
  have e2 : (b = j ∧ a = i) ↔ (a = i ∧ b = j) := And.comm
  simp only [e1, e2]
  omega
theorem sum_append_int : ∀ (l m : List Int), (l ++ m).sum = l.sum + m.sum
  | [], m => by simp
  | a :: l, m => by rw [List.cons_append, List.sum_cons, List.sum_cons, sum_append_int l m]; omega
theorem dsum_append (i j a : Nat) (l m : List Nat) : dsum i j a (l ++ m) = dsum i j a l + dsum i j a m := by
  unfold dsum
  rw [List.map_append, sum_append_int]
theorem dsum_nil (i j a : Nat) : dsum i j a [] = 0 := rfl
theorem dsum_cons (i j a b : Nat) (l : List Nat) : dsum i j a (b :: l) = dlt i j a b + dsum i j a l := by
  unfold dsum
  rw [List.map_cons, List.sum_cons]
theorem dsum_one (i j a b : Nat) : dsum i j a [b] = dlt i j a b := by rw [dsum_cons, dsum_nil]; omega
theorem dsum_take_succ (i j a : Nat) (l : List Nat) (q : Nat) (x : Nat) (h : l[q]? = some x) : dsum i j a (l.take (q + 1)) = dsum i j a (l.take q) + dlt i j a x := by
  rw [List.take_add_one, h, dsum_append]
  show _ + dsum i j a [x] = _
  rw [dsum_one]
/-- the mirror image: those ahead of y -/
def esum (i j y : Nat) (l : List Nat) : Int := (l.map fun b => dlt i j b y).sum
theorem esum_append (i j a : Nat) (l m : List Nat) : esum i j a (l ++ m) = esum i j a l + esum i j a m := by
  unfold esum
  rw [List.map_append, sum_append_int]
theorem esum_cons (i j a b : Nat) (l : List Nat) : esum i j a (b :: l) = dlt i j b a + esum i j a l := by
  unfold esum
  rw [List.map_cons, List.sum_cons]
theorem esum_nil (i j a : Nat) : esum i j a [] = 0 := rfl
theorem esum_take_succ (i j a : Nat) (l : List Nat) (q : Nat) (x : Nat) (h : l[q]? = some x) : esum i j a (l.take (q + 1)) = esum i j a (l.take q) + dlt i j x a := by
  rw [List.take_add_one, h, esum_append]
  show _ + esum i j a [x] = _
  rw [esum_cons, esum_nil]
  omega
theorem esum_dsum (i j y : Nat) : ∀ l : List Nat, esum i j y l = - dsum i j y l
  | [] => rfl
  | a :: l => by rw [esum_cons, dsum_cons, esum_dsum i j y l, dlt_swap]; omega
theorem psum_snoc (i j y : Nat) : ∀ l : List Nat, psum i j (l ++ [y]) = psum i j l + esum i j y l
  | [] => by simp [psum, dsum, esum]
  | a :: l => by
    show dsum i j a (l ++ [y]) + psum i j (l ++ [y]) = dsum i j a l + psum i j l + esum i j y (a :: l)
    rw [psum_snoc i j y l, dsum_append, dsum_one, esum_cons]
    omega
theorem dsum_reverse (i j a : Nat) : ∀ l : List Nat, dsum i j a l.reverse = dsum i j a l
  | [] => rfl
  | b :: l => by rw [List.reverse_cons, dsum_append, dsum_reverse i j a l, dsum_one, dsum_cons]; omega
theorem psum_reverse (i j : Nat) : ∀ l : List Nat, psum i j l.reverse = - psum i j l
  | [] => rfl
  | a :: l => by
    rw [List.reverse_cons, psum_snoc, psum_reverse i j l, esum_dsum, dsum_reverse]
    show - psum i j l + - dsum i j a l = - (dsum i j a l + psum i j l)
    omega
theorem psum_swap (i j : Nat) : ∀ l : List Nat, psum j i l = - psum i j l
  | [] => rfl
  | a :: l => by
    show dsum j i a l + psum j i l = -(dsum i j a l + psum i j l)
    have e : dsum j i a l = - dsum i j a l := by
      induction l with
      | nil => rfl
      | cons b l ih => rw [dsum_cons, dsum_cons, ih, dlt_neg]; omega
    rw [e, psum_swap i j l]
    omega
theorem psA_succ (i j : Nat) : ∀ (p : Nat) (l : List Nat) (a : Nat), l[p]? = some a → psA i j (p + 1) l = psA i j p l + dsum i j a (l.drop (p + 1))
  | 0, [], _, h => by simp at h
  | 0, b :: l, a, h => by
    have e : b = a := by simpa using h
    subst e
    show dsum i j b l + psA i j 0 l = psA i j 0 (b :: l) + dsum i j b l
    show dsum i j b l + 0 = 0 + dsum i j b l
    omega
  | p + 1, [], _, h => by simp at h
  | p + 1, b :: l, a, h => by
    have h' : l[p]? = some a := by simpa using h
    show dsum i j b l + psA i j (p + 1) l = dsum i j b l + psA i j p l + dsum i j a (l.drop (p + 1))
    rw [psA_succ i j p l a h']
    omega
theorem psA_all (i j : Nat) : ∀ (l : List Nat), psA i j l.length l = psum i j l
  | [] => rfl
  | a :: l => by
    show dsum i j a l + psA i j l.length l = dsum i j a l + psum i j l
    rw [psA_all i j l]
/-- the first q places, each with those ahead of it -/
theorem psum_take_succ (i j : Nat) (l : List Nat) (q y : Nat) (h : l[q]? = some y) : psum i j (l.take (q + 1)) = psum i j (l.take q) + esum i j y (l.take q) := by
  rw [List.take_add_one, h]
  exact psum_snoc i j y (l.take q)

/-- a pair put into a table, two cells at once -/
theorem put_two (f : Nat → Nat → Int) (k m : Nat) (z : Int) (i j : Nat) : (if i = m ∧ j = k then (if m = k ∧ k = m then f k m + z else f m k) - z else if i = k ∧ j = m then f k m + z else f i j) = f i j + z * dlt i j k m := by
  unfold dlt
  by_cases h1 : i = m ∧ j = k
  · obtain ⟨rfl, rfl⟩ := h1
    by_cases h2 : i = j
    · subst h2
      simp
    · have h3 : ¬ j = i := fun e => h2 e.symm
      simp [h2, h3]
      omega
  · rw [if_neg h1]
    by_cases h2 : i = k ∧ j = m
    · obtain ⟨rfl, rfl⟩ := h2
      have h3 : ¬ (i = j) := fun e => h1 ⟨e, e.symm⟩
      have h4 : ¬ (j = i) := fun e => h3 e.symm
      simp [h3, h4]
    · have h3 : ¬ (k = i ∧ m = j) := fun e => h2 ⟨e.1.symm, e.2.symm⟩
      have h4 : ¬ (m = i ∧ k = j) := fun e => h1 ⟨e.1.symm, e.2.symm⟩
      rw [if_neg h2, if_neg h3, if_neg h4]
      simp
theorem cnt_nil (i j : Nat) : cnt [] i j = 0 := rfl
theorem cnt_append (bs cs : List (List Nat × Int)) (i j : Nat) : cnt (bs ++ cs) i j = cnt bs i j + cnt cs i j := by
  unfold cnt
  rw [List.map_append, sum_append_int]
theorem cnt_take_succ (bs : List (List Nat × Int)) (k : Nat) (b : List Nat × Int) (h : bs[k]? = some b) (i j : Nat) : cnt (bs.take (k + 1)) i j = cnt (bs.take k) i j + b.2 * psum i j b.1 := by
  rw [List.take_add_one, h, cnt_append]
  show _ + (b.2 * psum i j b.1 + 0) = _
  omega
theorem cnt_reverse (bs : List (List Nat × Int)) (i j : Nat) : cnt (bs.map fun b => (b.1.reverse, b.2)) i j = - cnt bs i j := by
  induction bs with
  | nil => rfl
  | cons b bs ih =>
    have e1 : cnt (b :: bs) i j = b.2 * psum i j b.1 + cnt bs i j := by unfold cnt; rw [List.map_cons, List.sum_cons]
    have e2 : cnt ((b :: bs).map fun b => (b.1.reverse, b.2)) i j = b.2 * psum i j b.1.reverse + cnt (bs.map fun b => (b.1.reverse, b.2)) i j := by unfold cnt; rw [List.map_cons, List.map_cons, List.sum_cons]
    rw [e1, e2, ih, psum_reverse, Int.mul_neg]
    omega
theorem cnt_swap (bs : List (List Nat × Int)) (i j : Nat) : cnt bs j i = - cnt bs i j := by
  induction bs with
  | nil => rfl
  | cons b bs ih =>
    have e1 : ∀ i j, cnt (b :: bs) i j = b.2 * psum i j b.1 + cnt bs i j := fun i j => by unfold cnt; rw [List.map_cons, List.sum_cons]
    rw [e1, e1, ih, psum_swap, Int.mul_neg]
    omega
theorem cnt_parts (bs : List (List Nat × Int)) (k i j : Nat) : cnt (bs.take k) i j + cnt (bs.drop k) i j = cnt bs i j := by
  rw [← cnt_append, List.take_append_drop]
end Hc

namespace Hc
open PySem PySem.Spec PyProof.Rows L2 Evl

theorem bt_int : bootBuiltins "int" = some (.type "int") := PyProof.Rows.boot_int
theorem bt_bool : bootBuiltins "bool" = some (.type "bool") := PyProof.Rows.boot_bool
theorem bt_list : bootBuiltins "list" = some (.type "list") := PyProof.Rows.boot_list
theorem bt_tuple : bootBuiltins "tuple" = some (.type "tuple") := PyProof.Rows.boot_tuple
theorem bt_set : bootBuiltins "set" = some (.type "set") := PyProof.Rows.boot_set
theorem bt_str : bootBuiltins "str" = some (.type "str") := PyProof.Rows.boot_str
/-- products of any two ints that the model multiplies -/
theorem op_mulG {X : Cx} : OpR X (binaryOp .Mult) (rI (fun i j => IntMulOk i j) fun i j => .int (i * j)) := opI fun _ _ _ _ _ _ _ hc q => mul_int q hc

/-! ### lists of ints, rows -/
def iv (ns : List Int) : List V := ns.map V.int
def nv (ks : List Nat) : List V := ks.map fun (k : Nat) => V.int (k : Int)
def rowV (n : Nat) (g : Nat → Int) : List V := (List.range n).map fun j => V.int (g j)
theorem nv_iv (ks : List Nat) : nv ks = iv (ks.map fun (k : Nat) => (k : Int)) := by
  unfold nv iv
  rw [List.map_map]
  rfl
theorem iv_length (ns : List Int) : (iv ns).length = ns.length := by unfold iv; rw [List.length_map]
theorem nv_length (ks : List Nat) : (nv ks).length = ks.length := by unfold nv; rw [List.length_map]
theorem rowV_length (n : Nat) (g : Nat → Int) : (rowV n g).length = n := by
  unfold rowV
  rw [List.length_map, List.length_range]
theorem rowV_get {n j : Nat} {g : Nat → Int} (h : j < n) : (rowV n g)[j]? = some (.int (g j)) := by
  unfold rowV
  rw [List.getElem?_map, List.getElem?_range h]
  rfl
theorem rowV_iv (n : Nat) (g : Nat → Int) : rowV n g = iv ((List.range n).map g) := by
  unfold rowV iv
  rw [List.map_map]
  rfl
theorem rowV_congr {n : Nat} {g g' : Nat → Int} (h : ∀ j, j < n → g j = g' j) : rowV n g = rowV n g' := by
  unfold rowV
  refine List.map_congr_left fun j hj => ?_
  rw [h j (List.mem_range.mp hj)]
theorem rowV_set {n b : Nat} {g : Nat → Int} {v : Int} : (rowV n g).set b (.int v) = rowV n (fun j => if j = b then v else g j) := by
  apply List.ext_getElem?
  intro j
  rw [List.getElem?_set]
  by_cases hj : j < n
  · rw [rowV_length, rowV_get (g := fun j => if j = b then v else g j) hj]
    by_cases e : b = j
    · subst e
      rw [if_pos rfl, if_pos hj, if_pos rfl]
    · rw [if_neg e, rowV_get hj, if_neg (fun q => e q.symm)]
  · have e1 : (rowV n g)[j]? = none := List.getElem?_eq_none (by rw [rowV_length]; omega)
    have e2 : (rowV n (fun j => if j = b then v else g j))[j]? = none := List.getElem?_eq_none (by rw [rowV_length]; omega)
    rw [e1, e2, rowV_length]
    split
    · split
      · omega
      · rfl
    · rfl
theorem nv_get {ks : List Nat} {i : Nat} {x : V} (h : (nv ks)[i]? = some x) : ∃ k, ks[i]? = some k ∧ x = .int (k : Int) := by
  unfold nv at h
  rw [List.getElem?_map] at h
  cases e : ks[i]? with
  | none => rw [e] at h; cases h
  | some k => rw [e] at h; exact ⟨k, rfl, (Option.some.inj h).symm⟩
theorem iv_get {ks : List Int} {i : Nat} {x : V} (h : (iv ks)[i]? = some x) : ∃ k, ks[i]? = some k ∧ x = .int k := by
  unfold iv at h
  rw [List.getElem?_map] at h
  cases e : ks[i]? with
  | none => rw [e] at h; cases h
  | some k => rw [e] at h; exact ⟨k, rfl, (Option.some.inj h).symm⟩
theorem sq_mono {K : PySem.W.Frag} {H H' : Hp} {a : Addr} {xs : List V} (e : Ex H H') (h : SqL K H a xs) : SqL K H' a xs := ex_l e h
theorem iv_flat (ns : List Int) : (iv ns).all flatV = true := by
  unfold iv
  rw [List.all_map]
  exact List.all_eq_true.mpr fun _ _ => rfl

/-! ### cuts -/
theorem cut_from (xs : List V) (k : Nat) : cutV xs (some (k : Int)) none = xs.drop k := by
  unfold cutV
  rw [HT.sIx_nat, HT.sIx_none]
  by_cases h : k ≤ xs.length
  · rw [Nat.min_eq_left h]
    exact List.take_of_length_le (by rw [List.length_drop]; omega)
  · rw [Nat.min_eq_right (by omega), List.drop_length, List.drop_of_length_le (by omega)]
    simp
theorem cut_to (xs : List V) (k : Nat) : cutV xs none (some (k : Int)) = xs.take k := by
  unfold cutV
  rw [HT.sIx_nat, HT.sIx_none]
  show (xs.drop 0).take (min k xs.length - 0) = xs.take k
  rw [List.drop_zero, Nat.sub_zero]
  by_cases h : k ≤ xs.length
  · rw [Nat.min_eq_left h]
  · rw [Nat.min_eq_right (by omega), List.take_length, List.take_of_length_le (by omega)]
theorem cut_m1 (xs : List V) : cutV xs none (some (-1)) = xs.dropLast := by
  unfold cutV
  rw [HT.sIx_none]
  show (xs.drop 0).take ((if (-1 : Int) < 0 then ((-1 : Int) + (xs.length : Int)).toNat else min (-1 : Int).toNat xs.length) - 0) = xs.dropLast
  rw [if_pos (by omega), List.drop_zero, Nat.sub_zero, List.dropLast_eq_take]
  congr 1
  omega

/-! ### tables -/
structure Tab (H0 H : Hp) (t : Addr) (rs : List Addr) (n : Nat) (f : Nat → Nat → Int) : Prop where
  len : rs.length = n
  top : H t = some (.lst (rs.map V.ref))
  row : ∀ i r, rs[i]? = some r → H r = some (.lst (rowV n (f i)))
  nd : rs.Nodup
  ft : H0 t = none
  fr : ∀ r, r ∈ rs → H0 r = none
def TabR (K : PySem.W.Frag) (H : Hp) (v : V) (n : Nat) (f : Nat → Nat → Int) : Prop :=
  ∃ (t : Addr) (rs : List Addr), v = V.ref t ∧ rs.length = n ∧ SqL K H t (rs.map V.ref) ∧ ∀ i r, rs[i]? = some r → SqL K H r (rowV n (f i))
section
variable {K : PySem.W.Frag} {H0 H H' : Hp} {t : Addr} {rs : List Addr} {n : Nat} {f f' : Nat → Nat → Int} {v : V}
theorem Tab.notop (T : Tab H0 H t rs n f) : t ∉ rs := fun h => by
  obtain ⟨i, hi, e⟩ := List.mem_iff_getElem.mp h
  have e1 : rs[i]? = some t := by rw [List.getElem?_eq_getElem hi, e]
  have h1 := T.row i t e1
  rw [T.top] at h1
  have h2 : rs.map V.ref = rowV n (f i) := by injection Option.some.inj h1
  have h3 : (rs.map V.ref)[i]? = (rowV n (f i))[i]? := by rw [h2]
  rw [List.getElem?_map, e1, rowV_get (by rw [← T.len]; exact hi)] at h3
  injection h3 with h4
  cases h4
theorem Tab.mono (T : Tab H0 H t rs n f) (e : Ex H H') : Tab H0 H' t rs n f :=
  ⟨T.len, e _ _ T.top, fun i r h => e _ _ (T.row i r h), T.nd, T.ft, T.fr⟩
theorem Tab.congr (T : Tab H0 H t rs n f) (h : ∀ i j, i < n → j < n → f i j = f' i j) : Tab H0 H t rs n f' :=
  ⟨T.len, T.top, fun i r e => by
    have hi : i < n := by rw [← T.len]; exact (List.getElem?_eq_some_iff.mp e).1
    rw [← rowV_congr (fun j hj => h i j hi hj)]
    exact T.row i r e, T.nd, T.ft, T.fr⟩
theorem Tab.base {Hb : Hp} (T : Tab H0 H t rs n f) (e : Ex Hb H0) : Tab Hb H t rs n f :=
  ⟨T.len, T.top, T.row, T.nd, fresh_back e T.ft, fun r h => fresh_back e (T.fr r h)⟩
theorem Tab.at_ {i : Nat} (T : Tab H0 H t rs n f) (h : i < n) : ∃ r, rs[i]? = some r ∧ r ∈ rs ∧ (rs.map V.ref)[i]? = some (V.ref r) ∧ H r = some (.lst (rowV n (f i))) := by
  have hi : i < rs.length := by rw [T.len]; exact h
  refine ⟨rs[i], List.getElem?_eq_getElem hi, List.getElem_mem hi, ?_, T.row i _ (List.getElem?_eq_getElem hi)⟩
  rw [List.getElem?_map, List.getElem?_eq_getElem hi]
  rfl
theorem nodup_at {α : Type} {l : List α} (h : l.Nodup) {i j : Nat} {x : α} (a : l[i]? = some x) (b : l[j]? = some x) : i = j := nd_ix h a b
/-- one cell is set -/
theorem Tab.put {a b : Nat} {r : Addr} {z : Int} (T : Tab H0 H t rs n f) (hr : rs[a]? = some r) : Tab H0 (upd H r (.lst ((rowV n (f a)).set b (.int z)))) t rs n (fun i j => if i = a ∧ j = b then z else f i j) := by
  have hm : r ∈ rs := List.mem_of_getElem? hr
  have nt : t ≠ r := fun e => T.notop (e ▸ hm)
  refine ⟨T.len, by rw [upd_ne nt]; exact T.top, fun i r' h => ?_, T.nd, T.ft, T.fr⟩
  by_cases e : r' = r
  · subst e
    have ei : i = a := nd_ix T.nd h hr
    subst ei
    rw [upd_same, rowV_set]
    congr 2
    refine rowV_congr fun j _ => ?_
    by_cases ej : j = b
    · rw [if_pos ej, if_pos ⟨rfl, ej⟩]
    · rw [if_neg ej, if_neg (fun q => ej q.2)]
  · rw [upd_ne e, T.row i r' h]
    congr 2
    refine rowV_congr fun j _ => ?_
    have ei : i ≠ a := fun q => e (by subst q; rw [h] at hr; exact Option.some.inj hr)
    rw [if_neg (fun q => ei q.1)]
/-- what is older stands when a row is written -/
theorem Tab.exMut {r : Addr} {o : HO} (T : Tab H0 H t rs n f) (e : Ex H0 H) (hr : r ∈ rs) : Ex H0 (upd H r o) := e.mut (T.fr r hr)
theorem Tab.rd (T : Tab H0 H t rs n f) : TabR K H (.ref t) n f := ⟨t, rs, rfl, T.len, sq_of T.top, fun i r h => sq_of (T.row i r h)⟩
theorem TabR.mono (T : TabR K H v n f) (e : Ex H H') : TabR K H' v n f := by
  obtain ⟨t, rs, h1, h2, h3, h4⟩ := T
  exact ⟨t, rs, h1, h2, ex_l e h3, fun i r h => ex_l e (h4 i r h)⟩
theorem TabR.congr (T : TabR K H v n f) (h : ∀ i j, i < n → j < n → f i j = f' i j) : TabR K H v n f' := by
  obtain ⟨t, rs, h1, h2, h3, h4⟩ := T
  refine ⟨t, rs, h1, h2, h3, fun i r e => ?_⟩
  have hi : i < n := by rw [← h2]; exact (List.getElem?_eq_some_iff.mp e).1
  rw [← rowV_congr (fun j hj => h i j hi hj)]
  exact h4 i r e
theorem TabR.at_ (T : TabR K H v n f) : ∃ (t : Addr) (xs : List V), v = .ref t ∧ SqL K H t xs ∧ xs.length = n ∧ ∀ i, i < n → ∃ r, xs[i]? = some (.ref r) ∧ SqL K H r (rowV n (f i)) := by
  obtain ⟨t, rs, h1, h2, h3, h4⟩ := T
  refine ⟨t, _, h1, h3, by rw [List.length_map]; exact h2, fun i hi => ?_⟩
  have hi' : i < rs.length := by omega
  refine ⟨rs[i], ?_, h4 i _ (List.getElem?_eq_getElem hi')⟩
  rw [List.getElem?_map, List.getElem?_eq_getElem hi']
  rfl
end

/-! ### deep data -/
def dRow (n : Nat) (g : Nat → Int) : PyData := .list ((List.range n).map fun j => .int (g j))
def dTab (n : Nat) (f : Nat → Nat → Int) : PyData := .list ((List.range n).map fun i => dRow n (f i))
def dBal (b : List Nat × Int) : PyData := .tuple [.list (b.1.map fun (k : Nat) => .int (k : Int)), .int b.2]
def dBals (bs : List (List Nat × Int)) : PyData := .list (bs.map dBal)
theorem dpAll_of {K : PySem.W.Frag} {H : Hp} : ∀ {xs : List V} {ds : List PyData}, xs.length = ds.length → (∀ (i : Nat) (x : V) (d : PyData), xs[i]? = some x → ds[i]? = some d → Dp K H x d) → DpAll K H xs ds
  | [], [], _, _ => .nil
  | x :: xs, d :: ds, hl, h => .cons (h 0 x d rfl rfl) (dpAll_of (by simpa using hl) fun i y e hy he => h (i + 1) y e (by simpa using hy) (by simpa using he))
  | [], _ :: _, hl, _ => by simp at hl
  | _ :: _, [], hl, _ => by simp at hl
theorem dpAll_ints {K : PySem.W.Frag} {H : Hp} : ∀ (ns : List Int), DpAll K H (iv ns) (ns.map PyData.int)
  | [] => .nil
  | n :: ns => .cons (.int n) (dpAll_ints ns)
theorem dp_ints {K : PySem.W.Frag} {H : Hp} {a : Addr} {ns : List Int} (h : SqL K H a (iv ns)) : Dp K H (.ref a) (.list (ns.map PyData.int)) := .lst h (dpAll_ints ns)
theorem dp_row {K : PySem.W.Frag} {H : Hp} {a : Addr} {n : Nat} {g : Nat → Int} (h : SqL K H a (rowV n g)) : Dp K H (.ref a) (dRow n g) := by
  rw [rowV_iv] at h
  have e := dp_ints h
  rw [List.map_map] at e
  exact e
theorem TabR.dp {K : PySem.W.Frag} {H : Hp} {v : V} {n : Nat} {f : Nat → Nat → Int} (T : TabR K H v n f) : Dp K H v (dTab n f) := by
  obtain ⟨t, rs, rfl, h2, h3, h4⟩ := T
  refine .lst h3 (dpAll_of (by rw [List.length_map, List.length_map, List.length_range, h2]) fun i x d hx hd => ?_)
  rw [List.getElem?_map] at hx hd
  cases e : rs[i]? with
  | none => rw [e] at hx; cases hx
  | some r =>
    rw [e] at hx
    have hi : i < n := by rw [← h2]; exact (List.getElem?_eq_some_iff.mp e).1
    rw [List.getElem?_range hi] at hd
    cases hx
    cases hd
    exact dp_row (h4 i r e)
theorem lay_all : ∀ (ds : List PyData), (∀ d ∈ ds, d.canLay0 = true) → PyData.canLayAll0 ds = true
  | [], _ => by simp [PyData.canLayAll0]
  | d :: ds, h => by
    rw [PyData.canLayAll0, h d (List.mem_cons_self ..), lay_all ds fun e he => h e (List.mem_cons_of_mem _ he)]
    rfl
theorem lay_list (ds : List PyData) (h : ∀ d ∈ ds, d.canLay0 = true) : (PyData.list ds).canLay0 = true := by
  rw [PyData.canLay0]
  exact lay_all ds h
theorem lay_tup (ds : List PyData) (h : ∀ d ∈ ds, d.canLay0 = true) : (PyData.tuple ds).canLay0 = true := by
  rw [PyData.canLay0]
  exact lay_all ds h
theorem lay_int (i : Int) : (PyData.int i).canLay0 = true := by simp [PyData.canLay0]
theorem lay_row (n : Nat) (g : Nat → Int) : (dRow n g).canLay0 = true := lay_list _ fun d hd => by
  obtain ⟨j, _, rfl⟩ := List.mem_map.mp hd
  exact lay_int _
theorem lay_tab (n : Nat) (f : Nat → Nat → Int) : (dTab n f).canLay0 = true := lay_list _ fun d hd => by
  obtain ⟨j, _, rfl⟩ := List.mem_map.mp hd
  exact lay_row _ _
theorem lay_bal (b : List Nat × Int) : (dBal b).canLay0 = true := lay_tup _ fun d hd => by
  rcases List.mem_cons.mp hd with rfl | hd
  · refine lay_list _ fun e he => ?_
    obtain ⟨j, _, rfl⟩ := List.mem_map.mp he
    exact lay_int _
  · rcases List.mem_cons.mp hd with rfl | hd
    · exact lay_int _
    · cases hd
theorem lay_bals (bs : List (List Nat × Int)) : (dBals bs).canLay0 = true := lay_list _ fun d hd => by
  obtain ⟨b, _, rfl⟩ := List.mem_map.mp hd
  exact lay_bal _
end Hc

namespace Hc
open PySem PySem.Spec PyProof.Rows L2 Evl

theorem depth_all : ∀ (ds : List PyData) (k : Nat), (∀ d ∈ ds, d.depth ≤ k) → PyData.depthAll ds ≤ k
  | [], k, _ => by rw [PyData.depthAll]; exact Nat.zero_le _
  | d :: ds, k, h => by
    rw [PyData.depthAll]
    exact Nat.max_le.mpr ⟨h d (List.mem_cons_self ..), depth_all ds k fun e he => h e (List.mem_cons_of_mem _ he)⟩
theorem depth_list {ds : List PyData} {k : Nat} (h : ∀ d ∈ ds, d.depth ≤ k) : (PyData.list ds).depth ≤ k + 1 := by
  rw [PyData.depth]
  exact Nat.succ_le_succ (depth_all ds k h)
theorem depth_tup {ds : List PyData} {k : Nat} (h : ∀ d ∈ ds, d.depth ≤ k) : (PyData.tuple ds).depth ≤ k + 1 := by
  rw [PyData.depth]
  exact Nat.succ_le_succ (depth_all ds k h)
theorem depth_int (i : Int) : (PyData.int i).depth ≤ 0 := by rw [PyData.depth]; exact Nat.le_refl _
theorem shaped_of {d : PyData} {k : Nat} (h : d.canLay0 = true) (hk : d.depth ≤ k) (h6 : k ≤ 64) : SeqAt.shaped d = true := by
  unfold SeqAt.shaped
  rw [h, decide_eq_true (Nat.le_trans hk h6)]
  rfl
theorem depth_ints (ns : List Int) : (PyData.list (ns.map PyData.int)).depth ≤ 1 := depth_list fun d hd => by
  obtain ⟨j, _, rfl⟩ := List.mem_map.mp hd
  exact depth_int _
theorem shaped_ints (ns : List Int) : SeqAt.shaped (.list (ns.map PyData.int)) = true := shaped_of (lay_list _ fun d hd => by
  obtain ⟨j, _, rfl⟩ := List.mem_map.mp hd
  exact lay_int _) (depth_ints ns) (by decide)
theorem depth_row (n : Nat) (g : Nat → Int) : (dRow n g).depth ≤ 1 := depth_list fun d hd => by
  obtain ⟨j, _, rfl⟩ := List.mem_map.mp hd
  exact depth_int _
theorem shaped_row (n : Nat) (g : Nat → Int) : SeqAt.shaped (dRow n g) = true := shaped_of (lay_row n g) (depth_row n g) (by decide)
theorem depth_tab (n : Nat) (f : Nat → Nat → Int) : (dTab n f).depth ≤ 2 := depth_list fun d hd => by
  obtain ⟨j, _, rfl⟩ := List.mem_map.mp hd
  exact depth_row _ _
theorem shaped_tab (n : Nat) (f : Nat → Nat → Int) : SeqAt.shaped (dTab n f) = true := shaped_of (lay_tab n f) (depth_tab n f) (by decide)
theorem depth_bal (b : List Nat × Int) : (dBal b).depth ≤ 2 := depth_tup fun d hd => by
  rcases List.mem_cons.mp hd with rfl | hd
  · refine depth_list fun e he => ?_
    obtain ⟨j, _, rfl⟩ := List.mem_map.mp he
    exact depth_int _
  · rcases List.mem_cons.mp hd with rfl | hd
    · exact Nat.le_trans (depth_int _) (Nat.zero_le _)
    · cases hd
theorem shaped_bals (bs : List (List Nat × Int)) : SeqAt.shaped (dBals bs) = true := shaped_of (lay_bals bs) (depth_list fun d hd => by
  obtain ⟨b, _, rfl⟩ := List.mem_map.mp hd
  exact depth_bal b) (by decide)
theorem dTab_congr {n : Nat} {f g : Nat → Nat → Int} (h : ∀ i j, i < n → j < n → f i j = g i j) : dTab n f = dTab n g := by
  unfold dTab dRow
  congr 1
  refine List.map_congr_left fun i hi => ?_
  congr 1
  refine List.map_congr_left fun j hj => ?_
  rw [h i j (List.mem_range.mp hi) (List.mem_range.mp hj)]
theorem eqv_tab {n : Nat} {f g : Nat → Nat → Int} (h : ∀ i j, i < n → j < n → f i j = g i j) : PyData.eqv (dTab n f) (dTab n g) = true := by
  rw [dTab_congr h]
  exact SeqAt.eqv_refl _ (lay_tab n g)

/-! ### ballots -/
theorem Paired.get {α β : Type} {F : α → β → Prop} : ∀ {l : List α} {m : List β} {i : Nat} {x : α}, Paired F l m → l[i]? = some x → ∃ y, m[i]? = some y ∧ F x y
  | _, _, _, _, .nil, h => by simp at h
  | _, _, 0, _, .cons r _, h => by
    cases (show some _ = some _ from h)
    exact ⟨_, rfl, r⟩
  | _, _, i + 1, x, .cons _ t, h => by
    obtain ⟨y, h1, h2⟩ := Paired.get (i := i) (x := x) t (by simpa using h)
    exact ⟨y, by simpa using h1, h2⟩
theorem Paired.take {α β : Type} {F : α → β → Prop} : ∀ {l : List α} {m : List β} (k : Nat), Paired F l m → Paired F (l.take k) (m.take k)
  | _, _, 0, _ => .nil
  | _, _, _ + 1, .nil => .nil
  | _, _, k + 1, .cons r t => .cons r (Paired.take k t)
theorem Paired.drop {α β : Type} {F : α → β → Prop} : ∀ {l : List α} {m : List β} (k : Nat), Paired F l m → Paired F (l.drop k) (m.drop k)
  | _, _, 0, r => r
  | _, _, _ + 1, .nil => .nil
  | _, _, k + 1, .cons _ t => Paired.drop k t
theorem Paired.append {α β : Type} {F : α → β → Prop} : ∀ {l l' : List α} {m m' : List β}, Paired F l m → Paired F l' m' → Paired F (l ++ l') (m ++ m')
  | _, _, _, _, .nil, s => s
  | _, _, _, _, .cons r t, s => .cons r (Paired.append t s)
theorem Paired.len {α β : Type} {F : α → β → Prop} : ∀ {l : List α} {m : List β}, Paired F l m → l.length = m.length
  | _, _, .nil => rfl
  | _, _, .cons _ t => by rw [List.length_cons, List.length_cons, Paired.len t]
def BalR (K : PySem.W.Frag) (H : Hp) (x : V) (b : List Nat × Int) : Prop := ∃ (t l : Addr), x = .ref t ∧ SqT K H t [.ref l, .int b.2] ∧ SqL K H l (nv b.1)
def BalsR (K : PySem.W.Frag) (H : Hp) (v : V) (bs : List (List Nat × Int)) : Prop := ∃ (a : Addr) (xs : List V), v = .ref a ∧ SqL K H a xs ∧ Paired (BalR K H) xs bs
section
variable {K : PySem.W.Frag} {H H' : Hp} {v x : V} {bs : List (List Nat × Int)} {b : List Nat × Int}
theorem BalR.mono (h : BalR K H x b) (e : Ex H H') : BalR K H' x b := by
  obtain ⟨t, l, h1, h2, h3⟩ := h
  exact ⟨t, l, h1, ex_t e h2, ex_l e h3⟩
theorem BalsR.mono (h : BalsR K H v bs) (e : Ex H H') : BalsR K H' v bs := by
  obtain ⟨a, xs, h1, h2, h3⟩ := h
  exact ⟨a, xs, h1, ex_l e h2, Paired.mapP h3 fun _ _ q => q.mono e⟩
theorem BalR.dp (h : BalR K H x b) : Dp K H x (dBal b) := by
  obtain ⟨t, l, rfl, h2, h3⟩ := h
  refine .tup h2 (.cons ?_ (.cons (.int _) .nil))
  rw [nv_iv] at h3
  have e := dp_ints h3
  rw [List.map_map] at e
  exact e
theorem BalsR.dp (h : BalsR K H v bs) : Dp K H v (dBals bs) := by
  obtain ⟨a, xs, rfl, h2, h3⟩ := h
  refine .lst h2 (dpAll_of (by rw [List.length_map]; exact Paired.len h3) fun i x d hx hd => ?_)
  obtain ⟨b, hb, r⟩ := Paired.get h3 hx
  rw [List.getElem?_map, hb] at hd
  cases hd
  exact r.dp
end

/-! ### comprehensions -/
/-- all but D stands -/
def ExB (D : Addr) (H H' : Hp) : Prop := ∀ a o, a ≠ D → H a = some o → H' a = some o
theorem Ex.exB {D : Addr} {H H' : Hp} (e : Ex H H') : ExB D H H' := fun a o _ h => e a o h
theorem exB_upd {D : Addr} {H : Hp} {o : HO} : ExB D H (upd H D o) := fun a u n h => by rw [upd_ne n]; exact h
section
variable {J : It} {n : Nat} {G : Hp → Prop} {Y : Nat → Hp → V → Hp → Prop} {g : TG} {tt : TT} {te : TE} {vs : List Nat} {σ : L2.St} {H1 : Hp} {D : Addr} {Qd : Hp → Prop}
/-- every turn gives one item; what is known of the items so far -/
theorem lc_acc (w : Walk J n G Y) (hD : H1 D = none) (hn : n ≤ 100000) (hG : ∀ H, Ex H1 H → G H) (I : List V → Hp → Prop) (hI : ∀ ys Ha Hb, I ys Ha → ExB D Ha Hb → I ys Hb) (h0 : I [] (upd H1 D (.lst [])))
    (hs : ∀ (i : Nat) (x : V) (H H' : Hp) (ys : List V), i < n → Ex H1 H → H D = some (.lst ys) → ys.length = i → I ys H → Y i H x H' → ∀ Qc : VK, (∀ y H4, Ex H H4 → I (ys ++ [y]) H4 → Qc y H4) → g x (wipe σ vs) H' fun σ2 H2 => wipe σ2 vs = wipe σ vs ∧ te σ2 H2 Qc)
    (hd : ∀ H ys, Ex H1 H → H D = some (.lst ys) → ys.length = n → I ys H → Qd H) :
    ∃ W : Nat → Nat → Hp → Prop, (∃ m, W 0 m (upd H1 D (.lst []))) ∧ ∀ i m H, W i m H → (J.stop i H ∧ Qd H) ∨ (J.go i H ∧ ∃ Nx : Hp → Prop, (∀ H', Nx H' → ∃ m', m' < m ∧ W (i + 1) m' H') ∧ ∀ x H', J.yld i H x H' → g x (wipe σ vs) H' fun σ2 H2 => wipe σ2 vs = wipe σ vs ∧ tYes σ2 H2 fun b H3 => if b = true then te σ2 H3 fun y H4 => ∃ acc, H4 D = some (.lst acc) ∧ acc.length < sizeLine ∧ Nx (upd H4 D (.lst (acc ++ [y]))) else Nx H3) := by
  refine lc_it w (fun i H => ∃ ys, Ex H1 H ∧ H D = some (.lst ys) ∧ ys.length = i ∧ I ys H) ⟨[], Ex.new hD, upd_same, rfl, h0⟩ (fun i H _ ⟨_, e, _⟩ => hG H e) ?_ (fun H ⟨ys, e, h1, h2, h3⟩ => hd H ys e h1 h2 h3)
  rintro i x H H' hi ⟨ys, e, h1, h2, h3⟩ hy
  exact hs i x H H' ys hi e h1 h2 h3 hy _ fun y H4 e4 h5 => ⟨ys, e4 _ _ h1, sz_lt (by omega), ys ++ [y], (e.trans e4).mut hD, upd_same, by rw [List.length_append, h2]; rfl, hI _ _ _ h5 exB_upd⟩
/-- items by value -/
theorem lc_vals (w : Walk J n G Y) (hD : H1 D = none) (hn : n ≤ 100000) (hG : ∀ H, Ex H1 H → G H) (v : Nat → V)
    (hs : ∀ (i : Nat) (x : V) (H H' : Hp), i < n → Ex H1 H → Y i H x H' → ∀ Qc : VK, (∀ H4, Ex H H4 → Qc (v i) H4) → g x (wipe σ vs) H' fun σ2 H2 => wipe σ2 vs = wipe σ vs ∧ te σ2 H2 Qc)
    (hd : ∀ H, Ex H1 H → H D = some (.lst ((List.range n).map v)) → Qd H) :
    ∃ W : Nat → Nat → Hp → Prop, (∃ m, W 0 m (upd H1 D (.lst []))) ∧ ∀ i m H, W i m H → (J.stop i H ∧ Qd H) ∨ (J.go i H ∧ ∃ Nx : Hp → Prop, (∀ H', Nx H' → ∃ m', m' < m ∧ W (i + 1) m' H') ∧ ∀ x H', J.yld i H x H' → g x (wipe σ vs) H' fun σ2 H2 => wipe σ2 vs = wipe σ vs ∧ tYes σ2 H2 fun b H3 => if b = true then te σ2 H3 fun y H4 => ∃ acc, H4 D = some (.lst acc) ∧ acc.length < sizeLine ∧ Nx (upd H4 D (.lst (acc ++ [y]))) else Nx H3) := by
  refine lc_acc w hD hn hG (fun ys _ => ys = (List.range ys.length).map v) (fun _ _ _ h _ => h) rfl ?_ (fun H ys e h1 h2 h3 => hd H e (by rw [h1, h3, h2]))
  intro i x H H' ys hi e h1 h2 h3 hy Qc hq
  refine hs i x H H' hi e hy Qc fun H4 e4 => hq _ H4 e4 ?_
  rw [List.length_append, List.length_singleton, List.range_succ, List.map_append, ← h3, h2]
  rfl
/-- new lists -/
structure Rows (H0 H : Hp) (ps : List Addr) (L : Nat → List V) : Prop where
  at_ : ∀ i p, ps[i]? = some p → H p = some (.lst (L i))
  nd : ps.Nodup
  fr : ∀ p, p ∈ ps → H0 p = none
theorem lc_rows (w : Walk J n G Y) (hD : H1 D = none) (hn : n ≤ 100000) (hG : ∀ H, Ex H1 H → G H) (L : Nat → List V)
    (hs : ∀ (i : Nat) (x : V) (H H' : Hp), i < n → Ex H1 H → Y i H x H' → ∀ Qc : VK, (∀ p H4, H p = none → Ex H H4 → H4 p = some (.lst (L i)) → Qc (.ref p) H4) → g x (wipe σ vs) H' fun σ2 H2 => wipe σ2 vs = wipe σ vs ∧ te σ2 H2 Qc)
    (hd : ∀ H ps, Ex H1 H → H D = some (.lst (ps.map V.ref)) → ps.length = n → Rows H1 H ps L → Qd H) :
    ∃ W : Nat → Nat → Hp → Prop, (∃ m, W 0 m (upd H1 D (.lst []))) ∧ ∀ i m H, W i m H → (J.stop i H ∧ Qd H) ∨ (J.go i H ∧ ∃ Nx : Hp → Prop, (∀ H', Nx H' → ∃ m', m' < m ∧ W (i + 1) m' H') ∧ ∀ x H', J.yld i H x H' → g x (wipe σ vs) H' fun σ2 H2 => wipe σ2 vs = wipe σ vs ∧ tYes σ2 H2 fun b H3 => if b = true then te σ2 H3 fun y H4 => ∃ acc, H4 D = some (.lst acc) ∧ acc.length < sizeLine ∧ Nx (upd H4 D (.lst (acc ++ [y]))) else Nx H3) := by
  refine lc_acc w hD hn hG (fun ys H => ∃ ps, ys = ps.map V.ref ∧ D ∉ ps ∧ Rows H1 H ps L) ?_ ⟨[], rfl, by simp, fun _ _ h => by simp at h, List.nodup_nil, fun _ h => by simp at h⟩ ?_ ?_
  · rintro ys Ha Hb ⟨ps, h1, h2, h3⟩ e
    exact ⟨ps, h1, h2, fun i p h => e _ _ (fun q => h2 (q ▸ List.mem_of_getElem? h)) (h3.at_ i p h), h3.nd, h3.fr⟩
  · rintro i x H H' ys hi e h1 h2 ⟨ps, h3, h4, h5⟩ hy Qc hq
    refine hs i x H H' hi e hy Qc fun p H4 np e4 hp => hq _ H4 e4 ⟨ps ++ [p], ?_, ?_, ?_, ?_, ?_⟩
    · rw [h3, List.map_append]
      rfl
    · intro hm
      rcases List.mem_append.mp hm with q | q
      · exact h4 q
      · have e5 : D = p := by simpa using q
        rw [e5, np] at h1
        cases h1
    · intro k q hk
      have hl : ps.length = i := by rw [← h2, h3, List.length_map]
      rw [List.getElem?_append] at hk
      split at hk
      · exact e4 _ _ (h5.at_ k q hk)
      · rename_i hge
        have ek : k - ps.length = 0 := by
          have := (List.getElem?_eq_some_iff.mp hk).1
          simp at this
          omega
        rw [ek] at hk
        have e6 : q = p := by simpa using hk.symm
        rw [e6, hp, show k = i by omega]
    · rw [List.nodup_append]
      refine ⟨h5.nd, by simp, ?_⟩
      intro a ha b hb e7
      have e8 : b = p := by simpa using hb
      obtain ⟨k, hk, ek⟩ := List.mem_iff_getElem.mp ha
      have := h5.at_ k a (by rw [List.getElem?_eq_getElem hk, ek])
      rw [e7, e8, np] at this
      cases this
    · intro q hq'
      rcases List.mem_append.mp hq' with z | z
      · exact h5.fr q z
      · have e8 : q = p := by simpa using z
        rw [e8]
        exact fresh_back e np
  · rintro H ys e h1 h2 ⟨ps, h3, h4, h5⟩
    exact hd H ps e (by rw [h1, h3]) (by rw [← h2, h3, List.length_map]) h5
/-- new pairs of a new list of candidates and a number -/
structure BalsN (H0 H : Hp) (D : Addr) (ts ls : List Addr) (bs : List (List Nat × Int)) : Prop where
  top : H D = some (.lst (ts.map V.ref))
  lt : ts.length = bs.length
  ll : ls.length = bs.length
  at_ : ∀ (i : Nat) (t l : Addr) (b : List Nat × Int), ts[i]? = some t → ls[i]? = some l → bs[i]? = some b → H t = some (.tup [.ref l, .int b.2]) ∧ H l = some (.lst (nv b.1))
  nd : ls.Nodup
  fl : ∀ l, l ∈ ls → H0 l = none
  ft : ∀ t, t ∈ ts → H0 t = none
  fD : H0 D = none
theorem BalsN.rd {K : PySem.W.Frag} {H0 H : Hp} {D : Addr} {ts ls : List Addr} {bs : List (List Nat × Int)} (B : BalsN H0 H D ts ls bs) : BalsR K H (.ref D) bs := by
  refine ⟨D, _, rfl, sq_of B.top, ?_⟩
  have gen : ∀ (ts ls : List Addr) (bs : List (List Nat × Int)), ts.length = bs.length → ls.length = bs.length → (∀ (i : Nat) (t l : Addr) (b : List Nat × Int), ts[i]? = some t → ls[i]? = some l → bs[i]? = some b → H t = some (.tup [.ref l, .int b.2]) ∧ H l = some (.lst (nv b.1))) → Paired (BalR K H) (ts.map V.ref) bs := by
    intro ts
    induction ts with
    | nil =>
      intro ls bs hl _ _
      cases bs with
      | nil => exact .nil
      | cons _ _ => simp at hl
    | cons t ts ih =>
      intro ls bs hl hl2 h
      cases bs with
      | nil => simp at hl
      | cons b bs =>
        cases ls with
        | nil => simp at hl2
        | cons l ls =>
          obtain ⟨q1, q2⟩ := h 0 t l b rfl rfl rfl
          refine .cons ⟨t, l, rfl, st_of q1, sq_of q2⟩ (ih ls bs (by simpa using hl) (by simpa using hl2) fun i t' l' b' a1 a2 a3 => h (i + 1) t' l' b' (by simpa using a1) (by simpa using a2) (by simpa using a3))
  exact gen ts ls bs B.lt B.ll B.at_
theorem lc_bals (w : Walk J n G Y) (hD : H1 D = none) (hn : n ≤ 100000) (hG : ∀ H, Ex H1 H → G H) (bs : List (List Nat × Int)) (hbs : bs.length = n)
    (hs : ∀ (i : Nat) (x : V) (H H' : Hp) (b : List Nat × Int), i < n → bs[i]? = some b → Ex H1 H → Y i H x H' → ∀ Qc : VK, (∀ p l H4, H p = none → H l = none → Ex H H4 → H4 p = some (.tup [.ref l, .int b.2]) → H4 l = some (.lst (nv b.1)) → Qc (.ref p) H4) → g x (wipe σ vs) H' fun σ2 H2 => wipe σ2 vs = wipe σ vs ∧ te σ2 H2 Qc)
    (hd : ∀ H ts ls, Ex H1 H → BalsN H1 H D ts ls bs → Qd H) :
    ∃ W : Nat → Nat → Hp → Prop, (∃ m, W 0 m (upd H1 D (.lst []))) ∧ ∀ i m H, W i m H → (J.stop i H ∧ Qd H) ∨ (J.go i H ∧ ∃ Nx : Hp → Prop, (∀ H', Nx H' → ∃ m', m' < m ∧ W (i + 1) m' H') ∧ ∀ x H', J.yld i H x H' → g x (wipe σ vs) H' fun σ2 H2 => wipe σ2 vs = wipe σ vs ∧ tYes σ2 H2 fun b H3 => if b = true then te σ2 H3 fun y H4 => ∃ acc, H4 D = some (.lst acc) ∧ acc.length < sizeLine ∧ Nx (upd H4 D (.lst (acc ++ [y]))) else Nx H3) := by
  refine lc_acc w hD hn hG (fun ys H => ∃ ts ls : List Addr, ys = ts.map V.ref ∧ ls.length = ts.length ∧ D ∉ ts ∧ D ∉ ls ∧ (∀ (i : Nat) (t l : Addr) (b : List Nat × Int), ts[i]? = some t → ls[i]? = some l → bs[i]? = some b → H t = some (.tup [.ref l, .int b.2]) ∧ H l = some (.lst (nv b.1))) ∧ ls.Nodup ∧ (∀ l, l ∈ ls → H1 l = none) ∧ (∀ l, l ∈ ts → H1 l = none) ∧ (∀ l, l ∈ ls → H l ≠ none)) ?_ ⟨[], [], rfl, rfl, by simp, by simp, fun _ _ _ _ h => by simp at h, List.nodup_nil, fun _ h => by simp at h, fun _ h => by simp at h, fun _ h => by simp at h⟩ ?_ ?_
  · rintro ys Ha Hb ⟨ts, ls, h1, h2, h3, h4, h5, h6, h7, h8, h9⟩ e
    refine ⟨ts, ls, h1, h2, h3, h4, fun i t l b ht hl hb => ?_, h6, h7, h8, fun l hl => ?_⟩
    · obtain ⟨q1, q2⟩ := h5 i t l b ht hl hb
      exact ⟨e _ _ (fun q => h3 (q ▸ List.mem_of_getElem? ht)) q1, e _ _ (fun q => h4 (q ▸ List.mem_of_getElem? hl)) q2⟩
    · have := h9 l hl
      cases q : Ha l with
      | none => exact absurd q this
      | some o =>
        rw [e _ _ (fun q => h4 (q ▸ hl)) q]
        simp
  · rintro i x H H' ys hi e h1 h2 ⟨ts, ls, h3, h4, h5, h6, h7, h8, h9, h10, h11⟩ hy Qc hq
    have hb : i < bs.length := by omega
    have eL : ts.length = i := by rw [← h2, h3, List.length_map]
    refine hs i x H H' bs[i] hi (List.getElem?_eq_getElem hb) e hy Qc fun p l H4 np nl e4 hp hl => hq _ H4 e4 ⟨ts ++ [p], ls ++ [l], ?_, ?_, ?_, ?_, ?_, ?_, ?_, ?_, ?_⟩
    · rw [h3, List.map_append]
      rfl
    · rw [List.length_append, List.length_append, h4]
      rfl
    · intro hm
      rcases List.mem_append.mp hm with q | q
      · exact h5 q
      · have e5 : D = p := by simpa using q
        rw [e5, np] at h1
        cases h1
    · intro hm
      rcases List.mem_append.mp hm with q | q
      · exact h6 q
      · have e5 : D = l := by simpa using q
        rw [e5, nl] at h1
        cases h1
    · intro k t l' b ht hl' hbk
      rw [List.getElem?_append] at ht hl'
      by_cases hk : k < ts.length
      · rw [if_pos hk] at ht
        rw [if_pos (by omega)] at hl'
        obtain ⟨q1, q2⟩ := h7 k t l' b ht hl' hbk
        exact ⟨e4 _ _ q1, e4 _ _ q2⟩
      · rw [if_neg hk] at ht
        rw [if_neg (by omega)] at hl'
        have ek : k - ts.length = 0 := by
          have := (List.getElem?_eq_some_iff.mp ht).1
          simp at this
          omega
        rw [ek] at ht
        rw [h4, ek] at hl'
        have e6 : t = p := by simpa using ht.symm
        have e7 : l' = l := by simpa using hl'.symm
        have e8 : k = i := by omega
        subst e8
        rw [List.getElem?_eq_getElem hb] at hbk
        cases hbk
        rw [e6, e7]
        exact ⟨hp, hl⟩
    · rw [List.nodup_append]
      refine ⟨h8, by simp, ?_⟩
      intro a ha b hb' e7
      have e8 : b = l := by simpa using hb'
      exact h11 a ha (by rw [e7, e8]; exact nl)
    · intro q hq'
      rcases List.mem_append.mp hq' with z | z
      · exact h9 q z
      · have e8 : q = l := by simpa using z
        rw [e8]
        exact fresh_back e nl
    · intro q hq'
      rcases List.mem_append.mp hq' with z | z
      · exact h10 q z
      · have e8 : q = p := by simpa using z
        rw [e8]
        exact fresh_back e np
    · intro q hq'
      rcases List.mem_append.mp hq' with z | z
      · have := h11 q z
        cases w : H q with
        | none => exact absurd w this
        | some o => rw [e4 _ _ w]; simp
      · have e8 : q = l := by simpa using z
        rw [e8, hl]
        simp
  · rintro H ys e h1 h2 ⟨ts, ls, h3, h4, h5, h6, h7, h8, h9, h10, h11⟩
    have eL : ts.length = n := by rw [← h2, h3, List.length_map]
    have hts : H D = some (.lst (ts.map V.ref)) := by rw [h1, h3]
    exact hd H ts ls e ⟨hts, by omega, by omega, h7, h8, h9, h10, hD⟩
end
end Hc
namespace Hc
open PySem PySem.Spec PyProof.Rows L2 Evl
theorem rgV_nv (n : Nat) : rgV 0 (n : Int) = nv (List.range n) := by
  unfold rgV nv
  rw [show ((n : Int) - 0).toNat = n by omega]
  refine List.map_congr_left fun i _ => ?_
  rw [Int.zero_add]
theorem eqvAll_ints : ∀ (ns ms : List Int), PyData.eqvAll (ns.map PyData.int) (ms.map PyData.int) = decide (ns = ms)
  | [], [] => by simp [PyData.eqvAll]
  | [], _ :: _ => by simp [PyData.eqvAll]
  | _ :: _, [] => by simp [PyData.eqvAll]
  | n :: ns, m :: ms => by
    rw [List.map_cons, List.map_cons, PyData.eqvAll, eqvAll_ints ns ms, PyData.eqv]
    by_cases h1 : n = m <;> by_cases h2 : ns = ms <;> simp [h1, h2]
theorem eqv_ints (ns ms : List Int) : PyData.eqv (.list (ns.map PyData.int)) (.list (ms.map PyData.int)) = decide (ns = ms) := by
  rw [PyData.eqv]
  exact eqvAll_ints ns ms
theorem map_const_bl (n : Nat) (b : Bool) : ((List.range n).map fun _ => V.bl b) = ((List.range n).map fun _ => b).map V.bl := by
  rw [List.map_map]
  rfl
theorem all_const_true (n : Nat) : ((List.range n).map fun _ => true).all id = true := by
  rw [List.all_map]
  exact List.all_eq_true.mpr fun _ _ => rfl
theorem itT {c : Bool} {A B : Prop} (h : c = true) (k : A) : if c = true then A else B := by rw [if_pos h]; exact k
theorem itF {c : Bool} {A B : Prop} (h : c = false) (k : B) : if c = true then A else B := by rw [if_neg (by rw [h]; decide)]; exact k
theorem it2 {c : Bool} {A B : Prop} (h1 : c = true → A) (h2 : c = false → B) : if c = true then A else B := by
  cases c with
  | true => rw [if_pos rfl]; exact h1 rfl
  | false => rw [if_neg (by decide)]; exact h2 rfl
theorem rep_row (n : Nat) : (List.replicate n [V.int 0]).flatten = rowV n (fun _ => 0) := by
  unfold rowV
  rw [List.map_const', List.length_range]
  induction n with
  | zero => rfl
  | succ n ih => rw [List.replicate_succ, List.flatten_cons, ih, List.replicate_succ]; rfl
theorem nv_drop (ks : List Nat) (k : Nat) : (nv ks).drop k = nv (ks.drop k) := by unfold nv; rw [List.map_drop]
theorem nv_take (ks : List Nat) (k : Nat) : (nv ks).take k = nv (ks.take k) := by unfold nv; rw [List.map_take]
theorem cut_nv_from (ks : List Nat) (k : Nat) : cutV (nv ks) (some ((k : Int) + 1)) none = nv (ks.drop (k + 1)) := by
  rw [show ((k : Int) + 1) = ((k + 1 : Nat) : Int) from rfl, cut_from, nv_drop]
theorem cut_nv_to (ks : List Nat) (k : Nat) : cutV (nv ks) none (some (k : Int)) = nv (ks.take k) := by rw [cut_to, nv_take]
theorem Rows.tab {H0 H : Hp} {D : Addr} {ps : List Addr} {n : Nat} {f : Nat → Nat → Int} (hD : H0 D = none) (h : H D = some (.lst (ps.map V.ref))) (hl : ps.length = n) (R : Rows H0 H ps (fun i => rowV n (f i))) : Tab H0 H D ps n f :=
  ⟨hl, h, R.at_, R.nd, hD, R.fr⟩
theorem rgOk_nat {n : Nat} (h : n ≤ 1000) : RgOk 0 (n : Int) := RgOk.of_le (by omega) (by omega) (by omega) (by omega)
end Hc
namespace Hc
open PySem PySem.Spec PyProof.Rows L2 Evl
/-! ### great numbers -/
def Big (B : Nat) (x : Int) : Prop := x.natAbs < 2 ^ B
theorem Big.mono {B C : Nat} {x : Int} (h : Big B x) (hc : B ≤ C) : Big C x := Nat.lt_of_lt_of_le h (Nat.pow_le_pow_right (by decide) hc)
theorem Big.mul {B C : Nat} {x y : Int} (h : Big B x) (k : Big C y) : Big (B + C) (x * y) := by
  unfold Big at *
  rw [Int.natAbs_mul, Nat.pow_add]
  exact Nat.mul_lt_mul'' h k
theorem Big.add {B : Nat} {x y : Int} (h : Big B x) (k : Big B y) : Big (B + 1) (x + y) := by
  unfold Big at *
  have := Int.natAbs_add_le x y
  rw [Nat.pow_succ]
  omega
theorem big_bits {B : Nat} {x : Int} (h0 : 0 < B) (h : Big B x) : Builtin.Int.intBits x ≤ B := by
  have h1 := PySem.Flt.log2_lt_of h0 h
  unfold Builtin.Int.intBits
  split
  · exact Nat.zero_le _
  · omega
theorem big_of_bits {x : Int} {B : Nat} (h : Builtin.Int.intBits x ≤ B) : Big B x := by
  unfold Builtin.Int.intBits at h
  unfold Big
  split at h
  · rename_i e
    have e0 : x = 0 := by simpa using e
    rw [e0]
    exact Nat.pow_pos (by decide)
  · exact Nat.lt_of_lt_of_le Nat.lt_log2_self (Nat.pow_le_pow_right (by decide) h)
theorem mulOk_big {B C : Nat} {x y : Int} (h : Big B x) (k : Big C y) (hB : 0 < B) (hC : 0 < C) (hs : B + C ≤ 100000000) : IntMulOk x y := by
  have h1 := big_bits hB h
  have h2 := big_bits hC k
  have e : bitsLine = 134217728 := by decide
  intro z
  rw [Bool.and_eq_true] at z
  have z2 := of_decide_eq_true z.2
  rw [e] at z2
  omega
theorem mulOk_small {x y : Int} (h1 : -(2 ^ 64) < x) (h2 : x < 2 ^ 64) : IntMulOk x y := PySem.IntMulOk.of_left (PySem.intBits_le_64 h1 h2)
theorem mulOk_smallR {x y : Int} (h1 : -(2 ^ 64) < y) (h2 : y < 2 ^ 64) : IntMulOk x y := PySem.IntMulOk.of_right (PySem.intBits_le_64 h1 h2)
theorem big_small {x : Int} {B : Nat} (hB : 64 ≤ B) (h1 : -(2 ^ 64) < x) (h2 : x < 2 ^ 64) : Big B x := Big.mono (B := 64) (by unfold Big; omega) hB
theorem divW_small {i j : Int} (h1 : 0 < j) (h2 : j < 1000000) : CDivW i j := by
  refine ⟨h1, ?_⟩
  have : j.natAbs < 2 ^ 20 := by omega
  exact Nat.lt_trans (PySem.Flt.log2_lt_of (by decide) this) (by decide)
theorem Big.div {B : Nat} {x j : Int} (h : Big B x) (hj : 0 < j) : Big B (x / j) := by
  unfold Big at *
  refine Nat.lt_of_le_of_lt ?_ h
  exact Int.natAbs_ediv_le_natAbs x j
theorem big_sum : ∀ (ns : List Int) (B : Nat), (∀ n ∈ ns, Big B n) → Big (B + ns.length) ns.sum
  | [], B, _ => by
    show (0 : Nat) < 2 ^ (B + 0)
    exact Nat.pow_pos (by decide)
  | n :: ns, B, h => by
    rw [List.sum_cons]
    have h1 := big_sum ns B fun m hm => h m (List.mem_cons_of_mem _ hm)
    exact Big.add ((h n (List.mem_cons_self ..)).mono (Nat.le_add_right _ _)) h1
end Hc
namespace Hc
open PySem PySem.Spec PyProof.Rows L2 Evl
/-! ### the heap without one object -/
def rem (H : Hp) (F : Addr) : Hp := fun a => if a = F then none else H a
theorem rem_ne {H : Hp} {F a : Addr} (h : a ≠ F) : rem H F a = H a := by unfold rem; rw [if_neg h]
theorem rem_ex {H : Hp} {F : Addr} : Ex (rem H F) H := fun a o h => by
  unfold rem at h
  split at h
  · cases h
  · exact h
theorem rem_mono {H H' : Hp} {F : Addr} (e : Ex H H') : Ex (rem H F) (rem H' F) := fun a o h => by
  unfold rem at h ⊢
  split at h
  · cases h
  · rename_i n
    rw [if_neg n]
    exact e a o h
theorem rem_upd {H : Hp} {F : Addr} {o : HO} : rem (upd H F o) F = rem H F := by
  funext a
  unfold rem
  split
  · rfl
  · rename_i n
    rw [upd_ne n]
theorem rem_exB {H H' : Hp} {F : Addr} (e : ExB F H H') : Ex (rem H F) (rem H' F) := fun a o h => by
  unfold rem at h ⊢
  split at h
  · cases h
  · rename_i n
    rw [if_neg n]
    exact e a o n h
theorem rem_none {H : Hp} {F : Addr} (h : H F = none) : rem H F = H := by
  funext a
  unfold rem
  split
  · rename_i e
    rw [e, h]
  · rfl
end Hc
namespace Hc
open PySem PySem.Spec PyProof.Rows L2 Evl
/-! ### the rules with the written part named -/
section
variable {X : Cx} {e l : Expr} {te tl : TE} {tg : Expr} {pos p : Pos}
theorem isiK (K : PySem.W.Frag) (h : X.K = K := by rfl) : CallR X (.builtin "isinstance") (rIsi K) := by cases h; exact call_isi
theorem ixLK (K : PySem.W.Frag) (h : X.K = K := by rfl) : IxR X (rIxL K) := by cases h; exact ix_list
theorem ixTK (K : PySem.W.Frag) (h : X.K = K := by rfl) : IxR X (rIxT K) := by cases h; exact ix_tup
theorem slLK (K : PySem.W.Frag) (h : X.K = K := by rfl) : SlR X (rSlL K) := by cases h; exact sl_list
theorem allK (K : PySem.W.Frag) (h : X.K = K := by rfl) (hc : X.calm = true := by rfl) : CallR X (.builtin "all") (rAll K) := by cases h; exact cr_all hc
theorem anyK (K : PySem.W.Frag) (h : X.K = K := by rfl) (hc : X.calm = true := by rfl) : CallR X (.builtin "any") (rAny K) := by cases h; exact cr_any hc
theorem sumK (K : PySem.W.Frag) (h : X.K = K := by rfl) (hc : X.calm = true := by rfl) : CallR X (.builtin "sum") (rSum K) := by cases h; exact cr_sum hc
theorem minK (K : PySem.W.Frag) (h : X.K = K := by rfl) (hc : X.calm = true := by rfl) : CallR X (.builtin "min") (rMin K) := by cases h; exact cr_min hc
theorem maxK (K : PySem.W.Frag) (h : X.K = K := by rfl) (hc : X.calm = true := by rfl) : CallR X (.builtin "max") (rMax K) := by cases h; exact cr_max hc
theorem sortK (K : PySem.W.Frag) (h : X.K = K := by rfl) : CallR X (.builtin "sorted") (rSorted K) := by cases h; exact cr_sorted
theorem lenK (K : PySem.W.Frag) (h : X.K = K := by rfl) : CallR X (.builtin "len") (rLenS K) := by cases h; exact call_len_seq
theorem listK (K : PySem.W.Frag) (h : X.K = K := by rfl) : CallR X (.type "list") (rListS K) := by cases h; exact call_list_of
theorem inK (K : PySem.W.Frag) (h : X.K = K := by rfl) : OpR X (compareOp .In) (rIn K false) := by cases h; exact op_in_seq
theorem notInK (K : PySem.W.Frag) (h : X.K = K := by rfl) : OpR X (compareOp .NotIn) (rIn K true) := by cases h; exact op_notIn_seq
theorem eqDK (K : PySem.W.Frag) (hu : X.A.units + 64 < cLine) (h : X.K = K := by rfl) : OpR X (compareOp .Eq) (rEqD K) := by cases h; exact op_eqD hu
theorem neDK (K : PySem.W.Frag) (hu : X.A.units + 64 < cLine) (h : X.K = K := by rfl) : OpR X (compareOp .NotEq) (rNeD K) := by cases h; exact op_neD hu
theorem piL (K : PySem.W.Frag) (hl : PE X l tl) (h : X.K = K := by rfl) : PI X tg l (iList K tl) := by cases h; exact pi_list hl
theorem piT (K : PySem.W.Frag) (hl : PE X l tl) (h : X.K = K := by rfl) : PI X tg l (iTup K tl) := by cases h; exact pi_tup hl
theorem piE (K : PySem.W.Frag) {ta : TA} {tpos : Pos} {elts : List Expr} {kk : Nat} (hg : Gl X "enumerate") (hm : X.mg "enumerate" = none) (ha : PA X [e] ta) (hs : starEach [e] X.env = [(false, eval e X.env)] := by rfl) (h : X.K = K := by rfl) : PI X (.Tuple elts kk tpos) (.Call (.Name "enumerate" p) [e] [] pos) (iEnum K ta) := by cases h; exact pi_enum hg hm ha hs
theorem piZ (K : PySem.W.Frag) {e2 : Expr} {ta : TA} {tpos : Pos} {elts : List Expr} {kk : Nat} (hg : Gl X "zip") (hm : X.mg "zip" = none) (ha : PA X [e, e2] ta) (hs : starEach [e, e2] X.env = (false, eval e X.env) :: starEach [e2] X.env := by rfl) (hpl : (backTo pos (starEach [e2] X.env)).any (·.1) = false := by rfl) (h : X.K = K := by rfl) : PI X (.Tuple elts kk tpos) (.Call (.Name "zip" p) [e, e2] [] pos) (iZip K ta) := by cases h; exact pi_zip hg hm ha hs hpl
theorem pgT (K : PySem.W.Frag) {es : List Expr} {k : Nat} {t : TGs} {n : Nat} (h : PGs X es t) (hn : (assignEach es X.env).length = n := by rfl) (hst : (assignEach es X.env).findIdx? (·.1) = none := by rfl) (hK : X.K = K := by rfl) (hc : X.calm = true := by rfl) : PG X (.Tuple es k pos) (gTup K n t) := by cases hK; exact pg_tup hc h hn hst
end
end Hc
namespace Hc
open PySem PySem.Spec PyProof.Rows L2 Evl
theorem revLK {X : Cx} {e : Expr} {te : TE} {k : Nat} {p1 p2 p3 pos : Pos} (K : PySem.W.Frag) (he : PE X e te) (h : X.K = K := by rfl) : PE X (.Subscript e (.Slice none none (some (.UnaryOp .USub (.Constant (.int 1) k p1) p2)) p3) pos) (tRevL K te) := by cases h; exact pe_revL he
end Hc
namespace Hc
open PySem PySem.Spec PyProof.Rows L2 Evl
/-! ### rows from a place on -/
def dRows (n k : Nat) (f : Nat → Nat → Int) : PyData := .list (((List.range n).drop k).map fun i => dRow n (f i))
theorem lay_rows (n k : Nat) (f : Nat → Nat → Int) : (dRows n k f).canLay0 = true := lay_list _ fun d hd => by
  obtain ⟨j, _, rfl⟩ := List.mem_map.mp hd
  exact lay_row _ _
theorem shaped_rows (n k : Nat) (f : Nat → Nat → Int) : SeqAt.shaped (dRows n k f) = true := shaped_of (lay_rows n k f) (depth_list fun d hd => by
  obtain ⟨j, _, rfl⟩ := List.mem_map.mp hd
  exact depth_row _ _) (by decide)
theorem dp_rows {K : PySem.W.Frag} {H : Hp} {a : Addr} {rs : List Addr} {n k : Nat} {f : Nat → Nat → Int} (hl : rs.length = n) (h : SqL K H a ((rs.drop k).map V.ref)) (hr : ∀ i r, k ≤ i → rs[i]? = some r → SqL K H r (rowV n (f i))) : Dp K H (.ref a) (dRows n k f) := by
  refine .lst h (dpAll_of (by rw [List.length_map, List.length_map, List.length_drop, List.length_drop, List.length_range, hl]) fun i x d hx hd => ?_)
  rw [List.getElem?_map, List.getElem?_drop] at hx hd
  cases e : rs[k + i]? with
  | none => rw [e] at hx; cases hx
  | some r =>
    rw [e] at hx
    have hi : k + i < n := by rw [← hl]; exact (List.getElem?_eq_some_iff.mp e).1
    rw [List.getElem?_range hi] at hd
    cases hx
    cases hd
    exact dp_row (hr (k + i) r (Nat.le_add_right _ _) e)
end Hc

/-! Plain laws of ballots that make a table: no program in sight. -/
namespace Hc
theorem cnt_cons (b : List Nat × Int) (bs : List (List Nat × Int)) (i j : Nat) : cnt (b :: bs) i j = b.2 * psum i j b.1 + cnt bs i j := by
  unfold cnt
  rw [List.map_cons, List.sum_cons]
def restOf (n a b : Nat) : List Nat := (List.range n).filter fun k => !(k == a || k == b)
def twoB (n a b : Nat) (m : Int) : List (List Nat × Int) := [(a :: b :: restOf n a b, m), ((restOf n a b).reverse ++ [a, b], m)]
theorem psum_two (i j a b : Nat) (r : List Nat) : psum i j (a :: b :: r) + psum i j (r.reverse ++ [a, b]) = 2 * dlt i j a b := by
  have e1 : psum i j (a :: b :: r) = dsum i j a (b :: r) + (dsum i j b r + psum i j r) := rfl
  have e2 : psum i j (r.reverse ++ [a, b]) = psum i j ((r.reverse ++ [a]) ++ [b]) := by rw [List.append_assoc]; rfl
  rw [e1, e2, psum_snoc, psum_snoc, esum_append, psum_reverse, esum_dsum, esum_dsum, dsum_reverse, dsum_reverse, dsum_cons, esum_cons, esum_nil]
  omega
theorem cnt_two (n a b : Nat) (m : Int) (i j : Nat) : cnt (twoB n a b m) i j = 2 * m * dlt i j a b := by
  unfold twoB
  rw [cnt_cons, cnt_cons, cnt_nil]
  have h := psum_two i j a b (restOf n a b)
  show m * psum i j (a :: b :: restOf n a b) + (m * psum i j ((restOf n a b).reverse ++ [a, b]) + 0) = 2 * m * dlt i j a b
  rw [Int.add_zero, ← Int.mul_add, h, ← Int.mul_assoc, Int.mul_comm m 2]
theorem mem_restOf {n a b k : Nat} : k ∈ restOf n a b ↔ k < n ∧ k ≠ a ∧ k ≠ b := by
  unfold restOf
  rw [List.mem_filter, List.mem_range]
  simp
theorem two_perm {n a b : Nat} (ha : a < n) (hb : b < n) (hab : a ≠ b) : (a :: b :: restOf n a b).Perm (List.range n) := by
  have hr : (restOf n a b).Nodup := List.nodup_range.filter _
  have h1 : (a :: b :: restOf n a b).Nodup := by
    rw [List.nodup_cons, List.nodup_cons]
    refine ⟨fun h => ?_, fun h => (mem_restOf.mp h).2.2 rfl, hr⟩
    rcases List.mem_cons.mp h with e | e
    · exact hab e
    · exact (mem_restOf.mp e).2.1 rfl
  rw [List.perm_ext_iff_of_nodup h1 List.nodup_range]
  intro k
  rw [List.mem_cons, List.mem_cons, mem_restOf, List.mem_range]
  constructor
  · rintro (rfl | rfl | h)
    · exact ha
    · exact hb
    · exact h.1
  · intro h
    by_cases h1 : k = a
    · exact .inl h1
    · by_cases h2 : k = b
      · exact .inr (.inl h2)
      · exact .inr (.inr ⟨h, h1, h2⟩)
theorem two_perm2 {n a b : Nat} (ha : a < n) (hb : b < n) (hab : a ≠ b) : ((restOf n a b).reverse ++ [a, b]).Perm (List.range n) := by
  have h : ((restOf n a b).reverse ++ [a, b]).Perm ([a, b] ++ restOf n a b) := List.perm_append_comm.trans (List.Perm.append_left _ (List.reverse_perm _))
  exact h.trans (two_perm ha hb hab)
theorem dlt_self (i a b : Nat) : dlt i i a b = 0 := by
  unfold dlt
  have e : (a = i ∧ b = i) ↔ (b = i ∧ a = i) := And.comm
  simp only [e]
  omega
theorem esum_range (i j y : Nat) : ∀ m : Nat, esum i j y (List.range m) = (if y = j ∧ i < m then 1 else 0) - (if y = i ∧ j < m then 1 else 0)
  | 0 => by simp [esum]
  | m + 1 => by
    rw [List.range_succ, esum_append, esum_range i j y m, esum_cons, esum_nil]
    unfold dlt
    by_cases h1 : y = j <;> by_cases h2 : y = i <;> by_cases h3 : m = i <;> by_cases h4 : m = j <;> by_cases h5 : i < m <;> by_cases h6 : j < m <;> simp_all <;> omega
theorem psum_range (i j : Nat) : ∀ n : Nat, psum i j (List.range n) = (if i < j ∧ j < n then 1 else 0) - (if j < i ∧ i < n then 1 else 0)
  | 0 => by simp [psum]
  | n + 1 => by
    rw [List.range_succ, psum_snoc, psum_range i j n, esum_range]
    by_cases h1 : n = j <;> by_cases h2 : n = i <;> by_cases h3 : i < j <;> by_cases h4 : j < i <;> by_cases h5 : i < n <;> by_cases h6 : j < n <;> simp_all <;> omega
/-- f is a table of n -/
def Anti (n : Nat) (f : Nat → Nat → Int) : Prop := ∀ i j, i < n → j < n → f i j = - f j i
theorem Anti.self {n : Nat} {f : Nat → Nat → Int} (h : Anti n f) {i : Nat} (hi : i < n) : f i i = 0 := by
  have := h i i hi hi
  omega
theorem anti_cnt (n : Nat) (bs : List (List Nat × Int)) : Anti n (cnt bs) := fun i j _ _ => cnt_swap bs j i
/-- two tables that are alike above are alike -/
theorem anti_ext {n : Nat} {f g : Nat → Nat → Int} (hf : Anti n f) (hg : Anti n g) (h : ∀ i j, i < j → j < n → f i j = g i j) : ∀ i j, i < n → j < n → f i j = g i j := fun i j hi hj => by
  by_cases h1 : i < j
  · exact h i j h1 hj
  · by_cases h2 : j < i
    · rw [hf i j hi hj, hg i j hi hj, h j i h2 hi]
    · have e : i = j := by omega
      subst e
      rw [hf.self hi, hg.self hi]
/-- what is told so far: all pairs ahead of (one, other) are done, o for the others -/
def Done (n : Nat) (f : Nat → Nat → Int) (o : Int) (a b : Nat) (bs : List (List Nat × Int)) : Prop := ∀ i j, i < j → j < n → cnt bs i j = if i < a ∨ (i = a ∧ j < b) then f i j else o
theorem done_start {n : Nat} {f : Nat → Nat → Int} {o : Int} {bs : List (List Nat × Int)} (h : ∀ i j, i < j → j < n → cnt bs i j = o) : Done n f o 0 1 bs := fun i j hi hj => by
  rw [h i j hi hj, if_neg (by omega)]
theorem dlt_lt {i j a b : Nat} (h1 : i < j) (h2 : a < b) : dlt i j a b = if i = a ∧ j = b then 1 else 0 := by
  unfold dlt
  by_cases h : i = a ∧ j = b
  · obtain ⟨rfl, rfl⟩ := h
    have : ¬ (j = i ∧ i = j) := by omega
    simp [this]
  · rw [if_neg h, if_neg (by omega), if_neg (by omega)]
    rfl
theorem done_step {n a b : Nat} {f : Nat → Nat → Int} {o m : Int} {bs : List (List Nat × Int)} (h : Done n f o a b bs) (hab : a < b) (hm : f a b - o = 2 * m) : Done n f o a (b + 1) (bs ++ twoB n a b m) := fun i j hi hj => by
  rw [cnt_append, h i j hi hj, cnt_two, dlt_lt hi hab]
  by_cases e : i = a ∧ j = b
  · obtain ⟨rfl, rfl⟩ := e
    rw [if_neg (by omega), if_pos ⟨rfl, rfl⟩, if_pos (by omega)]
    omega
  · rw [if_neg e, Int.mul_zero, Int.add_zero]
    by_cases e2 : i < a ∨ (i = a ∧ j < b)
    · rw [if_pos e2, if_pos (by omega)]
    · rw [if_neg e2, if_neg (by omega)]
theorem done_back {n a b : Nat} {f : Nat → Nat → Int} {o m : Int} {bs : List (List Nat × Int)} (h : Done n f o a b bs) (hab : a < b) (hm : f a b - o = - (2 * m)) : Done n f o a (b + 1) (bs ++ twoB n b a m) := fun i j hi hj => by
  rw [cnt_append, h i j hi hj, cnt_two, dlt_swap i j a b, dlt_lt hi hab]
  by_cases e : i = a ∧ j = b
  · obtain ⟨rfl, rfl⟩ := e
    rw [if_neg (by omega), if_pos ⟨rfl, rfl⟩, if_pos (by omega)]
    omega
  · rw [if_neg e, show (-0 : Int) = 0 from rfl, Int.mul_zero, Int.add_zero]
    by_cases e2 : i < a ∨ (i = a ∧ j < b)
    · rw [if_pos e2, if_pos (by omega)]
    · rw [if_neg e2, if_neg (by omega)]
theorem done_same {n a b : Nat} {f : Nat → Nat → Int} {o : Int} {bs : List (List Nat × Int)} (h : Done n f o a b bs) (hm : f a b = o) : Done n f o a (b + 1) bs := fun i j hi hj => by
  rw [h i j hi hj]
  by_cases e : i = a ∧ j = b
  · obtain ⟨rfl, rfl⟩ := e
    rw [if_neg (by omega), if_pos (by omega), hm]
  · by_cases e2 : i < a ∨ (i = a ∧ j < b)
    · rw [if_pos e2, if_pos (by omega)]
    · rw [if_neg e2, if_neg (by omega)]
theorem done_row {n a : Nat} {f : Nat → Nat → Int} {o : Int} {bs : List (List Nat × Int)} (h : Done n f o a n bs) : Done n f o (a + 1) (a + 2) bs := fun i j hi hj => by
  rw [h i j hi hj]
  by_cases e2 : i < a ∨ (i = a ∧ j < n)
  · rw [if_pos e2, if_pos (by omega)]
  · rw [if_neg e2, if_neg (by omega)]
theorem done_all {n b : Nat} {f : Nat → Nat → Int} {o : Int} {bs : List (List Nat × Int)} (hf : Anti n f) (h : Done n f o n b bs) : ∀ i j, i < n → j < n → cnt bs i j = f i j :=
  anti_ext (anti_cnt n bs) hf fun i j hi hj => by rw [h i j hi hj, if_pos (by omega)]
/-- all numbers above are like the first one -/
def Alike (n : Nat) (f : Nat → Nat → Int) : Prop := ∀ i j, i < j → j < n → f i j % 2 = f 0 1 % 2
end Hc

namespace Hc
open PySem PySem.Spec PyProof.Rows L2 Evl
/-! ### one of two rules -/
theorem pe_alt {X : Cx} {e : Expr} {t u : TE} (h1 : PE X e t) (h2 : PE X e u) : PE X e (fun σ H Q => t σ H Q ∨ u σ H Q) := ⟨fun pins s σ H Q I h => h.elim (h1.run pins s σ H Q I) (h2.run pins s σ H Q I)⟩
/-! ### max, min of a pair of numbers -/
/-- a pair's walk, for the two built-ins alike: the better of the two is handed on -/
theorem pair_walk {prog : Program} {w : World} {B : Around} {op : CmpOp} {sh : Shared} {q : Addr} {x y : Int} {tx ty : Tok} {bt : Nat → Nat → Bool} {R : Value → Shared → Prop} {F : Value → Shared → Prop} (hB : B.handled = none) (hp : sh.heap.IsTuple q #[.int x tx, .int y ty])
    (hc : CmpOf prog w B op (fun i v => (#[Value.int x tx, Value.int y ty] : Array Value)[i]? = some v) bt) (done : ∀ v hh tt, (v = .int x tx ∧ bt 1 0 = false ∨ v = .int y ty ∧ bt 1 0 = true) → (∀ c o, sh.heap.get? c = some o → hh.get? c = some o) → R v { sh with heap := hh, toks := tt }) :
    wpAny (model prog w) B (pyIter (.ref q)) (fun it s2 => ∃ I fp wr n P St bt', it = .ref I ∧ Walks prog w B I fp wr n P St ∧ St 0 s2.heap ∧ (∀ c ∈ fp, c < s2.heap.objs.size) ∧ 0 < n ∧ CmpOf prog w B op P bt' ∧
      ∀ v hh tt, P (argBest bt' (n - 1)) v → (∀ c o, c ∉ wr → s2.heap.get? c = some o → hh.get? c = some o) → R v { s2 with heap := hh, toks := tt }) F sh := by
  have lt : q < sh.heap.objs.size := hp.elim fun _ z => Heap.lt_size z.1
  apply wpAny_pyIter_tuple hp
  refine ⟨_, _, _, _, _, _, bt, rfl, Walks.tuple hB _ q (Nat.ne_of_lt lt) #[Value.int x tx, Value.int y ty], ⟨⟨_, Heap.get?_push_size _ rfl, rfl, rfl⟩, hp.push _⟩, ?_, by simp, hc, ?_⟩
  · intro c hc2
    rw [Heap.size_push]
    have : c = sh.heap.objs.size ∨ c = q := by simpa using hc2
    rcases this with e | e <;> rw [e]
    · exact Nat.lt_succ_self _
    · exact Nat.lt_succ_of_lt lt
  · intro v hh tt best keep
    refine done v hh tt ?_ fun c o ho => keep c o (fun z => ?_) (Heap.get?_push_of_some _ ho)
    · cases hb : bt 1 0 <;> simp [argBest, hb] at best
      · exact .inl ⟨best.symm, rfl⟩
      · exact .inr ⟨best.symm, rfl⟩
    · have z1 : c = sh.heap.objs.size := by simpa using z
      exact Nat.lt_irrefl _ (z1 ▸ Heap.lt_size ho)
def rMaxT (K : PySem.W.Frag) : List V → Hp → VK → Prop := fun vs H Q => ∃ (p : Addr) (x y : Int), vs = [V.ref p] ∧ SqT K H p [.int x, .int y] ∧ Q (.int (max x y)) H
def rMinT (K : PySem.W.Frag) : List V → Hp → VK → Prop := fun vs H Q => ∃ (p : Addr) (x y : Int), vs = [V.ref p] ∧ SqT K H p [.int x, .int y] ∧ Q (.int (min x y)) H
theorem maxTK {X : Cx} (K : PySem.W.Frag) (h : X.K = K := by rfl) (hc : X.calm = true := by rfl) : CallR X (.builtin "max") (rMaxT K) := by
  subst h
  rintro pins sh σ H _ us Q I rel ⟨p, x, y, rfl, hp, want⟩
  obtain ⟨its, rv, tup, _⟩ := I.tuple hp
  obtain ⟨_, _, rfl, ⟨tx, rfl⟩, ⟨ty, rfl⟩⟩ := vals2 rv
  rw [Vals.ref1 rel]
  refine call_max_walk (pair_walk (I.ok.hd hc) tup (CmpOf.ints_gt (fun i => if i = 0 then x else y) fun i v hv => ?_) fun v hh tt hv keep => ?_)
  · match i, hv with
    | 0, hv => exact ⟨tx, (Option.some.inj hv).symm⟩
    | 1, hv => exact ⟨ty, (Option.some.inj hv).symm⟩
    | _ + 2, hv => simp at hv
  · refine ⟨.int (max x y), H, I.kept keep, ?_, want⟩
    rcases hv with ⟨rfl, z⟩ | ⟨rfl, z⟩
    · have z2 : ¬ y > x := of_decide_eq_false z
      exact ⟨tx, by rw [show max x y = x by omega]⟩
    · have z2 : y > x := of_decide_eq_true z
      exact ⟨ty, by rw [show max x y = y by omega]⟩
theorem minTK {X : Cx} (K : PySem.W.Frag) (h : X.K = K := by rfl) (hc : X.calm = true := by rfl) : CallR X (.builtin "min") (rMinT K) := by
  subst h
  rintro pins sh σ H _ us Q I rel ⟨p, x, y, rfl, hp, want⟩
  obtain ⟨its, rv, tup, _⟩ := I.tuple hp
  obtain ⟨_, _, rfl, ⟨tx, rfl⟩, ⟨ty, rfl⟩⟩ := vals2 rv
  rw [Vals.ref1 rel]
  refine call_min_walk (pair_walk (I.ok.hd hc) tup (CmpOf.ints_lt (fun i => if i = 0 then x else y) fun i v hv => ?_) fun v hh tt hv keep => ?_)
  · match i, hv with
    | 0, hv => exact ⟨tx, (Option.some.inj hv).symm⟩
    | 1, hv => exact ⟨ty, (Option.some.inj hv).symm⟩
    | _ + 2, hv => simp at hv
  · refine ⟨.int (min x y), H, I.kept keep, ?_, want⟩
    rcases hv with ⟨rfl, z⟩ | ⟨rfl, z⟩
    · have z2 : ¬ y < x := of_decide_eq_false z
      exact ⟨tx, by rw [show min x y = x by omega]⟩
    · have z2 : y < x := of_decide_eq_true z
      exact ⟨ty, by rw [show min x y = y by omega]⟩
/-! ### how many unlike numbers -/
theorem firstMet_facts (val : Nat → Int) : ∀ i, (firstMet val i).Nodup ∧ ∀ x, x ∈ firstMet val i ↔ ∃ j, j < i ∧ val j = x
  | 0 => by
    rw [firstMet_zero]
    exact ⟨List.nodup_nil, fun x => ⟨fun h => by simp at h, fun ⟨j, h, _⟩ => by omega⟩⟩
  | i + 1 => by
    obtain ⟨h1, h2⟩ := firstMet_facts val i
    have e : firstMet val (i + 1) = if (firstMet val i).any (· == val i) then firstMet val i else firstMet val i ++ [val i] := by rw [firstMet_succ]; rfl
    rw [e]
    by_cases hb : (firstMet val i).any (· == val i) = true
    · rw [if_pos hb]
      refine ⟨h1, fun x => ⟨fun hx => ?_, fun ⟨j, hj, ej⟩ => ?_⟩⟩
      · obtain ⟨j, hj, ej⟩ := (h2 x).mp hx
        exact ⟨j, by omega, ej⟩
      · by_cases hji : j < i
        · exact (h2 x).mpr ⟨j, hji, ej⟩
        · have : j = i := by omega
          subst this
          obtain ⟨y, hy, ey⟩ := List.any_eq_true.mp hb
          have ey2 : y = val j := eq_of_beq ey
          rw [← ej, ← ey2]
          exact hy
    · rw [if_neg hb]
      have hni : val i ∉ firstMet val i := fun hm => hb (List.any_eq_true.mpr ⟨_, hm, beq_self_eq_true _⟩)
      refine ⟨?_, fun x => ⟨fun hx => ?_, fun ⟨j, hj, ej⟩ => ?_⟩⟩
      · rw [List.nodup_append]
        refine ⟨h1, by simp, fun a ha b hb' e2 => ?_⟩
        have e3 : b = val i := by simpa using hb'
        exact hni (by rw [← e3, ← e2]; exact ha)
      · rcases List.mem_append.mp hx with hx | hx
        · obtain ⟨j, hj, ej⟩ := (h2 x).mp hx
          exact ⟨j, by omega, ej⟩
        · have e3 : x = val i := by simpa using hx
          exact ⟨i, by omega, e3.symm⟩
      · by_cases hji : j < i
        · exact List.mem_append_left _ ((h2 x).mpr ⟨j, hji, ej⟩)
        · have : j = i := by omega
          subst this
          rw [← ej]
          exact List.mem_append_right _ (List.mem_singleton.mpr rfl)
theorem firstMet_list (ns : List Int) : (firstMet (fun i => ns.getD i 0) ns.length).Nodup ∧ ∀ x, x ∈ firstMet (fun i => ns.getD i 0) ns.length ↔ x ∈ ns := by
  obtain ⟨h1, h2⟩ := firstMet_facts (fun i => ns.getD i 0) ns.length
  refine ⟨h1, fun x => (h2 x).trans ⟨fun ⟨j, hj, ej⟩ => ?_, fun hx => ?_⟩⟩
  · rw [← ej]
    show ns.getD j 0 ∈ ns
    rw [List.getD_eq_getElem?_getD, List.getElem?_eq_getElem hj]
    exact List.getElem_mem hj
  · obtain ⟨j, hj, ej⟩ := List.mem_iff_getElem.mp hx
    refine ⟨j, hj, ?_⟩
    show ns.getD j 0 = x
    rw [List.getD_eq_getElem?_getD, List.getElem?_eq_getElem hj]
    exact ej
/-- set(xs): a new set of what is in xs -/
def rSetL (K : PySem.W.Frag) : List V → Hp → VK → Prop := fun vs H Q => ∃ (l : Addr) (ns : List Int), vs = [.ref l] ∧ SqL K H l (ns.map V.int) ∧ ns.length ≤ 4000 ∧ ∀ (p : Addr) (d : List Int), H p = none → d.Nodup → (∀ x, x ∈ d ↔ x ∈ ns) → d.length ≤ ns.length → Q (.ref p) (upd H p (.set (fun k => d.any (· == k)) d.length))
theorem setLK {X : Cx} (K : PySem.W.Frag) (h : X.K = K := by rfl) (hc : X.calm = true := by rfl) : CallR X (.type "set") (rSetL K) := by
  subst h
  rintro pins sh σ H _ us Q I rel ⟨l, ns, rfl, hl, small, want⟩
  obtain ⟨its, rv, pl, _⟩ := I.list hl
  have len : its.length = ns.length := by simpa using rv.length.symm
  obtain ⟨u1, u2⟩ := firstMet_list ns
  rw [Vals.ref1 rel]
  have size : its.toArray.size = ns.length := by simpa using len
  apply call_set_list (I.ok.hd hc) pl.isList (ns := ns) (by simpa using rv.ints) (by rw [size]; unfold scanBound; omega)
  intro hh tt new keep
  rw [size] at new
  exact ⟨.ref _, _, I.laid (o := .set _ _) (fun c o ho => keep c o (Heap.lt_size ho) ho) (Nat.le_refl _) new, rfl, want _ _ (I.hok.fresh (Nat.le_refl _)) u1 u2 (firstMet_length_le _ _)⟩
/-- len of such a set -/
def rLenZ : List V → Hp → VK → Prop := fun vs H Q => ∃ (p : Addr) (S : Int → Bool) (n : Nat), vs = [.ref p] ∧ H p = some (.set S n) ∧ n ≤ 4000 ∧ Q (.int (n : Nat)) H
theorem lenZ {X : Cx} : CallR X (.builtin "len") rLenZ := by
  rintro pins sh σ H _ us Q I rel ⟨p, S, n, rfl, hp, small, want⟩
  rw [Vals.ref1 rel]
  obtain ⟨ob, es, ep, tb, at1, ex, dat, _, _, _, fit, num⟩ := (show sh.heap.SetOf (intKind X.prog X.w) p S n from I.hok p _ hp)
  apply call_len_set at1 ex dat fit (by omega)
  exact ⟨.int (n : Nat), H, I.tok _, ⟨_, by rw [num]⟩, want⟩
end Hc
namespace Hc
open PySem PySem.Spec PyProof.Rows L2 Evl
/-! ### instances of own classes -/
/-- an instance of C has C as its type -/
def Typ (K : PySem.W.Frag) (C : Addr) : Prop := ∀ (H : Hp) (a dx : Addr) (fs : List (Str × V)), H a = some (.ins C dx fs) → TyX K H (.ref a) (.ref C)
theorem tyx_ins {K : PySem.W.Frag} {H : Hp} {a C dx : Addr} {fs : List (Str × V)} (e : H a = some (.ins C dx fs)) (_cl : Cls K C) (y : Typ K C) : TyX K H (.ref a) (.ref C) := y H a dx fs e
end Hc
namespace Hc
open PySem PySem.Spec PyProof.Rows L2 Evl
/-! ### ranges by counts -/
theorem walk_rg0 {n : Nat} : Walk (Itr 0 n) n (fun _ => True) (fun i H x H' => H' = H ∧ x = .int ((i : Nat) : Int)) :=
  walk_range.mono (fun _ h => h) fun i H x H' _ _ y => ⟨y.1, y.2.trans (by show V.int (0 + (i : Int)) = _; rw [Int.zero_add])⟩
theorem walk_rg {a n : Nat} : Walk (Itr (a : Int) n) n (fun _ => True) (fun i H x H' => H' = H ∧ x = .int ((a + i : Nat) : Int)) :=
  walk_range.mono (fun _ h => h) fun i H x H' _ _ y => ⟨y.1, y.2.trans (by show V.int ((a : Int) + (i : Int)) = _; rw [Int.natCast_add])⟩
end Hc
namespace Hc
open PySem PySem.Spec PyProof.Rows L2 Evl
/-! ### three comparisons in a row, as a value -/
/-- one link: the next thing, the comparison, and, if it holds, what is left of the row -/
def tLink (r : R2) (tb : TE) (Nx : V → Hp → Prop) (No : Hp → Prop) (x : V) : L2.St → Hp → Prop := fun σ H => tb σ H fun y H1 => r x y H1 fun z H2 => ∃ k, z = .bl k ∧ (if k = true then Nx y H2 else No H2)
theorem link_run {X : Cx} {b : Expr} {tb : TE} {pos : Pos} {op op' : CmpOp} {ops : List CmpOp} {r : R2} {more : Sem Value} {rest : List (Sem Value)} {Nx : V → Hp → Prop} {Q : VK} {pins : List (Addr × Obj)} {sh : Shared} {σ : L2.St} {H : Hp} {x : V} {u : Value}
    (ho : OpR X (compareOp op) r) (hb : PE X b tb) (I : Inv X pins σ H sh) (rx : RelV x u) (h : tLink r tb Nx (Q (.bl false)) x σ H)
    (go : ∀ y v s' H', Inv X pins σ H' s' → RelV y v → Nx y H' → wpAny (model X.prog X.w) X.A (compareChain pos v (op' :: ops) (more :: rest)) (EP X pins σ Q) X.xe s') :
    wpAny (model X.prog X.w) X.A (compareChain pos u (op :: op' :: ops) (eval b X.env :: more :: rest)) (EP X pins σ Q) X.xe sh := by
  apply chain_link
  refine thn (hb.run pins sh σ H _ I h) ?_
  rintro v s1 ⟨y, H1, I1, ry, q1⟩
  refine thn (ho pins s1 σ H1 x y u v _ I1 rx ry q1) ?_
  rintro c s2 ⟨_, H2, I2, rc, k, rfl, q2⟩
  cases rc
  apply wpAny_truthy_bool
  by_cases hk : k = true
  · subst hk
    exact go y v s2 H2 I2 ry q2
  · have : k = false := by simpa using hk
    subst this
    exact ⟨.bl false, H2, I2, rfl, q2⟩
def tChain3 (r r' r'' : R2) (ta tb tc td : TE) : TE := fun σ H Q => ta σ H fun x H1 => tLink r tb (fun y H2 => tLink r' tc (fun w' H3 => td σ H3 fun v' H4 => r'' w' v' H4 Q) (Q (.bl false)) y σ H2) (Q (.bl false)) x σ H1
theorem pe_chain3 {X : Cx} {a b c d : Expr} {ta tb tc td : TE} {pos : Pos} {op op' op'' : CmpOp} {r r' r'' : R2} (ho : OpR X (compareOp op) r) (ho' : OpR X (compareOp op') r') (ho'' : OpR X (compareOp op'') r'') (ha : PE X a ta) (hb : PE X b tb) (hc : PE X c tc) (hd : PE X d td)
    (hm : lastMarks [op, op', op''] [b, c, d] = false := by with_unfolding_all rfl) : PE X (.Compare a [op, op', op''] [b, c, d] pos) (tChain3 r r' r'' ta tb tc td) := by
  constructor
  intro pins sh σ H Q I h
  apply Compare_chain (hm := hm)
  refine thn (ha.run pins sh σ H _ I h) ?_
  rintro u s1 ⟨x, H1, I1, rx, q1⟩
  refine link_run ho hb I1 rx q1 fun y v s2 H2 I2 ry q2 => link_run ho' hc I2 ry q2 fun w' z s3 H3 I3 rz q3 => chain_last ?_
  exact thn (hd.run pins s3 σ H3 _ I3 q3) fun e s4 ⟨v', H4, I4, rv, q4⟩ => ho'' pins s4 σ H4 w' v' z e Q I4 rz rv q4
end Hc
namespace Hc
open PySem PySem.Spec PyProof.Rows L2 Evl
theorem BalsN.exB {H0 H H' : Hp} {x D : Addr} {ts ls : List Addr} {bs : List (List Nat × Int)} (B : BalsN H0 H D ts ls bs) (hx : H0 x ≠ none) (e : ExB x H H') : BalsN H0 H' D ts ls bs := by
  have nD : D ≠ x := fun q => hx (q ▸ B.fD)
  refine ⟨e _ _ nD B.top, B.lt, B.ll, fun i t l b ht hl hb => ?_, B.nd, B.fl, B.ft, B.fD⟩
  obtain ⟨h1, h2⟩ := B.at_ i t l b ht hl hb
  exact ⟨e _ _ (fun q => hx (q ▸ B.ft t (List.mem_of_getElem? ht))) h1, e _ _ (fun q => hx (q ▸ B.fl l (List.mem_of_getElem? hl))) h2⟩
theorem BalsN.mono {H0 H H' : Hp} {D : Addr} {ts ls : List Addr} {bs : List (List Nat × Int)} (B : BalsN H0 H D ts ls bs) (e : Ex H H') : BalsN H0 H' D ts ls bs :=
  ⟨e _ _ B.top, B.lt, B.ll, fun i t l b ht hl hb => ⟨e _ _ (B.at_ i t l b ht hl hb).1, e _ _ (B.at_ i t l b ht hl hb).2⟩, B.nd, B.fl, B.ft, B.fD⟩
theorem BalsN.base {Hb H0 H : Hp} {D : Addr} {ts ls : List Addr} {bs : List (List Nat × Int)} (B : BalsN H0 H D ts ls bs) (e : Ex Hb H0) : BalsN Hb H D ts ls bs :=
  ⟨B.top, B.lt, B.ll, B.at_, B.nd, fun l h => fresh_back e (B.fl l h), fun t h => fresh_back e (B.ft t h), fresh_back e B.fD⟩
end Hc
namespace Hc
open PySem PySem.Spec PyProof.Rows L2 Evl
section
variable {J : It} {n : Nat} {G : Hp → Prop} {Y : Nat → Hp → V → Hp → Prop} {g : TG} {tt : TT} {te : TE} {vs : List Nat} {σ : L2.St} {H1 : Hp} {D : Addr} {Qd : Hp → Prop}
/-- some of the items, by value -/
theorem lc_filt (w : Walk J n G Y) (hD : H1 D = none) (hn : n ≤ 90000) (hG : ∀ H, Ex H1 H → G H) (p : Nat → Bool) (v : Nat → V)
    (hs : ∀ (i : Nat) (x : V) (H H' : Hp), i < n → Ex H1 H → Y i H x H' → ∀ (A : Hp → Prop) (Qc : VK), (∀ H3, Ex H H3 → p i = false → A H3) → (∀ H4, Ex H H4 → p i = true → Qc (v i) H4) → g x (wipe σ vs) H' fun σ2 H2 => wipe σ2 vs = wipe σ vs ∧ tt σ2 H2 fun b H3 => if b = true then te σ2 H3 Qc else A H3)
    (hd : ∀ H, Ex H1 H → H D = some (.lst (((List.range n).filter p).map v)) → Qd H) :
    ∃ W : Nat → Nat → Hp → Prop, (∃ m, W 0 m (upd H1 D (.lst []))) ∧ ∀ i m H, W i m H → (J.stop i H ∧ Qd H) ∨ (J.go i H ∧ ∃ Nx : Hp → Prop, (∀ H', Nx H' → ∃ m', m' < m ∧ W (i + 1) m' H') ∧ ∀ x H', J.yld i H x H' → g x (wipe σ vs) H' fun σ2 H2 => wipe σ2 vs = wipe σ vs ∧ tt σ2 H2 fun b H3 => if b = true then te σ2 H3 fun y H4 => ∃ acc, H4 D = some (.lst acc) ∧ acc.length < sizeLine ∧ Nx (upd H4 D (.lst (acc ++ [y]))) else Nx H3) := by
  refine lc_it w (fun i H => i ≤ n ∧ Ex H1 H ∧ H D = some (.lst (((List.range i).filter p).map v))) ⟨Nat.zero_le _, Ex.new hD, upd_same⟩ (fun i H _ ⟨_, e, _⟩ => hG H e) ?_ (fun H ⟨_, e, h1⟩ => hd H e h1)
  rintro i x H H' hi ⟨_, e, h1⟩ hy
  refine hs i x H H' hi e hy _ _ (fun H3 e3 hp => ⟨hi, e.trans e3, ?_⟩) (fun H4 e4 hp => ⟨_, e4 _ _ h1, ?_, hi, (e.trans e4).mut hD, ?_⟩)
  · rw [e3 _ _ h1, List.range_succ, List.filter_append]
    simp [hp]
  · refine sz_lt ?_
    rw [List.length_map]
    have := List.length_filter_le p (List.range i)
    rw [List.length_range] at this
    omega
  · rw [upd_same, List.range_succ, List.filter_append]
    simp [hp]
end
theorem eqV_int (i j : Int) : eqV (.int i) (.int j) = (i == j) := rfl
theorem dec_int (i j : Int) : decide (V.int i = V.int j) = decide (i = j) := by
  by_cases h : i = j
  · rw [decide_eq_true h, decide_eq_true (by rw [h])]
  · rw [decide_eq_false h, decide_eq_false (fun e => h (by injection e))]
theorem dec_bl (i j : Bool) : decide (V.bl i = V.bl j) = (i == j) := by
  cases i <;> cases j <;> rfl
/-- two new ballots -/
theorem balsN_two {H0 H : Hp} {D t1 t2 l1 l2 : Addr} {b1 b2 : List Nat × Int} (top : H D = some (.lst [.ref t1, .ref t2])) (h1 : H t1 = some (.tup [.ref l1, .int b1.2])) (h2 : H l1 = some (.lst (nv b1.1))) (h3 : H t2 = some (.tup [.ref l2, .int b2.2])) (h4 : H l2 = some (.lst (nv b2.1)))
    (ne : l1 ≠ l2) (f1 : H0 l1 = none) (f2 : H0 l2 = none) (f3 : H0 t1 = none) (f4 : H0 t2 = none) (f5 : H0 D = none) : BalsN H0 H D [t1, t2] [l1, l2] [b1, b2] := by
  refine ⟨top, rfl, rfl, fun i t l b ht hl hb => ?_, ?_, fun l hl => ?_, fun t ht => ?_, f5⟩
  · match i with
    | 0 =>
      cases (show some t1 = some t from ht)
      cases (show some l1 = some l from hl)
      cases (show some b1 = some b from hb)
      exact ⟨h1, h2⟩
    | 1 =>
      cases (show some t2 = some t from ht)
      cases (show some l2 = some l from hl)
      cases (show some b2 = some b from hb)
      exact ⟨h3, h4⟩
    | k + 2 => simp at ht
  · simp [ne]
  · rcases List.mem_cons.mp hl with rfl | hl
    · exact f1
    · have e : l = l2 := by simpa using hl
      rw [e]
      exact f2
  · rcases List.mem_cons.mp ht with rfl | ht
    · exact f3
    · have e : t = t2 := by simpa using ht
      rw [e]
      exact f4
theorem ne_of_fresh {H : Hp} {a b : Addr} {o : HO} (h : H a = some o) (hb : H b = none) : a ≠ b := fun e => by
  rw [e, hb] at h
  cases h
theorem paired_of {K : PySem.W.Frag} {H : Hp} : ∀ (ts ls : List Addr) (bs : List (List Nat × Int)), ts.length = bs.length → ls.length = bs.length → (∀ (i : Nat) (t l : Addr) (b : List Nat × Int), ts[i]? = some t → ls[i]? = some l → bs[i]? = some b → H t = some (.tup [.ref l, .int b.2]) ∧ H l = some (.lst (nv b.1))) → Paired (BalR K H) (ts.map V.ref) bs
  | [], _, [], _, _, _ => .nil
  | [], _, _ :: _, hl, _, _ => by simp at hl
  | _ :: _, _, [], hl, _, _ => by simp at hl
  | _ :: _, [], _ :: _, _, hl, _ => by simp at hl
  | t :: ts, l :: ls, b :: bs, hl, hl2, h => by
    obtain ⟨q1, q2⟩ := h 0 t l b rfl rfl rfl
    exact .cons ⟨t, l, rfl, st_of q1, sq_of q2⟩ (paired_of ts ls bs (by simpa using hl) (by simpa using hl2) fun i t' l' b' a1 a2 a3 => h (i + 1) t' l' b' (by simpa using a1) (by simpa using a2) (by simpa using a3))
theorem BalsN.paired {K : PySem.W.Frag} {H0 H : Hp} {D : Addr} {ts ls : List Addr} {bs : List (List Nat × Int)} (B : BalsN H0 H D ts ls bs) : Paired (BalR K H) (ts.map V.ref) bs := paired_of ts ls bs B.lt B.ll B.at_
/-- new ballots without F -/
theorem BalsN.rem {K : PySem.W.Frag} {H0 H : Hp} {F D : Addr} {ts ls : List Addr} {bs : List (List Nat × Int)} (B : BalsN H0 H D ts ls bs) (hF : H0 F ≠ none) : Paired (BalR K (Hc.rem H F)) (ts.map V.ref) bs := by
  have ne : ∀ a, H0 a = none → a ≠ F := fun a h e => hF (by rw [← e]; exact h)
  refine paired_of ts ls bs B.lt B.ll fun i t l b ht hl hb => ?_
  rw [rem_ne (ne _ (B.ft t (List.mem_of_getElem? ht))), rem_ne (ne _ (B.fl l (List.mem_of_getElem? hl)))]
  exact B.at_ i t l b ht hl hb
end Hc
namespace Hc
open PySem PySem.Spec PyProof.Rows L2 Evl
theorem ex_made {H : Hp} {x dx C : Addr} (nx : H x = none) (ndx : H dx = none) (ne : dx ≠ x) : Ex H (upd (upd H dx (.own x)) x (.ins C dx [])) := (Ex.new ndx).trans (Ex.new (by rw [upd_ne ne.symm]; exact nx))
theorem ex_after {H H3 : Hp} {x dx C : Addr} (nx : H x = none) (ndx : H dx = none) (ne : dx ≠ x) (eB : ExB x (upd (upd H dx (.own x)) x (.ins C dx [])) H3) : Ex H H3 := fun a o ha => eB a o (ne_of_fresh ha nx) (ex_made nx ndx ne a o ha)
end Hc
namespace Hc
open PySem PySem.Spec PyProof.Rows L2 Evl
/-! ### ballots whose lists are the program's own -/
def BalW (H : Hp) (x : V) (b : List Nat × Int) : Prop := ∃ (t l : Addr), x = .ref t ∧ H t = some (.tup [.ref l, .int b.2]) ∧ H l = some (.lst (nv b.1))
def BalsW (H : Hp) (v : V) (bs : List (List Nat × Int)) : Prop := ∃ (a : Addr) (xs : List V), v = .ref a ∧ H a = some (.lst xs) ∧ Paired (BalW H) xs bs
section
variable {K : PySem.W.Frag} {H H' : Hp} {v x : V} {bs : List (List Nat × Int)} {b : List Nat × Int}
theorem BalW.mono (h : BalW H x b) (e : Ex H H') : BalW H' x b := by
  obtain ⟨t, l, h1, h2, h3⟩ := h
  exact ⟨t, l, h1, e _ _ h2, e _ _ h3⟩
theorem BalsW.mono (h : BalsW H v bs) (e : Ex H H') : BalsW H' v bs := by
  obtain ⟨a, xs, h1, h2, h3⟩ := h
  exact ⟨a, xs, h1, e _ _ h2, Paired.mapP h3 fun _ _ q => q.mono e⟩
theorem BalW.rd (h : BalW H x b) : BalR K H x b := by
  obtain ⟨t, l, h1, h2, h3⟩ := h
  exact ⟨t, l, h1, st_of h2, sq_of h3⟩
theorem BalsW.rd (h : BalsW H v bs) : BalsR K H v bs := by
  obtain ⟨a, xs, h1, h2, h3⟩ := h
  exact ⟨a, xs, h1, sq_of h2, Paired.mapP h3 fun _ _ q => q.rd⟩
end
theorem pairedW_of {H : Hp} : ∀ (ts ls : List Addr) (bs : List (List Nat × Int)), ts.length = bs.length → ls.length = bs.length → (∀ (i : Nat) (t l : Addr) (b : List Nat × Int), ts[i]? = some t → ls[i]? = some l → bs[i]? = some b → H t = some (.tup [.ref l, .int b.2]) ∧ H l = some (.lst (nv b.1))) → Paired (BalW H) (ts.map V.ref) bs
  | [], _, [], _, _, _ => .nil
  | [], _, _ :: _, hl, _, _ => by simp at hl
  | _ :: _, _, [], hl, _, _ => by simp at hl
  | _ :: _, [], _ :: _, _, hl, _ => by simp at hl
  | t :: ts, l :: ls, b :: bs, hl, hl2, h => by
    obtain ⟨q1, q2⟩ := h 0 t l b rfl rfl rfl
    exact .cons ⟨t, l, rfl, q1, q2⟩ (pairedW_of ts ls bs (by simpa using hl) (by simpa using hl2) fun i t' l' b' a1 a2 a3 => h (i + 1) t' l' b' (by simpa using a1) (by simpa using a2) (by simpa using a3))
theorem BalsN.w {H0 H : Hp} {D : Addr} {ts ls : List Addr} {bs : List (List Nat × Int)} (B : BalsN H0 H D ts ls bs) : BalsW H (.ref D) bs := ⟨D, _, rfl, B.top, pairedW_of ts ls bs B.lt B.ll B.at_⟩
end Hc
namespace Hc
open PySem PySem.Spec PyProof.Rows L2 Evl
theorem rowV_take {n i : Nat} {g : Nat → Int} (h : i ≤ n) : (rowV n g).take i = rowV i g := by
  unfold rowV
  rw [← List.map_take, List.take_range, Nat.min_eq_left h]
end Hc
namespace Hc
open PySem PySem.Spec PyProof.Rows L2 Evl
/-! ### told ballots, the first one's line made longer, one more behind -/
theorem balsN_neB {H0 H : Hp} {B : Addr} {ts ls : List Addr} {bs : List (List Nat × Int)} (BN : BalsN H0 H B ts ls bs) {i : Nat} {l : Addr} (hl : ls[i]? = some l) : l ≠ B := fun e => by
  subst e
  have hi : i < ls.length := (List.getElem?_eq_some_iff.mp hl).1
  have hb : i < bs.length := by rw [← BN.ll]; exact hi
  have ht : i < ts.length := by rw [BN.lt]; exact hb
  obtain ⟨_, h2⟩ := BN.at_ i _ l _ (List.getElem?_eq_getElem ht) hl (List.getElem?_eq_getElem hb)
  rw [BN.top] at h2
  have h3 : ts.map V.ref = nv bs[i].1 := by injection Option.some.inj h2
  cases hts : ts with
  | nil => rw [hts] at ht; simp at ht
  | cons t0 ts' =>
    rw [hts] at h3
    unfold nv at h3
    cases hb1 : bs[i].1 with
    | nil => rw [hb1] at h3; simp at h3
    | cons k ks =>
      rw [hb1] at h3
      simp at h3
theorem balsW_bent {H0 H H' : Hp} {B tp p : Addr} {ts ls : List Addr} {bs : List (List Nat × Int)} (BN : BalsN H0 H B ts ls bs) (hB : H' B = some (.lst (ts.map V.ref ++ [.ref tp]))) (htp : H' tp = some (.tup [.ref p, .int 1])) (hp : H' p = some (.lst (nv [0])))
    (hl : ∀ l b, ls[0]? = some l → bs[0]? = some b → H' l = some (.lst (nv (b.1 ++ [0])))) (hk : ∀ a o, a ≠ B → ls[0]? ≠ some a → H a = some o → H' a = some o) :
    BalsW H' (.ref B) ((bs.take 1).map (fun b => (b.1 ++ [0], b.2)) ++ bs.drop 1 ++ [([0], 1)]) := by
  refine ⟨B, _, rfl, hB, Paired.append ?_ (.cons ⟨tp, p, rfl, htp, hp⟩ .nil)⟩
  cases hbs : bs with
  | nil =>
    have h1 := BN.lt
    rw [hbs] at h1
    have h2 : ts = [] := List.length_eq_zero_iff.mp h1
    rw [h2]
    exact .nil
  | cons b0 bs' =>
    subst hbs
    have h1 := BN.lt
    have h2 := BN.ll
    cases hts : ts with
    | nil => rw [hts] at h1; simp at h1
    | cons t0 ts' =>
      cases hls : ls with
      | nil => rw [hls] at h2; simp at h2
      | cons l0 ls' =>
        subst hts hls
        have ne0 : ∀ {i : Nat} {t : Addr}, (t0 :: ts')[i]? = some t → t ≠ B ∧ (l0 :: ls')[0]? ≠ some t := fun {i t} ht => by
          have hi : i < (t0 :: ts').length := (List.getElem?_eq_some_iff.mp ht).1
          obtain ⟨q1, q2⟩ := BN.at_ i t _ _ ht (List.getElem?_eq_getElem (by omega : i < (l0 :: ls').length)) (List.getElem?_eq_getElem (by omega : i < (b0 :: bs').length))
          refine ⟨fun e => ?_, fun e => ?_⟩
          · rw [e, BN.top] at q1
            cases q1
          · have e2 : l0 = t := by simpa using e
            obtain ⟨_, q4⟩ := BN.at_ 0 t0 l0 b0 rfl rfl rfl
            rw [e2, q1] at q4
            cases q4
        refine .cons ⟨t0, l0, rfl, ?_, hl l0 b0 rfl rfl⟩ (pairedW_of ts' ls' bs' (by simpa using h1) (by simpa using h2) fun i t l b a1 a2 a3 => ?_)
        · obtain ⟨q1, q2⟩ := BN.at_ 0 t0 l0 b0 rfl rfl rfl
          exact hk _ _ (ne0 (i := 0) rfl).1 (ne0 (i := 0) rfl).2 q1
        · obtain ⟨q1, q2⟩ := BN.at_ (i + 1) t l b (by simpa using a1) (by simpa using a2) (by simpa using a3)
          have n1 := ne0 (i := i + 1) (t := t) (by simpa using a1)
          refine ⟨hk _ _ n1.1 n1.2 q1, hk _ _ (balsN_neB BN (i := i + 1) (by simpa using a2)) (fun e => ?_) q2⟩
          have e2 : l0 = l := by simpa using e
          have := nd_ix BN.nd (i := 0) (j := i + 1) (x := l) (by simpa using e) (by simpa using a2)
          omega
def dLines (bs : List (List Nat × Int)) : PyData := .list (bs.map fun b => .list (b.1.map fun (k : Nat) => .int (k : Int)))
theorem lay_line (ks : List Nat) : (PyData.list (ks.map fun (k : Nat) => .int (k : Int))).canLay0 = true := lay_list _ fun d hd => by
  obtain ⟨j, _, rfl⟩ := List.mem_map.mp hd
  exact lay_int _
theorem lay_lines (bs : List (List Nat × Int)) : (dLines bs).canLay0 = true := lay_list _ fun d hd => by
  obtain ⟨j, _, rfl⟩ := List.mem_map.mp hd
  exact lay_line _
theorem shaped_lines (bs : List (List Nat × Int)) : SeqAt.shaped (dLines bs) = true := shaped_of (lay_lines bs) (depth_list (k := 1) fun d hd => by
  obtain ⟨j, _, rfl⟩ := List.mem_map.mp hd
  refine depth_list (k := 0) fun e he => ?_
  obtain ⟨i, _, rfl⟩ := List.mem_map.mp he
  exact depth_int _) (by decide)
theorem dp_nv {K : PySem.W.Frag} {H : Hp} {a : Addr} {ks : List Nat} (h : SqL K H a (nv ks)) : Dp K H (.ref a) (.list (ks.map fun (k : Nat) => .int (k : Int))) := by
  rw [nv_iv] at h
  have e := dp_ints h
  rw [List.map_map] at e
  exact e
theorem dp_lines {K : PySem.W.Frag} {H : Hp} {a : Addr} {ps : List Addr} {bs : List (List Nat × Int)} (h : H a = some (.lst (ps.map V.ref))) (hl : ps.length = bs.length) (hp : ∀ (i : Nat) (p : Addr) (b : List Nat × Int), ps[i]? = some p → bs[i]? = some b → H p = some (.lst (nv b.1))) : Dp K H (.ref a) (dLines bs) := by
  refine .lst (sq_of h) (dpAll_of (by rw [List.length_map, List.length_map, hl]) fun i x d hx hd => ?_)
  rw [List.getElem?_map] at hx hd
  cases e : ps[i]? with
  | none => rw [e] at hx; cases hx
  | some p =>
    rw [e] at hx
    cases hx
    cases e2 : bs[i]? with
    | none => rw [e2] at hd; cases hd
    | some b =>
      rw [e2] at hd
      cases hd
      exact dp_nv (sq_of (hp i p b e e2))
theorem ecut1 (l : List Addr) : cutV (l.map V.ref) (some 1) none = (l.drop 1).map V.ref := by
  rw [show (1 : Int) = ((1 : Nat) : Int) from rfl, cut_from, List.map_drop]
theorem ecut0 (l : List Addr) : cutV (l.map V.ref) none (some 1) = (l.take 1).map V.ref := by
  rw [show (1 : Int) = ((1 : Nat) : Int) from rfl, cut_to, List.map_take]
end Hc
namespace Hc
open PySem PySem.Spec PyProof.Rows L2 Evl
theorem fldK {X : Cx} {e : Expr} {ta : TE} {f : Str} {pos : Pos} (K : PySem.W.Frag) (he : PE X e ta) (hb : attributeBase e f X.env (eval e X.env) = eval e X.env := by rfl) (h : X.K = K := by rfl) : PE X (.Attribute e f pos) (tFld K ta f) := by
  cases h
  exact pe_fld he hb
end Hc
namespace Hc
open PySem PySem.Spec PyProof.Rows L2 Evl
theorem rowV_reverse {n : Nat} {g : Nat → Int} : (rowV n g).reverse = rowV n (fun j => g (n - 1 - j)) := by
  apply List.ext_getElem?
  intro j
  by_cases hj : j < n
  · rw [List.getElem?_reverse (by rw [rowV_length]; exact hj), rowV_length, rowV_get (by omega), rowV_get hj]
  · rw [List.getElem?_eq_none (by rw [List.length_reverse, rowV_length]; omega), List.getElem?_eq_none (by rw [rowV_length]; omega)]
/-! ### written tables -/
def litF (ls : List (List Int)) (i j : Nat) : Int := (ls.getD i []).getD j 0
theorem rowV_lit {n : Nat} {l : List Int} (h : l.length = n) : rowV n (fun j => l.getD j 0) = iv l := by
  apply List.ext_getElem?
  intro j
  by_cases hj : j < n
  · unfold iv
    rw [rowV_get hj, List.getElem?_map, List.getElem?_eq_getElem (by omega), List.getD_eq_getElem?_getD, List.getElem?_eq_getElem (by omega)]
    rfl
  · rw [List.getElem?_eq_none (by rw [rowV_length]; omega), List.getElem?_eq_none (by rw [iv_length]; omega)]
theorem tabR_lit {K : PySem.W.Frag} {H : Hp} {t : Addr} {rs : List Addr} (ls : List (List Int)) (top : H t = some (.lst (rs.map V.ref))) (hsq : ∀ l ∈ ls, l.length = ls.length) (hr : Paired (fun r l => H r = some (.lst (iv l))) rs ls) : TabR K H (.ref t) ls.length (litF ls) := by
  refine ⟨t, rs, rfl, Paired.len hr, sq_of top, fun i r h => ?_⟩
  obtain ⟨l, h1, h2⟩ := Paired.get hr h
  have e : rowV ls.length (litF ls i) = iv l := by
    rw [← rowV_lit (hsq l (List.mem_of_getElem? h1))]
    refine rowV_congr fun j _ => ?_
    unfold litF
    rw [show ls.getD i [] = l by rw [List.getD_eq_getElem?_getD, h1]; rfl]
  rw [e]
  exact sq_of h2
end Hc
namespace Hc
open PySem PySem.Spec PyProof.Rows L2 Evl
theorem catTK {X : Cx} (K : PySem.W.Frag) (h : X.K = K := by rfl) : OpR X (binaryOp .Add) (rCatT K) := by cases h; exact op_catT
theorem ex_rem {H H' : Hp} {F : Addr} (e : Ex H H') (hF : H F = none) : Ex H (rem H' F) := fun a o ha => by
  rw [rem_ne (ne_of_fresh ha hF)]
  exact e a o ha
end Hc
namespace Hc
open PySem PySem.Spec PyProof.Rows L2 Evl
/-! ### a list of lists of ballots that grows -/
def GoodB (H : Hp) (x : V) : Prop := ∃ bs, BalsW H x bs ∧ bs.length ≤ 100 ∧ ∀ b ∈ bs, b.1.length < 60
theorem GoodB.mono {H H' : Hp} {x : V} (h : GoodB H x) (e : Ex H H') : GoodB H' x := by
  obtain ⟨bs, h1, h2, h3⟩ := h
  exact ⟨bs, h1.mono e, h2, h3⟩
def Tried (H : Hp) (F : Addr) (k : Nat) : Prop := ∃ xs, H F = some (.lst xs) ∧ xs.length ≤ k ∧ ∀ x ∈ xs, GoodB (rem H F) x
theorem Tried.push {H' H'' : Hp} {F : Addr} {k : Nat} {xs : List V} {p : V} (hl : xs.length ≤ k) (h : ∀ x ∈ xs, GoodB (rem H' F) x) (e : Ex H' H'') (hp : GoodB (rem H'' F) p) : Tried (upd H'' F (.lst (xs ++ [p]))) F (k + 1) := by
  refine ⟨_, upd_same, by rw [List.length_append]; show _ + 1 ≤ _; omega, fun x hx => ?_⟩
  rw [rem_upd]
  rcases List.mem_append.mp hx with hx | hx
  · exact (h x hx).mono (rem_mono e)
  · have : x = p := by simpa using hx
    rw [this]
    exact hp
theorem BalsN.remW {H0 H : Hp} {F D : Addr} {ts ls : List Addr} {bs : List (List Nat × Int)} (B : BalsN H0 H D ts ls bs) (hF : H0 F ≠ none) : BalsW (Hc.rem H F) (.ref D) bs := by
  have ne : ∀ a, H0 a = none → a ≠ F := fun a h e => hF (by rw [← e]; exact h)
  refine ⟨D, _, rfl, by rw [rem_ne (ne _ B.fD)]; exact B.top, pairedW_of ts ls bs B.lt B.ll fun i t l b ht hl hb => ?_⟩
  rw [rem_ne (ne _ (B.ft t (List.mem_of_getElem? ht))), rem_ne (ne _ (B.fl l (List.mem_of_getElem? hl)))]
  exact B.at_ i t l b ht hl hb
/-- ballots and more behind -/
theorem goodB_cat {H : Hp} {a : Addr} {xs ys : List V} {bs cs : List (List Nat × Int)} (h : H a = some (.lst (xs ++ ys))) (h1 : Paired (BalW H) xs bs) (h2 : Paired (BalW H) ys cs) (hl : bs.length + cs.length ≤ 100) (k1 : ∀ b ∈ bs, b.1.length < 60) (k2 : ∀ b ∈ cs, b.1.length < 60) : GoodB H (.ref a) :=
  ⟨bs ++ cs, ⟨a, _, rfl, h, Paired.append h1 h2⟩, by rw [List.length_append]; exact hl, fun b hb => (List.mem_append.mp hb).elim (k1 b) (k2 b)⟩
theorem rep_nv (n : Nat) : (List.replicate n [V.int 0]).flatten = nv (List.replicate n 0) := by
  unfold nv
  rw [List.map_replicate]
  induction n with
  | zero => rfl
  | succ n ih => rw [List.replicate_succ, List.flatten_cons, ih, List.replicate_succ]; rfl
end Hc
namespace Hc
open PySem PySem.Spec PyProof.Rows L2 Evl
theorem named {H H' : Hp} (e : Ex H H') : ∃ H5, H5 = H' := ⟨_, rfl⟩
end Hc

/-! Plain laws of rings and of lists without a thing twice: no program in sight. -/
namespace Hc
theorem perm_of_sub : ∀ (d l : List Int), d.Nodup → (∀ x ∈ d, x ∈ l) → l.length ≤ d.length → d.Perm l
  | [], l, _, _, hl => by
    have : l = [] := List.length_eq_zero_iff.mp (by simpa using hl)
    rw [this]
  | x :: d, l, hd, hs, hl => by
    rw [List.nodup_cons] at hd
    have hx : x ∈ l := hs x (List.mem_cons_self ..)
    have h1 : l.Perm (x :: l.erase x) := List.perm_cons_erase hx
    have h2 : d.Perm (l.erase x) := by
      refine perm_of_sub d (l.erase x) hd.2 (fun y hy => ?_) ?_
      · have hy2 : y ∈ l := hs y (List.mem_cons_of_mem _ hy)
        have hne : y ≠ x := fun e => hd.1 (e ▸ hy)
        exact (List.mem_erase_of_ne hne).mpr hy2
      · rw [List.length_erase_of_mem hx]
        have : l.length ≤ d.length + 1 := by simpa using hl
        omega
    exact (h2.cons x).trans h1.symm
theorem sub_len (d l : List Int) (hd : d.Nodup) (hs : ∀ x ∈ d, x ∈ l) : d.length ≤ l.length := by
  induction d generalizing l with
  | nil => simp
  | cons x d ih =>
    rw [List.nodup_cons] at hd
    have hx : x ∈ l := hs x (List.mem_cons_self ..)
    have h2 := ih (l.erase x) hd.2 (fun y hy => by
      have hy2 : y ∈ l := hs y (List.mem_cons_of_mem _ hy)
      have hne : y ≠ x := fun e => hd.1 (e ▸ hy)
      exact (List.mem_erase_of_ne hne).mpr hy2)
    rw [List.length_erase_of_mem hx] at h2
    have := List.length_pos_of_mem hx
    rw [List.length_cons]
    omega
theorem set_len {d l : List Int} (hd : d.Nodup) (hm : ∀ x, x ∈ d ↔ x ∈ l) : d.length = l.length ↔ l.Nodup := by
  constructor
  · intro h
    exact (perm_of_sub d l hd (fun x hx => (hm x).mp hx) (by omega)).nodup hd
  · intro h
    exact ((List.perm_ext_iff_of_nodup hd h).mpr hm).length_eq
/-! ### around -/
def at0 (ns : List Int) (i : Nat) : Int := ns.getD i 0
def ringBack (f : Nat → Nat → Int) (ns : List Int) : Bool := (List.range ns.length).all fun i => decide (0 < f (at0 ns (if i = 0 then ns.length - 1 else i - 1)).toNat (at0 ns i).toNat)
def ringFore (f : Nat → Nat → Int) (ns : List Int) : Bool := (List.range ns.length).all fun i => decide (0 < f (at0 ns i).toNat (at0 ns (if i + 1 = ns.length then 0 else i + 1)).toNat)
theorem ring_turn (f : Nat → Nat → Int) (ns : List Int) : ringBack f ns = ringFore f ns := by
  unfold ringBack ringFore
  rw [Bool.eq_iff_iff, List.all_eq_true, List.all_eq_true]
  constructor
  · intro h i hi
    rw [List.mem_range] at hi
    by_cases e : i + 1 = ns.length
    · have h1 := of_decide_eq_true (h 0 (List.mem_range.mpr (by omega)))
      rw [if_pos rfl] at h1
      rw [if_pos e]
      rw [show ns.length - 1 = i by omega] at h1
      exact decide_eq_true h1
    · have h1 := of_decide_eq_true (h (i + 1) (List.mem_range.mpr (by omega)))
      rw [if_neg (by omega), show i + 1 - 1 = i by omega] at h1
      rw [if_neg e]
      exact decide_eq_true h1
  · intro h i hi
    rw [List.mem_range] at hi
    by_cases e : i = 0
    · subst e
      have h1 := of_decide_eq_true (h (ns.length - 1) (List.mem_range.mpr (by omega)))
      rw [if_pos (by omega)] at h1
      rw [if_pos rfl]
      exact decide_eq_true h1
    · have h1 := of_decide_eq_true (h (i - 1) (List.mem_range.mpr (by omega)))
      rw [if_neg (by omega), show i - 1 + 1 = i by omega] at h1
      rw [if_neg e]
      exact decide_eq_true h1
def inB (n : Nat) (k : Int) : Bool := decide (0 ≤ k) && decide (k < (n : Int))
def shN (n : Nat) (f : Nat → Nat → Int) (w : Int) : Bool := inB n w && (List.range n).all fun j => decide (0 ≤ f w.toNat j)
def shR (n : Nat) (f : Nat → Nat → Int) (ns : List Int) : Bool := !ns.isEmpty && (decide ns.Nodup && (ns.all (inB n) && ringBack f ns))
end Hc

/-! Plain laws of strongest chains: no program in sight. -/
namespace Hc
/-- one more candidate let in between -/
def phase (m : Nat) (g : Nat → Nat → Int) (i j : Nat) : Int := if i ≠ j ∧ m ≠ i ∧ m ≠ j then max (g i j) (min (g i m) (g m j)) else g i j
def wid (f : Nat → Nat → Int) : Nat → Nat → Nat → Int
  | 0 => f
  | m + 1 => phase m (wid f m)
theorem phase_col (m : Nat) (g : Nat → Nat → Int) (i : Nat) : phase m g i m = g i m := if_neg fun h => h.2.2 rfl
theorem phase_row (m : Nat) (g : Nat → Nat → Int) (j : Nat) : phase m g m j = g m j := if_neg fun h => h.2.1 rfl
theorem phase_ge (m : Nat) (g : Nat → Nat → Int) (i j : Nat) : g i j ≤ phase m g i j := by
  unfold phase
  split <;> omega
/-- chains over those let in are no stronger -/
def Closed (m : Nat) (g : Nat → Nat → Int) : Prop := ∀ i j k, k < m → i ≠ j → k ≠ i → k ≠ j → min (g i k) (g k j) ≤ g i j
theorem closed_phase {m : Nat} {g : Nat → Nat → Int} (h : Closed m g) : Closed (m + 1) (phase m g) := fun i j k hk hij hki hkj => by
  by_cases e : k = m
  · subst e
    rw [phase_col, phase_row]
    unfold phase
    rw [if_pos ⟨hij, hki, hkj⟩]
    omega
  · have hkm : k < m := by omega
    have h1 := h i j k hkm hij hki hkj
    by_cases ei : i = m
    · subst ei
      rw [phase_row, phase_row]
      unfold phase
      rw [if_pos ⟨hkj, hki.symm, hij⟩]
      omega
    · by_cases ej : j = m
      · subst ej
        rw [phase_col, phase_col]
        unfold phase
        rw [if_pos ⟨hki.symm, fun q => hij q.symm, hkj.symm⟩]
        omega
      · have h2 := h i m k hkm ei hki e
        have h3 := h m j k hkm (fun q => ej q.symm) e hkj
        unfold phase
        rw [if_pos ⟨hki.symm, fun q => ei q.symm, fun q => e q.symm⟩, if_pos ⟨hkj, fun q => e q.symm, fun q => ej q.symm⟩, if_pos ⟨hij, fun q => ei q.symm, fun q => ej q.symm⟩]
        omega
theorem closed_wid (f : Nat → Nat → Int) : ∀ m, Closed m (wid f m)
  | 0 => fun _ _ _ h => by omega
  | m + 1 => closed_phase (closed_wid f m)
theorem wid_ge (f : Nat → Nat → Int) (i j : Nat) : ∀ m, f i j ≤ wid f m i j
  | 0 => Int.le_refl _
  | m + 1 => Int.le_trans (wid_ge f i j m) (phase_ge m _ i j)
theorem wid_self (f : Nat → Nat → Int) (i : Nat) : ∀ m, wid f m i i = f i i
  | 0 => rfl
  | m + 1 => by
    show phase m (wid f m) i i = f i i
    unfold phase
    rw [if_neg (fun h => h.1 rfl)]
    exact wid_self f i m
/-- whom chains reach whose numbers are all no less than L -/
inductive Reach (n : Nat) (f : Nat → Nat → Int) (L : Int) (i : Nat) : Nat → Prop where
  | me : Reach n f L i i
  | on {k j : Nat} (h : Reach n f L i k) (hk : k < n) (hj : j < n) (e : L ≤ f k j) : Reach n f L i j
theorem Reach.trans {n : Nat} {f : Nat → Nat → Int} {L : Int} {i k j : Nat} (a : Reach n f L i k) (b : Reach n f L k j) : Reach n f L i j := by
  induction b with
  | me => exact a
  | on _ hk hj e ih => exact .on ih hk hj e
theorem wid_reach {n : Nat} {f : Nat → Nat → Int} {L : Int} : ∀ m, m ≤ n → ∀ i j, i < n → j < n → i ≠ j → L ≤ wid f m i j → Reach n f L i j
  | 0, _, i, j, hi, hj, _, h => .on .me hi hj h
  | m + 1, hm, i, j, hi, hj, hij, h => by
    have h2 : L ≤ phase m (wid f m) i j := h
    unfold phase at h2
    by_cases c : i ≠ j ∧ m ≠ i ∧ m ≠ j
    · rw [if_pos c] at h2
      by_cases c2 : L ≤ wid f m i j
      · exact wid_reach m (by omega) i j hi hj hij c2
      · exact (wid_reach m (by omega) i m hi (by omega) (fun q => c.2.1 q.symm) (by omega)).trans (wid_reach m (by omega) m j (by omega) hj c.2.2 (by omega))
    · rw [if_neg c] at h2
      exact wid_reach m (by omega) i j hi hj hij h2
theorem reach_wid {n : Nat} {f : Nat → Nat → Int} {L : Int} {i j : Nat} (h : Reach n f L i j) : i ≠ j → L ≤ wid f n i j := by
  induction h with
  | me => exact fun h => absurd rfl h
  | @on k j h hk hj e ih =>
    intro hij
    have h1 : L ≤ wid f n k j := Int.le_trans e (wid_ge f k j n)
    by_cases c : i = k
    · subst c
      exact h1
    · by_cases c2 : k = j
      · subst c2
        exact ih c
      · have h2 := ih c
        have h3 := closed_wid f n i j k hk hij (fun q => c q.symm) c2
        omega
/-- each strength is one of the numbers -/
theorem wid_mem (f : Nat → Nat → Int) (n : Nat) : ∀ m, m ≤ n → ∀ i j, i < n → j < n → i ≠ j → ∃ a b, a < n ∧ b < n ∧ a ≠ b ∧ wid f m i j = f a b
  | 0, _, i, j, hi, hj, hij => ⟨i, j, hi, hj, hij, rfl⟩
  | m + 1, hm, i, j, hi, hj, hij => by
    show ∃ a b, a < n ∧ b < n ∧ a ≠ b ∧ phase m (wid f m) i j = f a b
    unfold phase
    by_cases c : i ≠ j ∧ m ≠ i ∧ m ≠ j
    · rw [if_pos c]
      by_cases c1 : min (wid f m i m) (wid f m m j) ≤ wid f m i j
      · rw [show max (wid f m i j) (min (wid f m i m) (wid f m m j)) = wid f m i j by omega]
        exact wid_mem f n m (by omega) i j hi hj hij
      · by_cases c2 : wid f m i m ≤ wid f m m j
        · rw [show max (wid f m i j) (min (wid f m i m) (wid f m m j)) = wid f m i m by omega]
          exact wid_mem f n m (by omega) i m hi (by omega) fun q => c.2.1 q.symm
        · rw [show max (wid f m i j) (min (wid f m i m) (wid f m m j)) = wid f m m j by omega]
          exact wid_mem f n m (by omega) m j (by omega) hj c.2.2
    · rw [if_neg c]
      exact wid_mem f n m (by omega) i j hi hj hij
/-! ### an order -/
/-- stronger there than back goes on -/
theorem beats_trans {n : Nat} {p : Nat → Nat → Int} (h : Closed n p) {a b c : Nat} (ha : a < n) (hb : b < n) (hc : c < n) (h1 : p b a < p a b) (h2 : p c b < p b c) : p c a < p a c := by
  have n1 : a ≠ b := fun e => by subst e; omega
  have n2 : b ≠ c := fun e => by subst e; omega
  by_cases n3 : a = c
  · subst n3
    omega
  · have k1 := h a c b hb n3 (fun e => n1 e.symm) n2
    have k2 := h b a c hc (fun e => n1 e.symm) (fun e => n2 e.symm) (fun e => n3 e.symm)
    have k3 := h c b a ha (fun e => n2 e.symm) n3 n1
    omega
theorem free_one {n : Nat} {p : Nat → Nat → Int} (h : Closed n p) : ∀ l : List Nat, l ≠ [] → (∀ x ∈ l, x < n) → ∃ x ∈ l, ∀ y ∈ l, p y x ≤ p x y
  | [], h0, _ => absurd rfl h0
  | [a], _, _ => ⟨a, by simp, fun y hy => by
    have : y = a := by simpa using hy
    rw [this]
    exact Int.le_refl _⟩
  | a :: b :: l, _, hl => by
    obtain ⟨x, hx, hm⟩ := free_one h (b :: l) (by simp) fun z hz => hl z (List.mem_cons_of_mem _ hz)
    have hxn := hl x (List.mem_cons_of_mem _ hx)
    have han := hl a (List.mem_cons_self ..)
    by_cases c : p a x ≤ p x a
    · exact ⟨x, List.mem_cons_of_mem _ hx, fun y hy => (List.mem_cons.mp hy).elim (fun e => e ▸ c) (hm y)⟩
    · refine ⟨a, List.mem_cons_self .., fun y hy => ?_⟩
      rcases List.mem_cons.mp hy with e | hy
      · rw [e]
        exact Int.le_refl _
      · by_cases c2 : p y a ≤ p a y
        · exact c2
        · have k := beats_trans h (hl y (List.mem_cons_of_mem _ hy)) han hxn (by omega) (by omega)
          have := hm y hy
          omega
def isFree (p : Nat → Nat → Int) (l : List Nat) (x : Nat) : Bool := l.all fun y => decide (p y x ≤ p x y)
/-- the first free one, then the rest -/
def ordGo (p : Nat → Nat → Int) : Nat → List Nat → List Nat
  | 0, _ => []
  | k + 1, l => match l.find? (isFree p l) with
    | some x => x :: ordGo p k (l.erase x)
    | none => []
def ordF (p : Nat → Nat → Int) (n : Nat) : List Nat := ordGo p n (List.range n)
theorem ordGo_good {n : Nat} {p : Nat → Nat → Int} (h : Closed n p) : ∀ (k : Nat) (l : List Nat), l.length = k → (∀ x ∈ l, x < n) → (ordGo p k l).Perm l ∧ (ordGo p k l).Pairwise fun a b => p b a ≤ p a b
  | 0, l, hk, _ => by
    rw [List.length_eq_zero_iff.mp hk]
    exact ⟨List.Perm.refl _, List.Pairwise.nil⟩
  | k + 1, l, hk, hl => by
    obtain ⟨x, hx, hm⟩ := free_one h l (fun e => by rw [e] at hk; simp at hk) hl
    have hfx : isFree p l x = true := List.all_eq_true.mpr fun y hy => decide_eq_true (hm y hy)
    show (match l.find? (isFree p l) with | some x => x :: ordGo p k (l.erase x) | none => []).Perm l ∧ List.Pairwise _ (match l.find? (isFree p l) with | some x => x :: ordGo p k (l.erase x) | none => [])
    cases hf : l.find? (isFree p l) with
    | none => exact absurd hfx (by simpa using List.find?_eq_none.mp hf x hx)
    | some z =>
      have hz : z ∈ l := List.mem_of_find?_eq_some hf
      have hzf := List.find?_some hf
      obtain ⟨i1, i2⟩ := ordGo_good h k (l.erase z) (by rw [List.length_erase_of_mem hz, hk]; rfl) fun y hy => hl y (List.mem_of_mem_erase hy)
      refine ⟨(i1.cons z).trans (List.perm_cons_erase hz).symm, List.pairwise_cons.mpr ⟨fun y hy => ?_, i2⟩⟩
      exact of_decide_eq_true (List.all_eq_true.mp hzf y (List.mem_of_mem_erase (i1.mem_iff.mp hy)))
theorem ordF_good (f : Nat → Nat → Int) (n : Nat) : (ordF (wid f n) n).Perm (List.range n) ∧ (ordF (wid f n) n).Pairwise fun a b => wid f n b a ≤ wid f n a b :=
  ordGo_good (closed_wid f n) n _ List.length_range fun x hx => List.mem_range.mp hx
/-! ### the strengths, one after the other -/
/-- what stands in a cell when the first k numbers of a rising list are done -/
def cur (w : Nat → Nat → Int) (ls : List Int) : Nat → Nat → Nat → Int
  | 0, _, _ => 0
  | k + 1, i, j => if i ≠ j ∧ ls.getD k 0 ≤ w i j then ls.getD k 0 else cur w ls k i j
theorem cur_self (w : Nat → Nat → Int) (ls : List Int) (i : Nat) : ∀ k, cur w ls k i i = 0
  | 0 => rfl
  | k + 1 => by
    show (if i ≠ i ∧ _ then _ else _) = _
    rw [if_neg (fun h => h.1 rfl)]
    exact cur_self w ls i k
theorem cur_end {w : Nat → Nat → Int} {ls : List Int} {i j : Nat} (hs : ls.Pairwise (· < ·)) (hij : i ≠ j) (hm : w i j ∈ ls) : cur w ls ls.length i j = w i j := by
  obtain ⟨p, hp, e⟩ := List.mem_iff_getElem.mp hm
  have at_ : ∀ q (hq : q < ls.length), ls.getD q 0 = ls[q] := fun q hq => by
    rw [List.getD_eq_getElem?_getD, List.getElem?_eq_getElem hq]
    rfl
  have up : ∀ k, p < k → k ≤ ls.length → cur w ls k i j = w i j := by
    intro k
    induction k with
    | zero => omega
    | succ k ih =>
      intro h1 h2
      show (if i ≠ j ∧ ls.getD k 0 ≤ w i j then ls.getD k 0 else cur w ls k i j) = w i j
      rw [at_ k (by omega)]
      by_cases c : k = p
      · subst c
        rw [if_pos ⟨hij, by omega⟩, e]
      · have := List.pairwise_iff_getElem.mp hs p k hp (by omega) (by omega)
        rw [if_neg (by omega)]
        exact ih (by omega) (by omega)
  exact up ls.length hp (Nat.le_refl _)
end Hc

namespace Hc
open PySem PySem.Spec PyProof.Rows L2 Evl
/-! ### sorted(set(xs)) of a list of numbers -/
/-- set(xs) as a set that can be walked -/
def rSetW (K : PySem.W.Frag) (w : World) : List V → Hp → VK → Prop := fun vs H Q => ∃ (l : Addr) (ns : List Int), vs = [.ref l] ∧ SqL K H l (ns.map V.int) ∧ ns.length ≤ 60 ∧ ∀ (p : Addr) (n : Nat), H p = none → n ≤ ns.length → Q (.ref p) (upd H p (SetO w p (fun k => decide (k ∈ ns)) n))
/-- the empty set that the type's call makes first -/
abbrev bareSet (w : World) : Obj := { cls := .type "set", dict := none, data := .set #[] 0 (.fresh 0 0 (!w.params.followText "set-order")) }
section
variable {P : Program} {w : World} {B : Around} {Er : Value → Shared → Prop} {sh : Shared} {l : Addr} {its : Array Value} {ns : List Int}
theorem ints_val (hi : IntsAre its.toList ns) (i : Nat) (v : Value) (hv : its[i]? = some v) : ∃ k t, ns[i]? = some k ∧ v = .int k t := by
  have hv2 : its.toList[i]? = some v := by simpa using hv
  have lt : i < ns.length := by
    have := (List.getElem?_eq_some_iff.mp hv2).1
    rw [hi.length] at this
    exact this
  obtain ⟨t, e⟩ := hi.int_at i v hv2
  exact ⟨ns[i], t, List.getElem?_eq_getElem lt, by rw [e, List.getD_eq_getElem?_getD, List.getElem?_eq_getElem lt]; rfl⟩
/-- filling it from a list that was there before -/
theorem fill_list {R : Result → Shared → Prop} (hB : B.in1.handled = none) (hl : sh.heap.IsList l its) (hi : IntsAre its.toList ns) (small : ns.length + 1 < scanBound)
    (done : ∀ s2 c, Moved [sh.heap.objs.size, sh.heap.objs.size + 1] (fun a b => b = a) { sh with heap := (sh.heap.push (bareSet w)).push { cls := .type "list_iterator", data := .fields #[.ref l, .int 0 0] } } s2 → c ≤ ns.length → SetR w s2.heap sh.heap.objs.size (fun k => decide (k ∈ ns)) c → R (.ok (.ret .none)) s2) :
    codeAny (model P w) B (.builtin "set.update.loop" ⟨[.ref sh.heap.objs.size, .ref (sh.heap.objs.size + 1)], []⟩) R { sh with heap := (sh.heap.push (bareSet w)).push { cls := .type "list_iterator", data := .fields #[.ref l, .int 0 0] } } := by
  have old : l < sh.heap.objs.size := hl.elim fun _ z => Heap.lt_size z.1
  have size : (sh.heap.push (bareSet w)).objs.size = sh.heap.objs.size + 1 := Heap.size_push ..
  have num : its.size = ns.length := by simpa using hi.length
  have W := (Walks.list (prog := P) (w := w) (A := B.in1) hB (sh.heap.objs.size + 1) l (Nat.ne_of_lt (Nat.lt_succ_of_lt old)) its).toS
  have itOb : ((sh.heap.push (bareSet w)).push { cls := .type "list_iterator", data := .fields #[.ref l, .int 0 0] }).get? (sh.heap.objs.size + 1) = some { cls := .type "list_iterator", data := .fields #[.ref l, .int 0 0] } := by
    rw [← size]
    exact Heap.get?_push_size _ rfl
  have stOb : ((sh.heap.push (bareSet w)).push { cls := .type "list_iterator", data := .fields #[.ref l, .int 0 0] }).get? sh.heap.objs.size = some (bareSet w) := Heap.get?_push_of_some _ (Heap.get?_push_size _ rfl)
  have out : sh.heap.objs.size ∉ [sh.heap.objs.size + 1, l] := by
    intro z
    rcases List.mem_cons.mp z with e | e
    · exact Nat.ne_of_lt (Nat.lt_succ_self _) e
    · exact Nat.ne_of_gt old (List.mem_singleton.mp e)
  exact set_update_ints W sh.heap.objs.size out ns num small (ints_val hi) its.size 0 _ rfl (Nat.zero_le _) ⟨⟨_, itOb, rfl, rfl⟩, (hl.push _).push _⟩ ⟨0, Nat.le_refl 0, setR_new_at stOb⟩ fun s2 c mv hc hS => done s2 c mv (by omega) hS
/-- `set.__init__` of the set made and of the list -/
theorem init_fills {Q : Shared → Prop} (hB : B.handled = none) (hl : sh.heap.IsList l its) (hi : IntsAre its.toList ns) (small : ns.length + 1 < scanBound)
    (done : ∀ s2 c, Moved [sh.heap.objs.size, sh.heap.objs.size + 1] (fun a b => b = a) { sh with heap := (sh.heap.push (bareSet w)).push { cls := .type "list_iterator", data := .fields #[.ref l, .int 0 0] } } s2 → c ≤ ns.length → SetR w s2.heap sh.heap.objs.size (fun k => decide (k ∈ ns)) c → Q s2) :
    codeAny (model P w) B (.call (.builtin "set.__init__") ⟨[.ref sh.heap.objs.size, .ref l], []⟩) (wants (fun r s2 => r = .none ∧ Q s2) Er) { sh with heap := sh.heap.push (bareSet w) } := by
  have mine : (sh.heap.push (bareSet w)).get? sh.heap.objs.size = some (bareSet w) := Heap.get?_push_size _ rfl
  have there := hl.push (bareSet w)
  have no1 := F.sub_list_set
  have no2 := F.sub_list_frozenset
  have no3 : (Value.type "list" == Value.type "dict") = false := by decide
  have ty : Shared.TypeIs { sh with heap := sh.heap.push (bareSet w) } (.ref l) "list" := there.elim fun o z => ⟨o, z.1, z.2.1⟩
  apply codeAny_call_builtin F.called_set.init.plain F.entry_set_init
  have me : Shared.TypeIs { sh with heap := sh.heap.push (bareSet w) } (.ref sh.heap.objs.size) "set" := ⟨_, mine, rfl⟩
  apply check_set_init_1 me
  unfold Builtin.«set.__init__»
  unfold Builtin.Frozenset.updateFrom noKeywords
  repeat (first | (with_reducible refine wpAny_pyIter_list there ?_) | wp_step)
  have sz : (sh.heap.push (bareSet w)).objs.size = sh.heap.objs.size + 1 := Heap.size_push ..
  show codeAny (model P w) B.in1 (.builtin "set.update.loop" ⟨[.ref sh.heap.objs.size, .ref (sh.heap.push (bareSet w)).objs.size], []⟩) _ _
  rw [sz]
  exact fill_list (by simp [hB]) hl hi small fun s2 c mv hc hS => wpAny_pure (wpAny_pure ⟨rfl, done s2 c mv hc hS⟩)
/-- a type is called: first it makes the thing, then what it made is begun -/
theorem made_then {T newId initId : String} {args : List Value} {Q Q1 : Value → Shared → Prop} (ft : TypeCalled T newId initId) (ck : checkTypeCall T ⟨args, []⟩ = pure ())
    (makes : codeAny (model P w) B.in1 (.call (.builtin newId) ⟨.type T :: args, []⟩) (wants Q1 Er) sh)
    (begins : ∀ x s1, Q1 x s1 → s1.TypeIs x T ∧ codeAny (model P w) B.in1 (.call (.builtin initId) ⟨x :: args, []⟩) (wants (fun r s2 => r = .none ∧ Q x s2) Er) s1) :
    wpAny (model P w) B (call (.type T) args) Q Er sh := by
  have f1 := ft.made
  have f2 := ft.sub
  have f3 := ft.notType
  have f4 := ft.canCreate
  have f5 := ft.init.lookup
  have ⟨_, _, f6⟩ := ft.mro
  apply wpAny_call
  apply codeAny_of_tree
  apply wpAny_pure
  apply And.intro (Code.quiet_builtin _ (by decide +kernel))
  apply codeAny_builtin F.entry_type_call
  have light := weight_type_call_type T args []
  rw [Around.under_plain light rfl]
  repeat any_goals first | assumption | wp_step
  apply codeAny_mono makes
  rintro (err | fl1) s1 h1
  · exact h1
  cases fl1 with
  | next => exact h1.elim
  | brk => exact h1.elim
  | cont => exact h1.elim
  | ret x =>
    have ⟨isT, go⟩ := begins x s1 h1
    have f7 := ft.init.bind x
    repeat any_goals first | assumption | wp_step
    apply codeAny_mono go
    rintro (err | fl2) s2 h2
    · exact h2
    cases fl2 with
    | next => exact h2.elim
    | brk => exact h2.elim
    | cont => exact h2.elim
    | ret y =>
      obtain ⟨rfl, h3⟩ := h2
      repeat any_goals first | assumption | wp_step
/-- set(xs) of a list of numbers, as a set that is walked in its table's order -/
theorem setWK {X : Cx} (K : PySem.W.Frag) (h : X.K = K := by rfl) (hc : X.calm = true := by rfl) : CallR X (.type "set") (rSetW K X.w) := by
  subst h
  rintro pins sh σ H _ us Q I rel ⟨l, ns, rfl, hl, small, want⟩
  obtain ⟨its, rv, pl, _⟩ := I.list hl
  have hi : IntsAre its.toArray.toList ns := by simpa using rv.ints
  rw [Vals.ref1 rel]
  apply made_then F.called_set (F.typeCall_set_1 (.ref l)) (Q1 := fun x s1 => x = .ref sh.heap.objs.size ∧ s1 = { sh with heap := sh.heap.push (bareSet X.w) })
  · exact code_set_led1 _ ⟨rfl, rfl⟩
  · rintro _ _ ⟨rfl, rfl⟩
    refine ⟨⟨_, Heap.get?_push_size _ rfl, rfl⟩, init_fills (by simp [I.ok.hd hc]) pl.isList hi (by unfold scanBound; omega) fun s2 c mv hcn hS => ?_⟩
    have keep : ∀ b u, sh.heap.get? b = some u → s2.heap.get? b = some u := fun b u hb => by
      have lt : b < sh.heap.objs.size := Heap.lt_size hb
      refine mv.heap b u (fun z => ?_) (Heap.get?_push_of_some _ (Heap.get?_push_of_some _ hb))
      rcases List.mem_cons.mp z with e | e
      · exact Nat.ne_of_lt lt e
      · exact Nat.ne_of_lt (Nat.lt_succ_of_lt lt) (List.mem_singleton.mp e)
    obtain ⟨hp, gn, dr, tk, os⟩ := s2
    have e1 : gn = sh.gens := mv.gens
    have e2 : dr = sh.drawn := mv.drawn
    have e3 : os = sh.os := mv.os
    subst e1 e2 e3
    exact ⟨.ref _, _, I.laid (o := SetO X.w _ _ c) keep (Nat.le_refl _) (setO_new hS), rfl, want _ c (I.hok.fresh (Nat.le_refl _)) hcn⟩
end
end Hc

namespace Hc
open PySem PySem.Spec PyProof.Rows L2 Evl
def topS (i : Nat) : Stmt := PySem.Challenge.pw_headcounts_k04_whole_strengths.main.body.getD i (.Pass ⟨0, 0, 0, 0⟩)
abbrev s_is_number : Stmt := topS 5
theorem sc_is_number : FnScope ["thing"] ["thing"] (defScope s_is_number) := ⟨rfl, rfl, rfl, by decide +kernel, rfl, by decide +kernel, by decide +kernel⟩
abbrev s_asked_table : Stmt := topS 6
theorem sc_asked_table : FnScope ["table", "row", "one", "other"] ["table"] (defScope s_asked_table) := ⟨rfl, rfl, rfl, by decide +kernel, rfl, by decide +kernel, by decide +kernel⟩
abbrev s_widest : Stmt := topS 8
theorem sc_widest : FnScope ["table", "size", "found", "middle", "one", "other", "row"] ["table"] (defScope s_widest) := ⟨rfl, rfl, rfl, by decide +kernel, rfl, by decide +kernel, by decide +kernel⟩
abbrev s_strengths : Stmt := topS 9
theorem sc_strengths : FnScope ["table"] ["table"] (defScope s_strengths) := ⟨rfl, rfl, rfl, by decide +kernel, rfl, by decide +kernel, by decide +kernel⟩
abbrev s_order : Stmt := topS 10
theorem sc_order : FnScope ["table", "strong", "left", "found", "free", "one", "other"] ["table"] (defScope s_order) := ⟨rfl, rfl, rfl, by decide +kernel, rfl, by decide +kernel, by decide +kernel⟩
abbrev s_law_number : Stmt := topS 12
theorem sc_law_number : FnScope ["_law_cell", "_law_at", "_law_whole", "_law_mixed", "_law_more"] ["_law_cell", "_law_at", "_law_whole"] (defScope s_law_number) := ⟨rfl, rfl, rfl, by decide +kernel, rfl, by decide +kernel, by decide +kernel⟩
abbrev s_law_table : Stmt := topS 13
theorem sc_law_table : FnScope ["_law_script", "_law_size", "_law_cells", "_law_whole", "_law_most", "_law_kind", "_law_found", "_law_spot", "_law_one", "_law_other", "_law_cell", "_law_number_here", "_law_bent"] ["_law_script", "_law_size"] (defScope s_law_table) := ⟨rfl, rfl, rfl, by decide +kernel, rfl, by decide +kernel, by decide +kernel⟩
abbrev s_law_ballots : Stmt := topS 14
theorem sc_law_ballots : FnScope ["_law_script", "_law_size", "_law_found", "_law_whole", "_law_at", "_law_cell", "_law_number_here", "_law_left", "_law_line"] ["_law_script", "_law_size"] (defScope s_law_ballots) := ⟨rfl, rfl, rfl, by decide +kernel, rfl, by decide +kernel, by decide +kernel⟩
abbrev s_law_count : Stmt := topS 15
theorem sc_law_count : FnScope ["_law_size", "_law_ballots_here", "_law_found", "_law_line", "_law_many", "_law_at", "_law_one", "_law_other"] ["_law_size", "_law_ballots_here"] (defScope s_law_count) := ⟨rfl, rfl, rfl, by decide +kernel, rfl, by decide +kernel, by decide +kernel⟩
abbrev s_law_is_table : Stmt := topS 16
theorem sc_law_is_table : FnScope ["_law_found", "_law_size", "_law_row", "_law_one"] ["_law_found", "_law_size"] (defScope s_law_is_table) := ⟨rfl, rfl, rfl, by decide +kernel, rfl, by decide +kernel, by decide +kernel⟩
abbrev s_law_reached : Stmt := topS 17
theorem sc_law_reached : FnScope ["_law_table_here", "_law_one", "_law_least", "_law_found", "_law_at", "_law_row", "_law_other"] ["_law_table_here", "_law_one", "_law_least"] (defScope s_law_reached) := ⟨rfl, rfl, rfl, by decide +kernel, rfl, by decide +kernel, by decide +kernel⟩
abbrev s_law_widest : Stmt := topS 18
theorem sc_law_widest : FnScope ["_law_table_here", "_law_size", "_law_found", "_law_let", "_law_one", "_law_other", "_law_row"] ["_law_table_here"] (defScope s_law_widest) := ⟨rfl, rfl, rfl, by decide +kernel, rfl, by decide +kernel, by decide +kernel⟩
abbrev s_law_strengths : Stmt := topS 19
theorem sc_law_strengths : FnScope ["_law_table_here", "_law_size", "_law_found", "_law_numbers", "_law_one", "_law_least", "_law_other"] ["_law_table_here"] (defScope s_law_strengths) := ⟨rfl, rfl, rfl, by decide +kernel, rfl, by decide +kernel, by decide +kernel⟩
abbrev s_law_right : Stmt := topS 20
theorem sc_law_right : FnScope ["_law_table_here", "_law_handed", "_law_size", "_law_due", "_law_found", "_law_row", "_law_at", "_law_one", "_law_other"] ["_law_table_here"] (defScope s_law_right) := ⟨rfl, rfl, rfl, by decide +kernel, rfl, by decide +kernel, by decide +kernel⟩
abbrev s_law : Stmt := topS 21
theorem sc_law : FnScope ["_law_script", "_law_whole", "_law_size", "_law_table_here", "_law_ring"] ["_law_script"] (defScope s_law) := ⟨rfl, rfl, rfl, by decide +kernel, rfl, by decide +kernel, by decide +kernel⟩
structure Tx (K : PySem.W.Frag) (mg : Str → Option Value) : Type where
  f_is_number : Addr
  d_is_number : FuncData
  F_is_number : Fun K "is_number" "is_number" s_is_number f_is_number d_is_number
  g_is_number : mg "is_number" = some (.ref f_is_number)
  f_asked_table : Addr
  d_asked_table : FuncData
  F_asked_table : Fun K "asked_table" "asked_table" s_asked_table f_asked_table d_asked_table
  g_asked_table : mg "asked_table" = some (.ref f_asked_table)
  f_widest : Addr
  d_widest : FuncData
  F_widest : Fun K "widest" "widest" s_widest f_widest d_widest
  g_widest : mg "widest" = some (.ref f_widest)
  f_strengths : Addr
  d_strengths : FuncData
  F_strengths : Fun K "strengths" "strengths" s_strengths f_strengths d_strengths
  g_strengths : mg "strengths" = some (.ref f_strengths)
  f_order : Addr
  d_order : FuncData
  F_order : Fun K "order" "order" s_order f_order d_order
  g_order : mg "order" = some (.ref f_order)
  f_law_number : Addr
  d_law_number : FuncData
  F_law_number : Fun K "_law_number" "_law_number" s_law_number f_law_number d_law_number
  g_law_number : mg "_law_number" = some (.ref f_law_number)
  f_law_table : Addr
  d_law_table : FuncData
  F_law_table : Fun K "_law_table" "_law_table" s_law_table f_law_table d_law_table
  g_law_table : mg "_law_table" = some (.ref f_law_table)
  f_law_ballots : Addr
  d_law_ballots : FuncData
  F_law_ballots : Fun K "_law_ballots" "_law_ballots" s_law_ballots f_law_ballots d_law_ballots
  g_law_ballots : mg "_law_ballots" = some (.ref f_law_ballots)
  f_law_count : Addr
  d_law_count : FuncData
  F_law_count : Fun K "_law_count" "_law_count" s_law_count f_law_count d_law_count
  g_law_count : mg "_law_count" = some (.ref f_law_count)
  f_law_is_table : Addr
  d_law_is_table : FuncData
  F_law_is_table : Fun K "_law_is_table" "_law_is_table" s_law_is_table f_law_is_table d_law_is_table
  g_law_is_table : mg "_law_is_table" = some (.ref f_law_is_table)
  f_law_reached : Addr
  d_law_reached : FuncData
  F_law_reached : Fun K "_law_reached" "_law_reached" s_law_reached f_law_reached d_law_reached
  g_law_reached : mg "_law_reached" = some (.ref f_law_reached)
  f_law_widest : Addr
  d_law_widest : FuncData
  F_law_widest : Fun K "_law_widest" "_law_widest" s_law_widest f_law_widest d_law_widest
  g_law_widest : mg "_law_widest" = some (.ref f_law_widest)
  f_law_strengths : Addr
  d_law_strengths : FuncData
  F_law_strengths : Fun K "_law_strengths" "_law_strengths" s_law_strengths f_law_strengths d_law_strengths
  g_law_strengths : mg "_law_strengths" = some (.ref f_law_strengths)
  f_law_right : Addr
  d_law_right : FuncData
  F_law_right : Fun K "_law_right" "_law_right" s_law_right f_law_right d_law_right
  g_law_right : mg "_law_right" = some (.ref f_law_right)
  f_law : Addr
  d_law : FuncData
  F_law : Fun K "law" "law" s_law f_law d_law
  g_law : mg "law" = some (.ref f_law)
  g_MOST : ∃ t, mg "MOST" = some (.int 20 t)
  n_all : mg "all" = none
  n_any : mg "any" = none
  n_bool : mg "bool" = none
  n_enumerate : mg "enumerate" = none
  n_int : mg "int" = none
  n_isinstance : mg "isinstance" = none
  n_len : mg "len" = none
  n_list : mg "list" = none
  n_max : mg "max" = none
  n_min : mg "min" = none
  n_range : mg "range" = none
  n_set : mg "set" = none
  n_sorted : mg "sorted" = none
  n_sum : mg "sum" = none
section
variable {K : PySem.W.Frag} {mg : Str → Option Value}
theorem b_is_number (T : Tx K mg) : Binds K T.d_is_number ["thing"] [] := T.F_is_number.binds fun _ _ _ _ _ _ us hl => match us, hl with | [_], _ => rfl
theorem b_asked_table (T : Tx K mg) : Binds K T.d_asked_table ["table"] [] := T.F_asked_table.binds fun _ _ _ _ _ _ us hl => match us, hl with | [_], _ => rfl
theorem b_widest (T : Tx K mg) : Binds K T.d_widest ["table"] [] := T.F_widest.binds fun _ _ _ _ _ _ us hl => match us, hl with | [_], _ => rfl
theorem b_strengths (T : Tx K mg) : Binds K T.d_strengths ["table"] [] := T.F_strengths.binds fun _ _ _ _ _ _ us hl => match us, hl with | [_], _ => rfl
theorem b_order (T : Tx K mg) : Binds K T.d_order ["table"] [] := T.F_order.binds fun _ _ _ _ _ _ us hl => match us, hl with | [_], _ => rfl
theorem b_law_number (T : Tx K mg) : Binds K T.d_law_number ["_law_cell", "_law_at", "_law_whole"] [] := T.F_law_number.binds fun _ _ _ _ _ _ us hl => match us, hl with | [_, _, _], _ => rfl
theorem b_law_table (T : Tx K mg) : Binds K T.d_law_table ["_law_script", "_law_size"] [] := T.F_law_table.binds fun _ _ _ _ _ _ us hl => match us, hl with | [_, _], _ => rfl
theorem b_law_ballots (T : Tx K mg) : Binds K T.d_law_ballots ["_law_script", "_law_size"] [] := T.F_law_ballots.binds fun _ _ _ _ _ _ us hl => match us, hl with | [_, _], _ => rfl
theorem b_law_count (T : Tx K mg) : Binds K T.d_law_count ["_law_size", "_law_ballots_here"] [] := T.F_law_count.binds fun _ _ _ _ _ _ us hl => match us, hl with | [_, _], _ => rfl
theorem b_law_is_table (T : Tx K mg) : Binds K T.d_law_is_table ["_law_found", "_law_size"] [] := T.F_law_is_table.binds fun _ _ _ _ _ _ us hl => match us, hl with | [_, _], _ => rfl
theorem b_law_reached (T : Tx K mg) : Binds K T.d_law_reached ["_law_table_here", "_law_one", "_law_least"] [] := T.F_law_reached.binds fun _ _ _ _ _ _ us hl => match us, hl with | [_, _, _], _ => rfl
theorem b_law_widest (T : Tx K mg) : Binds K T.d_law_widest ["_law_table_here"] [] := T.F_law_widest.binds fun _ _ _ _ _ _ us hl => match us, hl with | [_], _ => rfl
theorem b_law_strengths (T : Tx K mg) : Binds K T.d_law_strengths ["_law_table_here"] [] := T.F_law_strengths.binds fun _ _ _ _ _ _ us hl => match us, hl with | [_], _ => rfl
theorem b_law_right (T : Tx K mg) : Binds K T.d_law_right ["_law_table_here"] [] := T.F_law_right.binds fun _ _ _ _ _ _ us hl => match us, hl with | [_], _ => rfl
theorem b_law (T : Tx K mg) : Binds K T.d_law ["_law_script"] [] := T.F_law.binds fun _ _ _ _ _ _ us hl => match us, hl with | [_], _ => rfl
end
end Hc
namespace Hc
open PySem PySem.Spec PyProof.Rows L2 Evl
section
variable {P : Program} {w : World} {K : PySem.W.Frag} {mg : Str → Option Value} {base : Heap}
/-! ### types of things -/
section
variable {K : PySem.W.Frag} {H H' : Hp}
theorem tyx_L {a : Addr} {xs : List V} (h : SqL K H a xs) : TyX K H (.ref a) (.type "list") := by
  rcases h with (h | ⟨o, h⟩) | ⟨o, its, n, h1, h2, _⟩
  · exact .base (.lst h)
  · exact .base (.frz h)
  · exact .kList h1 h2
theorem tyx_T {a : Addr} {xs : List V} (h : SqT K H a xs) : TyX K H (.ref a) (.type "tuple") := by
  rcases h with (h | ⟨o, h⟩) | ⟨o, its, n, h1, h2, _⟩
  · exact .base (.tup h)
  · exact .fTuple h
  · exact .kTuple h1 h2
/-- what is_number says of a thing -/
def IsNum (K : PySem.W.Frag) (H : Hp) (x : V) (b : Bool) : Prop := ∃ (t : String) (b1 b2 : Bool), TyX K H x (.type t) ∧ kitB t "int" = some b1 ∧ kitB t "bool" = some b2 ∧ b = (b1 && !b2)
theorem isNum_int (i : Int) : IsNum K H (.int i) true := ⟨"int", true, false, .base (.int i), by decide +kernel, by decide +kernel, rfl⟩
def spIsNum (K : PySem.W.Frag) : Sp := fun vs H Q _ => ∃ (x : V) (b : Bool), vs = [x] ∧ IsNum K H x b ∧ Q (.bl b) H
def okB (n : Nat) (b : List Nat × Int) : Bool := decide (1 ≤ b.2) && b.1.isPerm (List.range n)
def spAskC : Sp := fun vs H Q _ => ∃ c : Int, vs = [.int c] ∧ 1 ≤ c ∧ c ≤ 20 ∧ Q .non H
def spAreB (K : PySem.W.Frag) : Sp := fun vs H Q _ => ∃ (n : Nat) (v : V) (bs : List (List Nat × Int)), vs = [.int (n : Int), v] ∧ n ≤ 20 ∧ BalsR K H v bs ∧ (∀ b ∈ bs, b.1.length < 60) ∧ ∀ H2, Ex H H2 → Q (.bl (bs.all (okB n))) H2
def spAskB (K : PySem.W.Frag) : Sp := fun vs H Q _ => ∃ (n : Nat) (v : V) (bs : List (List Nat × Int)), vs = [.int (n : Int), v] ∧ 1 ≤ n ∧ n ≤ 20 ∧ BalsR K H v bs ∧ bs.all (okB n) = true ∧ ∀ H2, Ex H H2 → Q .non H2
def spCount (K : PySem.W.Frag) : Sp := fun vs H Q _ => ∃ (n : Nat) (v : V) (bs : List (List Nat × Int)), vs = [.int (n : Int), v] ∧ n ≤ 20 ∧ BalsR K H v bs ∧ (∀ b ∈ bs, ∀ k ∈ b.1, k < n) ∧ ∀ H2 t rs, Ex H H2 → Tab H H2 t rs n (cnt bs) → Q (.ref t) H2
def spCounted (K : PySem.W.Frag) : Sp := fun vs H Q _ => ∃ (n : Nat) (v : V) (bs : List (List Nat × Int)), vs = [.int (n : Int), v] ∧ 1 ≤ n ∧ n ≤ 20 ∧ BalsR K H v bs ∧ bs.all (okB n) = true ∧ ∀ H2 t rs, Ex H H2 → Tab H H2 t rs n (cnt bs) → Q (.ref t) H2
end
theorem okB_len {n : Nat} {b : List Nat × Int} (h : okB n b = true) : b.1.length = n := by
  unfold okB at h
  rw [Bool.and_eq_true] at h
  have := (List.isPerm_iff.mp h.2).length_eq
  rw [List.length_range] at this
  exact this
theorem okB_lt {n : Nat} {b : List Nat × Int} (h : okB n b = true) : ∀ k ∈ b.1, k < n := fun k hk => by
  unfold okB at h
  rw [Bool.and_eq_true] at h
  exact List.mem_range.mp ((List.isPerm_iff.mp h.2).mem_iff.mp hk)
/-- a sorted list that is an arrangement of another one -/
theorem sorted_is_range {ns : List Int} {ks : List Nat} {n : Nat} (hp : ns.Perm (ks.map fun (k : Nat) => (k : Int))) (hs : ns.Pairwise (· ≤ ·)) : (ns = (List.range n).map fun (k : Nat) => (k : Int)) ↔ ks.Perm (List.range n) := by
  constructor
  · intro e
    rw [e] at hp
    have h2 := hp.map Int.toNat
    rw [List.map_map, List.map_map] at h2
    have e1 : ∀ l : List Nat, l.map (Int.toNat ∘ fun (k : Nat) => (k : Int)) = l := fun l => by
      have : (Int.toNat ∘ fun (k : Nat) => (k : Int)) = id := by
        funext k
        simp
      rw [this, List.map_id]
    rw [e1, e1] at h2
    exact h2.symm
  · intro h
    have h1 : ns.Perm ((List.range n).map fun (k : Nat) => (k : Int)) := hp.trans (h.map _)
    have h2 : ((List.range n).map fun (k : Nat) => (k : Int)).Pairwise (· ≤ ·) := by
      rw [List.pairwise_map]
      exact List.Pairwise.imp (fun {a b} h => by omega) (List.pairwise_lt_range (n := n))
    exact h1.eq_of_pairwise (le := (· ≤ ·)) (fun a b _ _ h1 h2 => by omega) hs h2
theorem ok_is_number (T : Tx K mg) : FnOk P w K mg base CX0 1 T.f_is_number T.d_is_number ["thing"] (spIsNum K) := by
  refine T.F_is_number.ok sc_is_number (fun vs H Q E h => ?_) (fun cdv A outer s H vs Q E hr h => ?_)
  · obtain ⟨x, b, rfl, _⟩ := h
    rfl
  · obtain ⟨x, b, rfl, ⟨t, b1, b2, hT, k1, k2, rfl⟩, q⟩ := h
    refine ⟨_, pss_one (ps_ret (pe_and (pe_callB (isiK K) (by rfl) T.n_isinstance PyProof.Rows.boot_isinstance (pa_cons (pv 0) (pa_cons (pe_bltn (v := .ty "int") (by rfl) T.n_int bt_int rfl) pa_nil))) (pe_one (pe_not (pe_callB (isiK K) (by rfl) T.n_isinstance PyProof.Rows.boot_isinstance (pa_cons (pv 0) (pa_cons (pe_bltn (v := .ty "bool") (by rfl) T.n_bool bt_bool rfl) pa_nil))))))), ?_⟩
    refine ⟨x, rfl, x, .ty "int", _, _, b1, rfl, .ty _, hT, kit_ty k1, b1, rfl, ?_⟩
    cases b1 with
    | false => exact q
    | true => exact ⟨x, rfl, x, .ty "bool", _, _, b2, rfl, .ty _, hT, kit_ty k2, b2, rfl, q⟩
def spAskT (K : PySem.W.Frag) : Sp := fun vs H Q _ => ∃ (v : V) (n : Nat) (f : Nat → Nat → Int), vs = [v] ∧ 1 ≤ n ∧ n ≤ 20 ∧ TabR K H v n f ∧ Anti n f ∧ ∀ H2, Ex H H2 → Q .non H2
theorem any_const_false (n : Nat) : ((List.range n).map fun _ => false).any id = false := by
  rw [List.any_map, List.any_eq_false]
  intro x _
  simp
theorem ok_asked_table (T : Tx K mg) : FnOk P w K mg base CX0 2 T.f_asked_table T.d_asked_table ["table"] (spAskT K) := by
  refine T.F_asked_table.ok sc_asked_table (fun vs H Q E h => ?_) (fun cdv A outer s H vs Q E hr h => ?_)
  · obtain ⟨v, n, f, rfl, _⟩ := h
    rfl
  · obtain ⟨v, n, f, rfl, hn1, hn, TT, hA, q⟩ := h
    obtain ⟨t, xs, rfl, hS, hl, hat⟩ := TT.at_
    refine ⟨_, pss_cons (ps_if (PW.pt (pw_or (pt_not (pt_val (pe_callB (isiK K) (by rfl) T.n_isinstance PyProof.Rows.boot_isinstance (pa_cons (pv 0) (pa_cons (pe_bltn (v := .ty "list") (by rfl) T.n_list bt_list rfl) pa_nil))))) (pw_or1 (pt_not (pt_chain op_le op_le pe_int (pe_callB (lenK K) (by rfl) T.n_len PySem.boot_len (pa_cons (pv 0) pa_nil)) (pe_glob (v := .int 20) (by rfl) T.g_MOST.choose_spec ⟨_, rfl⟩)))))) (pss_one (ps_never)) (pss_nil))
      (pss_cons (ps_for PassesOwn.never rfl (piL K (pv 0)) (pg_name (i := 1) sc_asked_table.nd rfl (by first | exact Or.inl rfl | exact Or.inr rfl))
        (pss_one (ps_if (PW.pt (pw_or (pt_not (pt_val (pe_callB (isiK K) (by rfl) T.n_isinstance PyProof.Rows.boot_isinstance (pa_cons (pv 1) (pa_cons (pe_bltn (v := .ty "list") (by rfl) T.n_list bt_list rfl) pa_nil))))) (pw_or (pt_cmpR op_ne (pe_callB (lenK K) (by rfl) T.n_len PySem.boot_len (pa_cons (pv 1) pa_nil)) (pe_callB (lenK K) (by rfl) T.n_len PySem.boot_len (pa_cons (pv 0) pa_nil)) (nomark _)) (pw_or1 (pt_not (pt_val (pe_callB (allK K) (by rfl) T.n_all PyProof.Rows.boot_all (pa_cons (pe_lc (own := [("one", 2)]) rfl sc_asked_table.nd (piL K (pv 1)) (blkOk_by (own := [("one", 2)]) (N := ["table", "row", "one", "other"]) (sc := defScope s_asked_table) (by decide +kernel)) (fun _ _ _ _ _ => (pg_name (i := 2) sc_asked_table.nd rfl (by first | exact Or.inl rfl | exact Or.inr rfl))) (fun _ _ _ _ _ => pts_nil) (fun _ _ _ _ _ => (pe_call (ok_is_number T) (hr.mono (by decide)) (by rfl) T.g_is_number T.F_is_number.kp (b_is_number T) .nil pass0 (pa_cons (pv 2) pa_nil)))) pa_nil)))))))) (pss_one (ps_never)) (pss_nil))))
      (pss_one (ps_for PassesOwn.never rfl (pi_range1 (by rfl) T.n_range (pa_cons (pe_callB (lenK K) (by rfl) T.n_len PySem.boot_len (pa_cons (pv 0) pa_nil)) pa_nil)) (pg_name (i := 2) sc_asked_table.nd rfl (by first | exact Or.inl rfl | exact Or.inr rfl))
        (pss_one (ps_if (pt_val (pe_callB (anyK K) (by rfl) T.n_any PyProof.Rows.boot_any (pa_cons (pe_lc (own := [("other", 3)]) rfl sc_asked_table.nd (pi_range1 (by rfl) T.n_range (pa_cons (pe_op op_add (pv 2) pe_int) pa_nil)) (blkOk_by (own := [("other", 3)]) (N := ["table", "row", "one", "other"]) (sc := defScope s_asked_table) (by decide +kernel)) (fun _ _ _ _ _ => (pg_name (i := 3) sc_asked_table.nd rfl (by first | exact Or.inl rfl | exact Or.inr rfl))) (fun _ _ _ _ _ => pts_nil) (fun _ _ _ _ _ => (pe_cmpR op_ne (pe_ix (ixLK K) (pe_ix (ixLK K) (pv 0) (pv 2) (fun _ _ => rfl)) (pv 3) (fun _ _ => rfl)) (pe_un un_neg (pe_ix (ixLK K) (pe_ix (ixLK K) (pv 0) (pv 3) (fun _ _ => rfl)) (pv 2) (fun _ _ => rfl))) (nomark _)))) pa_nil))) (pss_one (ps_never)) (pss_nil)))))), ?_⟩
    refine ⟨_, rfl, .ref t, .ty "list", _, _, true, rfl, .ty _, tyx_L hS, kit_ty (by decide +kernel), true, rfl, ?_⟩
    refine ⟨_, rfl, t, _, rfl, .inl hS, _, _, rfl, rfl, _, rfl, ?_⟩
    rw [if_pos (decide_eq_true (show (1 : Int) ≤ (xs.length : Int) by omega))]
    refine ⟨_, _, rfl, rfl, _, rfl, ?_⟩
    rw [decide_eq_true (show (xs.length : Int) ≤ 20 by omega)]
    refine ⟨.ref t, rfl, t, rfl, ⟨xs, hS⟩, for_list (K := K) (a := t) (xs := xs) (fun i σ' H' => ∃ y, σ' = [some (.ref t), y, none, none] ∧ Ex H H')
      ⟨none, rfl, Ex.refl H⟩ (fun i σ' H' _ ⟨_, _, e⟩ => ex_l e hS) ?_ ?_⟩
    · rintro i x σ' H' hi ⟨y, rfl, e⟩
      have hin : i < n := by rw [← hl]; exact (List.getElem?_eq_some_iff.mp hi).1
      obtain ⟨r, hr1, hr2⟩ := hat i hin
      rw [hr1] at hi
      cases hi
      have hr3 := ex_l e hr2
      refine ⟨_, rfl, .ref r, .ty "list", _, _, true, rfl, .ty _, tyx_L hr3, kit_ty (by decide +kernel), true, rfl, ?_⟩
      refine ⟨_, rfl, r, _, rfl, .inl hr3, _, rfl, t, _, rfl, .inl (ex_l e hS), rfl, _, rfl, ?_⟩
      refine itF (by rw [rowV_length, hl, decide_eq_true rfl]; rfl) ?_
      refine ⟨_, rfl, r, rfl, ⟨_, hr3⟩, fun D hD => ?_⟩
      refine lc_vals (walk_list (K := K) (a := r) (xs := rowV n (f i))) hD (by rw [rowV_length]; omega) (fun H2 e2 => ex_l e2 hr3) (fun _ => V.bl true) ?_ ?_
      · rintro j x H2 H2' hj e2 ⟨rfl, hx⟩ Qc hq
        have hjn : j < n := by rw [rowV_length] at hj; exact hj
        rw [rowV_get hjn] at hx
        cases hx
        exact ⟨rfl, _, rfl, _, true, rfl, isNum_int _, hq _ (Ex.refl _)⟩
      · intro H3 e3 hD3
        rw [map_const_bl] at hD3
        exact ⟨D, _, rfl, sq_of hD3, true, by rw [all_const_true], _, rfl, e.trans e3⟩
    · rintro σ' H' ⟨y, rfl, e⟩
      refine ⟨_, rfl, t, _, rfl, .inl (ex_l e hS), (xs.length : Int), rfl, by omega, by omega, ?_⟩
      rw [hl]
      refine for_it (walk_rg0 (n := n)) (fun i σ' H' => ∃ y1 y2, σ' = [some (.ref t), y1, y2, none] ∧ Ex H H') ⟨_, _, rfl, e⟩ (fun _ _ _ _ _ => trivial) ?_ ?_
      · rintro i x σ' H' H'' hi ⟨y1, y2, rfl, e⟩ ⟨rfl, rfl⟩
        refine ⟨_, rfl, _, _, rfl, rfl, ((i + 1 : Nat) : Int), rfl, by omega, by omega, fun D hD => ?_⟩
        refine lc_vals (n := i + 1) (walk_rg0 (n := i + 1)) hD (by omega) (fun _ _ => trivial) (fun _ => V.bl false) ?_ ?_
        · rintro j x H2 H2' hj e2 ⟨rfl, rfl⟩ Qc hq
          have hS2 := ex_l (e.trans e2) hS
          obtain ⟨r1, g1, g2⟩ := hat i hi
          obtain ⟨r2, g3, g4⟩ := hat j (by omega)
          have g2' := ex_l (e.trans e2) g2
          have g4' := ex_l (e.trans e2) g4
          refine ⟨rfl, _, rfl, _, rfl, t, _, i, .ref r1, rfl, rfl, hS2, atI_nat g1, _, rfl, r1, _, j, .int _, rfl, rfl, g2', atI_nat (rowV_get (by omega)), _, rfl, _, rfl, t, _, j, .ref r2, rfl, rfl, hS2, atI_nat g3, _, rfl, r2, _, i, .int _, rfl, rfl, g4', atI_nat (rowV_get hi), _, rfl, rfl, ?_⟩
          have e9 : (!decide (V.int (f i j) = V.int (- f j i))) = false := by
            rw [decide_eq_true (by rw [hA i j hi (by omega)])]
            rfl
          rw [e9]
          exact hq _ (Ex.refl _)
        · intro H3 e3 hD3
          rw [map_const_bl] at hD3
          exact ⟨D, _, rfl, sq_of hD3, false, by rw [any_const_false], _, _, rfl, e.trans e3⟩
      · rintro σ' H' ⟨y1, y2, rfl, e⟩
        exact q H' e
end
end Hc
namespace Hc
open PySem PySem.Spec PyProof.Rows L2 Evl
section
variable {P : Program} {w : World} {K : PySem.W.Frag} {mg : Str → Option Value} {base : Heap}
theorem bnot_f {b : Bool} (h : (!b) = false) : b = true := by cases b <;> first | rfl | cases h
theorem bnot_t {b : Bool} (h : (!b) = true) : b = false := by cases b <;> first | rfl | cases h
def spWid (K : PySem.W.Frag) : Sp := fun vs H Q _ => ∃ (v : V) (n : Nat) (f : Nat → Nat → Int), vs = [v] ∧ n ≤ 20 ∧ TabR K H v n f ∧ ∀ H2 t rs, Ex H H2 → Tab H H2 t rs n (wid f n) → Q (.ref t) H2
/-- within a phase: the cells ahead of (a, b) are done -/
def mixW (m a b : Nat) (g : Nat → Nat → Int) (i j : Nat) : Int := if i < a ∨ (i = a ∧ j < b) then phase m g i j else g i j
theorem mixW_zero (m : Nat) (g : Nat → Nat → Int) (i j : Nat) : mixW m 0 0 g i j = g i j := if_neg (by omega)
theorem mixW_here {m a b : Nat} {g : Nat → Nat → Int} : mixW m a b g a b = g a b := if_neg (by omega)
theorem mixW_col {m a b i : Nat} {g : Nat → Nat → Int} : mixW m a b g i m = g i m := by
  unfold mixW
  rw [phase_col, ite_self]
theorem mixW_row {m a b j : Nat} {g : Nat → Nat → Int} : mixW m a b g m j = g m j := by
  unfold mixW
  rw [phase_row, ite_self]
theorem mixW_skip {m a b : Nat} {g : Nat → Nat → Int} (h : ¬ (a ≠ b ∧ m ≠ a ∧ m ≠ b)) (i j : Nat) : mixW m a b g i j = mixW m a (b + 1) g i j := by
  unfold mixW
  by_cases e : i = a ∧ j = b
  · obtain ⟨rfl, rfl⟩ := e
    rw [if_neg (by omega), if_pos (by omega)]
    unfold phase
    rw [if_neg h]
  · by_cases c : i < a ∨ (i = a ∧ j < b)
    · rw [if_pos c, if_pos (by omega)]
    · rw [if_neg c, if_neg (by omega)]
theorem mixW_set {m a b : Nat} {g : Nat → Nat → Int} (h : a ≠ b ∧ m ≠ a ∧ m ≠ b) (i j : Nat) : (if i = a ∧ j = b then max (g a b) (min (g a m) (g m b)) else mixW m a b g i j) = mixW m a (b + 1) g i j := by
  unfold mixW
  by_cases e : i = a ∧ j = b
  · obtain ⟨rfl, rfl⟩ := e
    rw [if_pos ⟨rfl, rfl⟩, if_pos (by omega)]
    unfold phase
    rw [if_pos h]
  · rw [if_neg e]
    by_cases c : i < a ∨ (i = a ∧ j < b)
    · rw [if_pos c, if_pos (by omega)]
    · rw [if_neg c, if_neg (by omega)]
theorem mixW_next {m a n i j : Nat} {g : Nat → Nat → Int} (hj : j < n) : mixW m a n g i j = mixW m (a + 1) 0 g i j := by
  unfold mixW
  by_cases c : i < a ∨ (i = a ∧ j < n)
  · rw [if_pos c, if_pos (by omega)]
  · rw [if_neg c, if_neg (by omega)]
theorem mixW_all {m n i j : Nat} {g : Nat → Nat → Int} (hi : i < n) : mixW m n 0 g i j = phase m g i j := if_pos (by omega)
theorem ok_widest (T : Tx K mg) : FnOk P w K mg base CX0 1 T.f_widest T.d_widest ["table"] (spWid K) := by
  refine T.F_widest.ok sc_widest (fun vs H Q E h => ?_) (fun cdv A outer s H vs Q E hr h => ?_)
  · obtain ⟨v, n, f, rfl, _⟩ := h
    rfl
  · obtain ⟨v, n, f, rfl, hn, TT, q⟩ := h
    obtain ⟨t, xs, rfl, hS, hl, hat⟩ := TT.at_
    refine ⟨_, pss_cons (ps_set (i := 1) sc_widest.nd rfl (Or.inl rfl) (pe_callB (lenK K) (by rfl) T.n_len PySem.boot_len (pa_cons (pv 0) pa_nil)))
      (pss_cons (ps_setLc (i := 2) (own := [("row", 6)]) rfl sc_widest.nd rfl rfl (sw_true rfl rfl rfl (by decide +kernel)) (piL K (pv 0)) (blkOk_by (own := [("row", 6)]) (N := ["table", "size", "found", "middle", "one", "other", "row"]) (sc := defScope s_widest) (by decide +kernel)) (fun _ _ _ _ _ => (pg_name (i := 6) sc_widest.nd rfl (by first | exact Or.inl rfl | exact Or.inr rfl))) (fun _ _ _ _ _ => pts_nil) (fun _ _ _ _ _ => (pe_callTy (listK K) (by rfl) T.n_list bt_list (pa_cons (pv 6) pa_nil))))
      (pss_cons (ps_for PassesOwn.never rfl (pi_range1 (by rfl) T.n_range (pa_cons (pv 1) pa_nil)) (pg_name (i := 3) sc_widest.nd rfl (by first | exact Or.inl rfl | exact Or.inr rfl))
        (pss_one (ps_for PassesOwn.never rfl (pi_range1 (by rfl) T.n_range (pa_cons (pv 1) pa_nil)) (pg_name (i := 4) sc_widest.nd rfl (by first | exact Or.inl rfl | exact Or.inr rfl))
        (pss_one (ps_for PassesOwn.never rfl (pi_range1 (by rfl) T.n_range (pa_cons (pv 1) pa_nil)) (pg_name (i := 5) sc_widest.nd rfl (by first | exact Or.inl rfl | exact Or.inr rfl))
        (pss_one (ps_if (PW.pt (pw_and (pt_cmpR op_ne (pv 4) (pv 5) (nomark _)) (pw_and1 (pt_cmpR (notInK K) (pv 3) (pe_tup (pa_cons (pv 4) (pa_cons (pv 5) pa_nil))) (by rfl))))) (pss_one (ps_asg (pe_callB (call_max2 rfl) (by rfl) T.n_max PyProof.Rows.boot_max (pa_cons (pe_ix (ixLK K) (pe_ix (ixLK K) (pv 2) (pv 4) (fun _ _ => rfl)) (pv 5) (fun _ _ => rfl)) (pa_cons (pe_callB (call_min2 rfl) (by rfl) T.n_min PyProof.Rows.boot_min (pa_cons (pe_ix (ixLK K) (pe_ix (ixLK K) (pv 2) (pv 4) (fun _ _ => rfl)) (pv 3) (fun _ _ => rfl)) (pa_cons (pe_ix (ixLK K) (pe_ix (ixLK K) (pv 2) (pv 3) (fun _ _ => rfl)) (pv 5) (fun _ _ => rfl)) pa_nil))) pa_nil))) (pg_sub (pe_ix (ixLK K) (pv 2) (pv 4) (fun _ _ => rfl)) (pv 5) set_list))) (pss_nil))))))))
      (pss_one (ps_ret (pv 2))))), ?_⟩
    refine ⟨_, rfl, t, _, rfl, .inl hS, ?_⟩
    rw [hl]
    refine ⟨_, rfl, t, rfl, ⟨_, hS⟩, fun D hD => ?_⟩
    refine lc_rows (walk_list (K := K) (a := t) (xs := xs)) hD (by omega) (fun H2 e2 => ex_l e2 hS) (fun i => rowV n (f i)) ?_ ?_
    · rintro i x Ha Ha' hi ea ⟨rfl, hx⟩ Qc hq
      obtain ⟨r, g1, g2⟩ := hat i (by omega)
      rw [g1] at hx
      cases hx
      exact ⟨rfl, _, rfl, r, _, rfl, .inl (ex_l ea g2), fun l nl => hq l _ nl (Ex.new nl) upd_same⟩
    intro H1 ps e1 hD1 hl1 R1
    have T0 : Tab H H1 D ps n f := R1.tab hD hD1 (by rw [hl1, hl])
    refine ⟨_, rfl, n, rfl, by omega, by omega, ?_⟩
    refine for_it (walk_rg0 (n := n)) (fun m σ' H' => ∃ y3 y4 y5, σ' = [some (.ref t), some (.int n), some (.ref D), y3, y4, y5, none] ∧ Ex H H' ∧ Tab H H' D ps n (wid f m))
      ⟨_, _, _, rfl, e1, T0⟩ (fun _ _ _ _ _ => trivial) ?_ ?_
    · rintro m x σ' H' H'' hm ⟨y3, y4, y5, rfl, e, TT⟩ ⟨rfl, rfl⟩
      refine ⟨_, rfl, n, rfl, by omega, by omega, ?_⟩
      refine for_it (walk_rg0 (n := n)) (fun i σ' H' => ∃ y4 y5, σ' = [some (.ref t), some (.int n), some (.ref D), some (.int m), y4, y5, none] ∧ Ex H H' ∧ Tab H H' D ps n (mixW m i 0 (wid f m)))
        ⟨_, _, rfl, e, TT.congr fun i j _ _ => (mixW_zero m (wid f m) i j).symm⟩ (fun _ _ _ _ _ => trivial) ?_ ?_
      · rintro i x σ' H' H'' hi ⟨y4, y5, rfl, e, TT⟩ ⟨rfl, rfl⟩
        refine ⟨_, rfl, n, rfl, by omega, by omega, ?_⟩
        refine for_it (walk_rg0 (n := n)) (fun j σ' H' => ∃ y5, σ' = [some (.ref t), some (.int n), some (.ref D), some (.int m), some (.int i), y5, none] ∧ Ex H H' ∧ Tab H H' D ps n (mixW m i j (wid f m)))
          ⟨_, rfl, e, TT⟩ (fun _ _ _ _ _ => trivial) ?_ ?_
        · rintro j x σ' H' H'' hj ⟨y5, rfl, e, TT⟩ ⟨rfl, rfl⟩
          have skip : ¬ (i ≠ j ∧ m ≠ i ∧ m ≠ j) → ∀ {Hx : Hp}, Tab H Hx D ps n (mixW m i j (wid f m)) → Tab H Hx D ps n (mixW m i (j + 1) (wid f m)) := fun hs _ TX => TX.congr fun u v _ _ => mixW_skip hs u v
          refine ⟨_, rfl, _, rfl, rfl, _, rfl, ?_⟩
          rw [dec_int]
          refine it2 (fun h1 => ?_) (fun h1 => ⟨_, rfl, e, skip (fun hs => by
            have : decide ((i : Int) = (j : Int)) = true := bnot_f h1
            have := of_decide_eq_true this
            omega) TT⟩)
          refine ⟨_, rfl, _, rfl, _, rfl, (by decide : 2 ≤ sizeLine), fun tp ntp => ⟨tp, _, rfl, .inr (st_of upd_same), rfl, rfl, _, rfl, ?_⟩⟩
          have etp := Ex.new (o := .tup [V.int (i : Int), V.int (j : Int)]) ntp
          have ein : inV (V.int (m : Int)) [V.int (i : Int), V.int (j : Int)] = decide (m = i ∨ m = j) := by
            unfold inV
            rw [List.any_cons, List.any_cons, List.any_nil, eqV_int, eqV_int, Bool.or_false, Bool.eq_iff_iff, Bool.or_eq_true, beq_iff_eq, beq_iff_eq, decide_eq_true_eq]
            omega
          have TX := TT.mono etp
          have eX := e.trans etp
          show if (!inV (V.int (m : Int)) [V.int (i : Int), V.int (j : Int)]) = true then _ else _
          rw [ein]
          refine it2 (fun h2 => ?_) (fun h2 => ⟨_, rfl, eX, skip (fun hs => by
            have : decide (m = i ∨ m = j) = true := bnot_f h2
            have := of_decide_eq_true this
            omega) TX⟩)
          have hgo : i ≠ j ∧ m ≠ i ∧ m ≠ j := by
            have k1 : decide ((i : Int) = (j : Int)) = false := bnot_t h1
            have k2 : decide (m = i ∨ m = j) = false := bnot_t h2
            have := of_decide_eq_false k1
            have := of_decide_eq_false k2
            omega
          obtain ⟨r1, g1, m1, x1, c1⟩ := TX.at_ hi
          obtain ⟨r2, g2, m2, x2, c2⟩ := TX.at_ hm
          have TP := TX.put (b := j) (z := max (wid f m i j) (min (wid f m i m) (wid f m m j))) g1
          refine ⟨_, rfl, _, rfl, D, _, i, .ref r1, rfl, rfl, sq_of TX.top, atI_nat x1, _, rfl, r1, _, j, .int _, rfl, rfl, sq_of c1, atI_nat (rowV_get hj), ?_⟩
          refine ⟨_, rfl, _, rfl, D, _, i, .ref r1, rfl, rfl, sq_of TX.top, atI_nat x1, _, rfl, r1, _, m, .int _, rfl, rfl, sq_of c1, atI_nat (rowV_get hm), _, rfl, _, rfl, D, _, m, .ref r2, rfl, rfl, sq_of TX.top, atI_nat x2, _, rfl, r2, _, j, .int _, rfl, rfl, sq_of c2, atI_nat (rowV_get hj), _, _, rfl, _, _, rfl, ?_⟩
          refine ⟨_, rfl, _, rfl, D, _, i, .ref r1, rfl, rfl, sq_of TX.top, atI_nat x1, _, rfl, r1, _, j, j, rfl, rfl, c1, ixN_nat (by rw [rowV_length]; exact hj), _, rfl, TX.exMut eX m1, ?_⟩
          rw [mixW_here, mixW_col, mixW_row]
          have ez : (if (if wid f m m j < wid f m i m then wid f m m j else wid f m i m) > wid f m i j then (if wid f m m j < wid f m i m then wid f m m j else wid f m i m) else wid f m i j) = max (wid f m i j) (min (wid f m i m) (wid f m m j)) := by
            split <;> split <;> omega
          rw [ez]
          exact TP.congr fun u v _ _ => mixW_set hgo u v
        · rintro σ' H' ⟨y5, rfl, e, TT⟩
          exact ⟨_, _, rfl, e, TT.congr fun u v _ hv => mixW_next hv⟩
      · rintro σ' H' ⟨y4, y5, rfl, e, TT⟩
        exact ⟨_, _, _, rfl, e, TT.congr fun u v hu _ => mixW_all hu⟩
    · rintro σ' H' ⟨y3, y4, y5, rfl, e, TT⟩
      exact ⟨_, rfl, q H' D ps e TT⟩
theorem ok_law_widest (T : Tx K mg) : FnOk P w K mg base CX0 1 T.f_law_widest T.d_law_widest ["_law_table_here"] (spWid K) := by
  refine T.F_law_widest.ok sc_law_widest (fun vs H Q E h => ?_) (fun cdv A outer s H vs Q E hr h => ?_)
  · obtain ⟨v, n, f, rfl, _⟩ := h
    rfl
  · obtain ⟨v, n, f, rfl, hn, TT, q⟩ := h
    obtain ⟨t, xs, rfl, hS, hl, hat⟩ := TT.at_
    refine ⟨_, pss_cons (ps_set (i := 1) sc_law_widest.nd rfl (Or.inl rfl) (pe_callB (lenK K) (by rfl) T.n_len PySem.boot_len (pa_cons (pv 0) pa_nil)))
      (pss_cons (ps_setLc (i := 2) (own := [("_law_row", 6)]) rfl sc_law_widest.nd rfl rfl (sw_true rfl rfl rfl (by decide +kernel)) (piL K (pv 0)) (blkOk_by (own := [("_law_row", 6)]) (N := ["_law_table_here", "_law_size", "_law_found", "_law_let", "_law_one", "_law_other", "_law_row"]) (sc := defScope s_law_widest) (by decide +kernel)) (fun _ _ _ _ _ => (pg_name (i := 6) sc_law_widest.nd rfl (by first | exact Or.inl rfl | exact Or.inr rfl))) (fun _ _ _ _ _ => pts_nil) (fun _ _ _ _ _ => (pe_callTy (listK K) (by rfl) T.n_list bt_list (pa_cons (pv 6) pa_nil))))
      (pss_cons (ps_for PassesOwn.never rfl (pi_range1 (by rfl) T.n_range (pa_cons (pv 1) pa_nil)) (pg_name (i := 3) sc_law_widest.nd rfl (by first | exact Or.inl rfl | exact Or.inr rfl))
        (pss_one (ps_for PassesOwn.never rfl (pi_range1 (by rfl) T.n_range (pa_cons (pv 1) pa_nil)) (pg_name (i := 4) sc_law_widest.nd rfl (by first | exact Or.inl rfl | exact Or.inr rfl))
        (pss_one (ps_for PassesOwn.never rfl (pi_range1 (by rfl) T.n_range (pa_cons (pv 1) pa_nil)) (pg_name (i := 5) sc_law_widest.nd rfl (by first | exact Or.inl rfl | exact Or.inr rfl))
        (pss_one (ps_if (PW.pt (pw_and (pt_cmpR op_ne (pv 4) (pv 5) (nomark _)) (pw_and (pt_cmpR op_ne (pv 4) (pv 3) (nomark _)) (pw_and1 (pt_cmpR op_ne (pv 5) (pv 3) (nomark _)))))) (pss_one (ps_asg (pe_callB (call_max2 rfl) (by rfl) T.n_max PyProof.Rows.boot_max (pa_cons (pe_ix (ixLK K) (pe_ix (ixLK K) (pv 2) (pv 4) (fun _ _ => rfl)) (pv 5) (fun _ _ => rfl)) (pa_cons (pe_callB (call_min2 rfl) (by rfl) T.n_min PyProof.Rows.boot_min (pa_cons (pe_ix (ixLK K) (pe_ix (ixLK K) (pv 2) (pv 4) (fun _ _ => rfl)) (pv 3) (fun _ _ => rfl)) (pa_cons (pe_ix (ixLK K) (pe_ix (ixLK K) (pv 2) (pv 3) (fun _ _ => rfl)) (pv 5) (fun _ _ => rfl)) pa_nil))) pa_nil))) (pg_sub (pe_ix (ixLK K) (pv 2) (pv 4) (fun _ _ => rfl)) (pv 5) set_list))) (pss_nil))))))))
      (pss_one (ps_ret (pv 2))))), ?_⟩
    refine ⟨_, rfl, t, _, rfl, .inl hS, ?_⟩
    rw [hl]
    refine ⟨_, rfl, t, rfl, ⟨_, hS⟩, fun D hD => ?_⟩
    refine lc_rows (walk_list (K := K) (a := t) (xs := xs)) hD (by omega) (fun H2 e2 => ex_l e2 hS) (fun i => rowV n (f i)) ?_ ?_
    · rintro i x Ha Ha' hi ea ⟨rfl, hx⟩ Qc hq
      obtain ⟨r, g1, g2⟩ := hat i (by omega)
      rw [g1] at hx
      cases hx
      exact ⟨rfl, _, rfl, r, _, rfl, .inl (ex_l ea g2), fun l nl => hq l _ nl (Ex.new nl) upd_same⟩
    intro H1 ps e1 hD1 hl1 R1
    have T0 : Tab H H1 D ps n f := R1.tab hD hD1 (by rw [hl1, hl])
    refine ⟨_, rfl, n, rfl, by omega, by omega, ?_⟩
    refine for_it (walk_rg0 (n := n)) (fun m σ' H' => ∃ y3 y4 y5, σ' = [some (.ref t), some (.int n), some (.ref D), y3, y4, y5, none] ∧ Ex H H' ∧ Tab H H' D ps n (wid f m))
      ⟨_, _, _, rfl, e1, T0⟩ (fun _ _ _ _ _ => trivial) ?_ ?_
    · rintro m x σ' H' H'' hm ⟨y3, y4, y5, rfl, e, TT⟩ ⟨rfl, rfl⟩
      refine ⟨_, rfl, n, rfl, by omega, by omega, ?_⟩
      refine for_it (walk_rg0 (n := n)) (fun i σ' H' => ∃ y4 y5, σ' = [some (.ref t), some (.int n), some (.ref D), some (.int m), y4, y5, none] ∧ Ex H H' ∧ Tab H H' D ps n (mixW m i 0 (wid f m)))
        ⟨_, _, rfl, e, TT.congr fun i j _ _ => (mixW_zero m (wid f m) i j).symm⟩ (fun _ _ _ _ _ => trivial) ?_ ?_
      · rintro i x σ' H' H'' hi ⟨y4, y5, rfl, e, TT⟩ ⟨rfl, rfl⟩
        refine ⟨_, rfl, n, rfl, by omega, by omega, ?_⟩
        refine for_it (walk_rg0 (n := n)) (fun j σ' H' => ∃ y5, σ' = [some (.ref t), some (.int n), some (.ref D), some (.int m), some (.int i), y5, none] ∧ Ex H H' ∧ Tab H H' D ps n (mixW m i j (wid f m)))
          ⟨_, rfl, e, TT⟩ (fun _ _ _ _ _ => trivial) ?_ ?_
        · rintro j x σ' H' H'' hj ⟨y5, rfl, e, TT⟩ ⟨rfl, rfl⟩
          have skip : ¬ (i ≠ j ∧ m ≠ i ∧ m ≠ j) → ∀ {Hx : Hp}, Tab H Hx D ps n (mixW m i j (wid f m)) → Tab H Hx D ps n (mixW m i (j + 1) (wid f m)) := fun hs _ TX => TX.congr fun u v _ _ => mixW_skip hs u v
          refine ⟨_, rfl, _, rfl, rfl, _, rfl, ?_⟩
          rw [dec_int]
          refine it2 (fun h1 => ?_) (fun h1 => ⟨_, rfl, e, skip (fun hs => by
            have : decide ((i : Int) = (j : Int)) = true := bnot_f h1
            have := of_decide_eq_true this
            omega) TT⟩)
          refine ⟨_, rfl, _, rfl, rfl, _, rfl, ?_⟩
          rw [dec_int]
          refine it2 (fun h2 => ?_) (fun h2 => ⟨_, rfl, e, skip (fun hs => by
            have : decide ((i : Int) = (m : Int)) = true := bnot_f h2
            have := of_decide_eq_true this
            omega) TT⟩)
          refine ⟨_, rfl, _, rfl, rfl, _, rfl, ?_⟩
          rw [dec_int]
          refine it2 (fun h3 => ?_) (fun h3 => ⟨_, rfl, e, skip (fun hs => by
            have : decide ((j : Int) = (m : Int)) = true := bnot_f h3
            have := of_decide_eq_true this
            omega) TT⟩)
          have TX := TT
          have eX := e
          have hgo : i ≠ j ∧ m ≠ i ∧ m ≠ j := by
            have k1 : decide ((i : Int) = (j : Int)) = false := bnot_t h1
            have k2 : decide ((i : Int) = (m : Int)) = false := bnot_t h2
            have k3 : decide ((j : Int) = (m : Int)) = false := bnot_t h3
            have := of_decide_eq_false k1
            have := of_decide_eq_false k2
            have := of_decide_eq_false k3
            omega
          obtain ⟨r1, g1, m1, x1, c1⟩ := TX.at_ hi
          obtain ⟨r2, g2, m2, x2, c2⟩ := TX.at_ hm
          have TP := TX.put (b := j) (z := max (wid f m i j) (min (wid f m i m) (wid f m m j))) g1
          refine ⟨_, rfl, _, rfl, D, _, i, .ref r1, rfl, rfl, sq_of TX.top, atI_nat x1, _, rfl, r1, _, j, .int _, rfl, rfl, sq_of c1, atI_nat (rowV_get hj), ?_⟩
          refine ⟨_, rfl, _, rfl, D, _, i, .ref r1, rfl, rfl, sq_of TX.top, atI_nat x1, _, rfl, r1, _, m, .int _, rfl, rfl, sq_of c1, atI_nat (rowV_get hm), _, rfl, _, rfl, D, _, m, .ref r2, rfl, rfl, sq_of TX.top, atI_nat x2, _, rfl, r2, _, j, .int _, rfl, rfl, sq_of c2, atI_nat (rowV_get hj), _, _, rfl, _, _, rfl, ?_⟩
          refine ⟨_, rfl, _, rfl, D, _, i, .ref r1, rfl, rfl, sq_of TX.top, atI_nat x1, _, rfl, r1, _, j, j, rfl, rfl, c1, ixN_nat (by rw [rowV_length]; exact hj), _, rfl, TX.exMut eX m1, ?_⟩
          rw [mixW_here, mixW_col, mixW_row]
          have ez : (if (if wid f m m j < wid f m i m then wid f m m j else wid f m i m) > wid f m i j then (if wid f m m j < wid f m i m then wid f m m j else wid f m i m) else wid f m i j) = max (wid f m i j) (min (wid f m i m) (wid f m m j)) := by
            split <;> split <;> omega
          rw [ez]
          exact TP.congr fun u v _ _ => mixW_set hgo u v
        · rintro σ' H' ⟨y5, rfl, e, TT⟩
          exact ⟨_, _, rfl, e, TT.congr fun u v _ hv => mixW_next hv⟩
      · rintro σ' H' ⟨y4, y5, rfl, e, TT⟩
        exact ⟨_, _, _, rfl, e, TT.congr fun u v hu _ => mixW_all hu⟩
    · rintro σ' H' ⟨y3, y4, y5, rfl, e, TT⟩
      exact ⟨_, rfl, q H' D ps e TT⟩
def spStr (K : PySem.W.Frag) : Sp := fun vs H Q _ => ∃ (v : V) (n : Nat) (f : Nat → Nat → Int), vs = [v] ∧ 1 ≤ n ∧ n ≤ 20 ∧ TabR K H v n f ∧ Anti n f ∧ ∀ H2 t rs, Ex H H2 → Tab H H2 t rs n (wid f n) → Q (.ref t) H2
theorem ok_strengths (T : Tx K mg) : FnOk P w K mg base CX0 3 T.f_strengths T.d_strengths ["table"] (spStr K) := by
  refine T.F_strengths.ok sc_strengths (fun vs H Q E h => ?_) (fun cdv A outer s H vs Q E hr h => ?_)
  · obtain ⟨v, n, f, rfl, _⟩ := h
    rfl
  · obtain ⟨v, n, f, rfl, hn1, hn, TT, hA, q⟩ := h
    refine ⟨_, pss_cons (ps_expr (pe_call (ok_asked_table T) (hr.mono (by decide)) (by rfl) T.g_asked_table T.F_asked_table.kp (b_asked_table T) .nil pass0 (pa_cons (pv 0) pa_nil)))
      (pss_one (ps_ret (pe_call (ok_widest T) (hr.mono (by decide)) (by rfl) T.g_widest T.F_widest.kp (b_widest T) .nil pass0 (pa_cons (pv 0) pa_nil)))), ?_⟩
    refine ⟨_, rfl, v, n, f, rfl, hn1, hn, TT, hA, fun H1 e1 => ?_⟩
    exact ⟨_, rfl, v, n, f, rfl, hn, TT.mono e1, fun H2 t rs e2 TW => q H2 t rs (e1.trans e2) (TW.base e1)⟩
end
end Hc
namespace Hc
open PySem PySem.Spec PyProof.Rows L2 Evl
section
variable {P : Program} {w : World} {K : PySem.W.Frag} {mg : Str → Option Value} {base : Heap}
def spRInit (K : PySem.W.Frag) (C : Addr) : Sp := fun vs H Q _ => ∃ (x dx l : Addr) (ns : List Int), vs = [.ref x, .ref l] ∧ H x = some (.ins C dx []) ∧ SqL K H l (iv ns) ∧ ∀ H2 p, ExB x H H2 → H p = none → H2 x = some (.ins C dx [("way", .ref p)]) → H2 p = some (.lst (iv ns)) → Q .non H2
def spRShows (K : PySem.W.Frag) (C : Addr) : Sp := fun vs H Q _ => ∃ (x dx p : Addr) (v : V) (ns : List Int) (n : Nat) (f : Nat → Nat → Int), vs = [.ref x, v] ∧ H x = some (.ins C dx [("way", .ref p)]) ∧ SqL K H p (iv ns) ∧ ns.length ≤ 1000 ∧ TabR K H v n f ∧ ∀ H2, Ex H H2 → Q (.bl (shR n f ns)) H2
theorem map_bl_all {n : Nat} {p : Nat → Bool} : ((List.range n).map fun i => V.bl (p i)) = ((List.range n).map p).map V.bl := by
  rw [List.map_map]
  rfl
theorem all_map_id {n : Nat} {p : Nat → Bool} : ((List.range n).map p).all id = (List.range n).all p := by
  rw [List.all_map]
  rfl
theorem all_at0 (ns : List Int) (p : Int → Bool) : ((List.range ns.length).all fun i => p (at0 ns i)) = ns.all p := by
  rw [Bool.eq_iff_iff, List.all_eq_true, List.all_eq_true]
  constructor
  · intro h k hk
    obtain ⟨i, hi, e⟩ := List.mem_iff_getElem.mp hk
    have h1 := h i (List.mem_range.mpr hi)
    unfold at0 at h1
    rw [List.getD_eq_getElem?_getD, List.getElem?_eq_getElem hi] at h1
    rw [← e]
    exact h1
  · intro h i hi
    rw [List.mem_range] at hi
    unfold at0
    rw [List.getD_eq_getElem?_getD, List.getElem?_eq_getElem hi]
    exact h _ (List.getElem_mem hi)
theorem iv_at0 {ns : List Int} {i : Nat} (h : i < ns.length) : (iv ns)[i]? = some (V.int (at0 ns i)) := by
  unfold iv at0
  rw [List.getElem?_map, List.getElem?_eq_getElem h, List.getD_eq_getElem?_getD, List.getElem?_eq_getElem h]
  rfl
theorem atI_back {ns : List Int} {i : Nat} (h : i < ns.length) : atI (iv ns) ((i : Int) - 1) = some (V.int (at0 ns (if i = 0 then ns.length - 1 else i - 1))) := by
  by_cases e : i = 0
  · subst e
    rw [if_pos rfl]
    have h1 : iv ns = (iv ns).dropLast ++ [V.int (at0 ns (ns.length - 1))] := by
      have h2 : (iv ns)[ns.length - 1]? = some (V.int (at0 ns (ns.length - 1))) := iv_at0 (by omega)
      have h3 : iv ns ≠ [] := fun e => by
        have := iv_length ns
        rw [e] at this
        simp at this
        omega
      have h4 := List.dropLast_concat_getLast h3
      have h5 : (iv ns).getLast h3 = V.int (at0 ns (ns.length - 1)) := by
        rw [List.getLast_eq_getElem]
        rw [List.getElem?_eq_getElem (by rw [iv_length]; omega)] at h2
        have h6 := Option.some.inj h2
        rw [← h6]
        congr 1
        rw [iv_length]
      rw [h5] at h4
      exact h4.symm
    rw [h1]
    exact atI_last _ _
  · rw [if_neg e, show (i : Int) - 1 = ((i - 1 : Nat) : Int) by omega]
    exact atI_nat (iv_at0 (by omega))
def spOrd (K : PySem.W.Frag) : Sp := fun vs H Q _ => ∃ (v : V) (n : Nat) (f : Nat → Nat → Int), vs = [v] ∧ 1 ≤ n ∧ n ≤ 20 ∧ TabR K H v n f ∧ Anti n f ∧ ∀ H2 p, Ex H H2 → H p = none → H2 p = some (.lst (nv (ordF (wid f n) n))) → Q (.ref p) H2
theorem filt_nv (l : List Nat) (p : Nat → Bool) : (((List.range l.length).filter fun i => p (l.getD i 0)).map fun i => V.int ((l.getD i 0 : Nat) : Int)) = nv (l.filter p) := by
  have e : l = (List.range l.length).map fun i => l.getD i 0 := by
    apply List.ext_getElem?
    intro i
    rw [List.getElem?_map]
    by_cases h : i < l.length
    · rw [List.getElem?_range h, List.getElem?_eq_getElem h, Option.map_some, List.getD_eq_getElem?_getD, List.getElem?_eq_getElem h]
      rfl
    · rw [List.getElem?_eq_none (by omega), List.getElem?_eq_none (by rw [List.length_range]; omega)]
      rfl
  have e2 : l.filter p = ((List.range l.length).filter fun i => p (l.getD i 0)).map fun i => l.getD i 0 := by
    calc l.filter p = ((List.range l.length).map fun i => l.getD i 0).filter p := by rw [← e]
      _ = _ := by rw [List.filter_map]; rfl
  unfold nv
  rw [e2, List.map_map]
  rfl
theorem nv_at {l : List Nat} {i : Nat} (h : i < l.length) : (nv l)[i]? = some (V.int ((l.getD i 0 : Nat) : Int)) := by
  unfold nv
  rw [List.getElem?_map, List.getElem?_eq_getElem h, List.getD_eq_getElem?_getD, List.getElem?_eq_getElem h]
  rfl
theorem getD_memN {l : List Nat} {i : Nat} (h : i < l.length) : l.getD i 0 ∈ l := by
  rw [List.getD_eq_getElem?_getD, List.getElem?_eq_getElem h]
  exact List.getElem_mem h
theorem all_getD (l : List Nat) (p : Nat → Bool) : ((List.range l.length).map fun i => p (l.getD i 0)).all id = l.all p := by
  rw [Bool.eq_iff_iff, List.all_eq_true, List.all_eq_true]
  constructor
  · intro h x hx
    obtain ⟨i, hi, rfl⟩ := List.mem_iff_getElem.mp hx
    have := h (p (l.getD i 0)) (List.mem_map.mpr ⟨i, List.mem_range.mpr hi, rfl⟩)
    rw [List.getD_eq_getElem?_getD, List.getElem?_eq_getElem hi] at this
    exact this
  · intro h b hb
    obtain ⟨i, hi, rfl⟩ := List.mem_map.mp hb
    exact h _ (getD_memN (List.mem_range.mp hi))
/-- the first place of a thing, and the list without it -/
theorem first_erase : ∀ (l : List Nat) (x : Nat), x ∈ l → ∃ i, l[i]? = some x ∧ (∀ m, m < i → l[m]? ≠ some x) ∧ l.eraseIdx i = l.erase x
  | [], _, h => by simp at h
  | a :: l, x, h => by
    by_cases e : a = x
    · subst e
      exact ⟨0, rfl, fun m hm => by omega, by rw [List.erase_cons_head]; rfl⟩
    · obtain ⟨i, h1, h2, h3⟩ := first_erase l x ((List.mem_cons.mp h).resolve_left fun q => e q.symm)
      refine ⟨i + 1, by simpa using h1, fun m hm => ?_, ?_⟩
      · cases m with
        | zero => simpa using e
        | succ m => simpa using h2 m (by omega)
      · have hb : (a == x) = false := by simpa using e
        rw [List.erase_cons, hb]
        show a :: l.eraseIdx i = a :: l.erase x
        rw [h3]
theorem erase_mapN : ∀ (l : List Nat) (i : Nat), (l.map fun (k : Nat) => (k : Int)).eraseIdx i = (l.eraseIdx i).map fun (k : Nat) => (k : Int)
  | [], _ => rfl
  | _ :: _, 0 => rfl
  | a :: l, i + 1 => congrArg ((a : Int) :: ·) (erase_mapN l i)
theorem nv_app (l m : List Nat) : nv l ++ nv m = nv (l ++ m) := (List.map_append ..).symm
theorem ok_order (T : Tx K mg) : FnOk P w K mg base CX0 3 T.f_order T.d_order ["table"] (spOrd K) := by
  refine T.F_order.ok sc_order (fun vs H Q E h => ?_) (fun cdv A outer s H vs Q E hr h => ?_)
  · obtain ⟨v, n, f, rfl, _⟩ := h
    rfl
  · obtain ⟨v, n, f, rfl, hn1, hn, TT, hA, q⟩ := h
    refine ⟨_, pss_cons (ps_expr (pe_call (ok_asked_table T) (hr.mono (by decide)) (by rfl) T.g_asked_table T.F_asked_table.kp (b_asked_table T) .nil pass0 (pa_cons (pv 0) pa_nil)))
      (pss_cons (ps_set (i := 1) sc_order.nd rfl (Or.inr rfl) (pe_call (ok_widest T) (hr.mono (by decide)) (by rfl) T.g_widest T.F_widest.kp (b_widest T) .nil pass0 (pa_cons (pv 0) pa_nil)))
      (pss_cons (ps_set (i := 2) sc_order.nd rfl (Or.inr rfl) (pe_listRg rfl (by rfl) T.n_list (prg_1 (by rfl) T.n_range (pe_callB (lenK K) (by rfl) T.n_len PySem.boot_len (pa_cons (pv 0) pa_nil)))))
      (pss_cons (ps_set (i := 3) sc_order.nd rfl (Or.inl rfl) (pe_lst pa_nil))
      (pss_cons (ps_while PassesOwn.never (pt_cmpR (neDK K hr.units) (pv 2) (pe_lst pa_nil) (nomark _)) (pss_cons (ps_setLc (i := 4) (own := [("one", 5)]) rfl sc_order.nd rfl rfl (sw_true rfl rfl rfl (by decide +kernel)) (piL K (pv 2)) (blkOk_by (own := [("one", 5)]) (N := ["table", "strong", "left", "found", "free", "one", "other"]) (sc := defScope s_order) (by decide +kernel)) (fun _ _ _ _ _ => (pg_name (i := 5) sc_order.nd rfl (by first | exact Or.inl rfl | exact Or.inr rfl))) (fun _ _ _ _ _ => pts_one (pt_val (pe_callB (allK K) (by rfl) T.n_all PyProof.Rows.boot_all (pa_cons (pe_lc (own := [("other", 6)]) rfl sc_order.nd (piL K (pv 2)) (blkOk_by (own := [("other", 6)]) (N := ["table", "strong", "left", "found", "free", "one", "other"]) (sc := _) (by kernel_rfl)) (fun _ _ _ _ _ => (pg_name (i := 6) sc_order.nd rfl (by first | exact Or.inl rfl | exact Or.inr rfl))) (fun _ _ _ _ _ => pts_nil) (fun _ _ _ _ _ => (pe_cmpR op_ge (pe_ix (ixLK K) (pe_ix (ixLK K) (pv 1) (pv 5) (fun _ _ => rfl)) (pv 6) (fun _ _ => rfl)) (pe_ix (ixLK K) (pe_ix (ixLK K) (pv 1) (pv 6) (fun _ _ => rfl)) (pv 5) (fun _ _ => rfl)) (nomark _)))) pa_nil)))) (fun _ _ _ _ _ => (pv 5)))
      (pss_cons (ps_expr (pe_bm PySem.F.plainAttrs_list PySem.F.slot_list_append PySem.F.type_list_append mt_append (pv 3) (pa_cons (pe_ix (ixLK K) (pv 4) pe_int (fun _ _ => rfl)) pa_nil)))
      (pss_one (ps_expr (pe_bm PySem.F.plainAttrs_list PySem.F.slot_list_remove PySem.F.type_list_remove mt_remove (pv 2) (pa_cons (pe_ix (ixLK K) (pv 4) pe_int (fun _ _ => rfl)) pa_nil)))))))
      (pss_one (ps_ret (pv 3))))))), ?_⟩
    obtain ⟨t0, tx, rfl, hS, hl, hat⟩ := TT.at_
    refine ⟨_, rfl, _, n, f, rfl, hn1, hn, TT, hA, fun H1 e1 => ?_⟩
    refine ⟨_, rfl, _, n, f, rfl, hn, TT.mono e1, fun H2 t rs e2 TW => ?_⟩
    refine ⟨_, rfl, t0, _, rfl, .inl (ex_l (e1.trans e2) hS), (tx.length : Int), rfl, rgOk_nat (by omega), fun L nL => ?_⟩
    rw [hl, rgV_nv]
    have eL := Ex.new (o := .lst (nv (List.range n))) nL
    refine ⟨Nat.zero_le _, fun F nF => ?_⟩
    have eF := Ex.new (o := .lst []) nF
    have nF2 : H2 F = none := fresh_back eL nF
    have nLF : L ≠ F := ne_of_fresh upd_same nF
    have hL3 := eF _ _ (upd_same (H := H2) (a := L) (o := .lst (nv (List.range n))))
    obtain ⟨H3, hH3⟩ := named eF
    have hF3 : H3 F = some (.lst (nv [])) := by rw [hH3]; exact upd_same
    have e3 := eL.trans eF
    rw [← hH3] at hL3 e3 ⊢
    refine ⟨fun m σ' H5 => ∃ (lf acc : List Nat) (y4 : Option V), σ' = [some (.ref t0), some (.ref t), some (.ref L), some (.ref F), y4, none, none] ∧ Ex H2 H5 ∧ H5 L = some (.lst (nv lf)) ∧ H5 F = some (.lst (nv acc)) ∧ acc ++ ordGo (wid f n) lf.length lf = ordF (wid f n) n ∧ (∀ x ∈ lf, x < n) ∧ acc.length + lf.length ≤ n ∧ lf.length = m,
      ⟨n, List.range n, [], _, rfl, e3, hL3, hF3, by rw [List.length_range]; rfl, fun x hx => List.mem_range.mp hx, by rw [List.length_range]; show 0 + n ≤ n; omega, List.length_range⟩, ?_⟩
    rintro m σ' H5 ⟨lf, acc, y4, rfl, e5, hL5, hF5, hord, hlt, hsz, rfl⟩
    refine ⟨_, rfl, Nat.zero_le _, fun o no => ?_⟩
    have eo := Ex.new (o := .lst []) no
    have hLd : SqL K (upd H5 o (.lst [])) L (iv (lf.map fun (k : Nat) => (k : Int))) := by
      rw [← nv_iv]
      exact sq_of (eo _ _ hL5)
    refine ⟨_, _, dp_ints hLd, dp_ints (ns := []) (sq_of upd_same), shaped_ints _, shaped_ints _, _, rfl, ?_⟩
    have hL6 := eo _ _ hL5
    have hF6 := eo _ _ hF5
    have e6 := e5.trans eo
    generalize (upd H5 o (.lst [])) = H6 at hL6 hF6 e6
    by_cases h0 : lf = []
    · refine itF (by rw [eqv_ints, h0]; rfl) ?_
      subst h0
      rw [show ordGo (wid f n) ([] : List Nat).length [] = [] from rfl, List.append_nil] at hord
      refine ⟨_, rfl, q H6 F (((e1.trans e2)).trans e6) (fresh_back (e1.trans e2) nF2) ?_⟩
      rw [hF6, hord]
    · refine itT (by rw [eqv_ints, decide_eq_false]; rfl; exact fun h => h0 (List.map_eq_nil_iff.mp h)) ?_
      have TW6 := TW.mono e6
      obtain ⟨k, hk⟩ : ∃ k, lf.length = k + 1 := ⟨lf.length - 1, by have := List.length_pos_iff.mpr h0; omega⟩
      refine ⟨fun σ2 Hz => ∃ (lf' acc' : List Nat) (y4 : Option V), σ2 = [some (.ref t0), some (.ref t), some (.ref L), some (.ref F), y4, none, none] ∧ Ex H2 Hz ∧ Hz L = some (.lst (nv lf')) ∧ Hz F = some (.lst (nv acc')) ∧ acc' ++ ordGo (wid f n) lf'.length lf' = ordF (wid f n) n ∧ (∀ x ∈ lf', x < n) ∧ acc'.length + lf'.length ≤ n ∧ lf'.length < lf.length, ?_, ?_⟩
      · rintro σ2 Hz ⟨lf', acc', y, c1, c2, c3, c4, c5, c6, c7, c8⟩
        exact ⟨_, c8, lf', acc', y, c1, c2, c3, c4, c5, c6, c7, rfl⟩
      refine ⟨_, rfl, L, rfl, ⟨_, sq_of hL6⟩, fun D hD => ?_⟩
      refine lc_filt (walk_list (K := K) (a := L) (xs := nv lf)) hD (by rw [nv_length]; omega) (fun Hx e => sq_of (e _ _ hL6)) (fun i => isFree (wid f n) lf (lf.getD i 0)) (fun i => V.int ((lf.getD i 0 : Nat) : Int)) ?_ ?_
      · rintro i x Ha Ha' hi ea ⟨rfl, hx⟩ Bf Qc hno hyes
        rw [nv_length] at hi
        rw [nv_at hi] at hx
        cases hx
        have hxn := hlt _ (getD_memN hi)
        refine ⟨rfl, _, rfl, L, rfl, ⟨_, sq_of (ea _ _ hL6)⟩, fun D2 hD2 => ?_⟩
        refine lc_vals (walk_list (K := K) (a := L) (xs := nv lf)) hD2 (by rw [nv_length]; omega) (fun Hx e => sq_of (e _ _ (ea _ _ hL6))) (fun j => V.bl (decide (wid f n (lf.getD j 0) (lf.getD i 0) ≤ wid f n (lf.getD i 0) (lf.getD j 0)))) ?_ ?_
        · rintro j y Hb Hb' hj eb ⟨rfl, hy⟩ Qd hqd
          rw [nv_length] at hj
          rw [nv_at hj] at hy
          cases hy
          have hyn := hlt _ (getD_memN hj)
          have TWb := (TW6.mono ea).mono eb
          obtain ⟨r1, _, _, x1, c1⟩ := TWb.at_ hxn
          obtain ⟨r2, _, _, x2, c2⟩ := TWb.at_ hyn
          exact ⟨rfl, _, rfl, _, rfl, t, _, _, .ref r1, rfl, rfl, sq_of TWb.top, atI_nat x1, _, rfl, r1, _, _, .int _, rfl, rfl, sq_of c1, atI_nat (rowV_get hyn), _, rfl, _, rfl, t, _, _, .ref r2, rfl, rfl, sq_of TWb.top, atI_nat x2, _, rfl, r2, _, _, .int _, rfl, rfl, sq_of c2, atI_nat (rowV_get hxn), _, _, rfl, rfl, hqd _ (Ex.refl _)⟩
        · intro Hb eb hDb
          rw [nv_length, map_bl_all] at hDb
          refine ⟨D2, _, rfl, sq_of hDb, _, rfl, ?_⟩
          have ef : ((List.range lf.length).map fun j => decide (wid f n (lf.getD j 0) (lf.getD i 0) ≤ wid f n (lf.getD i 0) (lf.getD j 0))).all id = isFree (wid f n) lf (lf.getD i 0) := all_getD lf fun y => decide (wid f n y (lf.getD i 0) ≤ wid f n (lf.getD i 0) y)
          rw [ef]
          refine it2 (fun hp => ?_) (fun hp => ?_)
          · exact ⟨_, rfl, hyes _ eb hp⟩
          · exact hno _ eb hp
      · intro H7 e7 hD7
        rw [nv_length, filt_nv lf (isFree (wid f n) lf)] at hD7
        have hgood := ordGo_good (closed_wid f n) lf.length lf rfl hlt
        obtain ⟨x, rest, hfl, hfind⟩ : ∃ x rest, lf.filter (isFree (wid f n) lf) = x :: rest ∧ lf.find? (isFree (wid f n) lf) = some x := by
          cases hfl : lf.filter (isFree (wid f n) lf) with
          | nil =>
            obtain ⟨z, hz, hm⟩ := free_one (closed_wid f n) lf h0 hlt
            have : z ∈ lf.filter (isFree (wid f n) lf) := List.mem_filter.mpr ⟨hz, List.all_eq_true.mpr fun y hy => decide_eq_true (hm y hy)⟩
            rw [hfl] at this
            cases this
          | cons x rest => exact ⟨x, rest, rfl, by rw [← List.head?_filter, hfl]; rfl⟩
        have hxm : x ∈ lf := List.mem_of_find?_eq_some hfind
        rw [hfl] at hD7
        have hL7 := e7 _ _ hL6
        have hF7 := e7 _ _ hF6
        refine ⟨_, rfl, .inl ⟨rfl, _, sq_of hF7⟩, _, rfl, D, _, 0, .int (x : Int), rfl, rfl, sq_of hD7, atI_nat (j := 0) rfl, F, _, _, rfl, rfl, hF7, sz_lt (by rw [nv_length]; omega), ?_⟩
        have nDF : D ≠ F := (ne_of_fresh hF6 hD).symm
        obtain ⟨i0, hi0, hfirst, her⟩ := first_erase lf x hxm
        refine ⟨_, rfl, .inl ⟨rfl, _, sq_of (by rw [upd_ne nLF]; exact hL7)⟩, _, rfl, D, _, 0, .int (x : Int), rfl, rfl, sq_of (by rw [upd_ne nDF]; exact hD7), atI_nat (j := 0) rfl, L, lf.map fun (k : Nat) => (k : Int), (x : Int), i0, rfl, rfl, ?_, ?_, ?_, ?_⟩
        · rw [upd_ne nLF, hL7, nv_iv]
          rfl
        · rw [List.getElem?_map, hi0]
          rfl
        · intro m hm e
          rw [List.getElem?_map] at e
          cases h9 : lf[m]? with
          | none => rw [h9] at e; cases e
          | some y =>
            rw [h9] at e
            have : (y : Int) = (x : Int) := Option.some.inj e
            exact hfirst m hm (by rw [h9, show y = x by omega])
        · refine ⟨lf.erase x, acc ++ [x], _, rfl, ?_, ?_, ?_, ?_, fun y hy => hlt y (List.mem_of_mem_erase hy), ?_, ?_⟩
          · exact ((e6.trans e7).mut nF2).mut nL
          · rw [upd_same, ← her, nv_iv]
            unfold iv
            congr 2
            rw [erase_mapN]
          · rw [upd_ne nLF.symm, upd_same, ← nv_app]
            rfl
          · rw [← hord, List.append_assoc, List.length_erase_of_mem hxm, hk]
            show acc ++ ([x] ++ ordGo (wid f n) k (lf.erase x)) = acc ++ (match lf.find? (isFree (wid f n) lf) with | some x => x :: ordGo (wid f n) k (lf.erase x) | none => [])
            rw [hfind]
            rfl
          · rw [List.length_append, List.length_erase_of_mem hxm]
            show acc.length + 1 + _ ≤ n
            omega
          · rw [List.length_erase_of_mem hxm]
            omega
end
end Hc
namespace Hc
open PySem PySem.Spec PyProof.Rows L2 Evl
section
variable {P : Program} {w : World} {K : PySem.W.Frag} {mg : Str → Option Value} {base : Heap}
def spReached (K : PySem.W.Frag) : Sp := fun vs H Q _ => ∃ (v : V) (n : Nat) (f : Nat → Nat → Int) (i : Nat) (L : Int), vs = [v, .int (i : Int), .int L] ∧ n ≤ 20 ∧ i < n ∧ TabR K H v n f ∧ ∀ H2 p fs, Ex H H2 → H p = none → H2 p = some (.lst (nv fs)) → (∀ j, j ∈ fs ↔ j < n ∧ Reach n f L i j) → fs.length ≤ n → Q (.ref p) H2
theorem below_len {fs : List Nat} {n : Nat} (hd : fs.Nodup) (hl : ∀ x ∈ fs, x < n) : fs.length ≤ n := by
  have h := sub_len (fs.map fun (k : Nat) => (k : Int)) ((List.range n).map fun (k : Nat) => (k : Int)) ?_ ?_
  · simpa using h
  · exact List.pairwise_map.mpr (hd.imp fun {a b} ne e => ne (by omega))
  · intro x hx
    obtain ⟨k, hk, rfl⟩ := List.mem_map.mp hx
    exact List.mem_map.mpr ⟨k, List.mem_range.mpr (hl k hk), rfl⟩
theorem inV_nv (j : Nat) (fs : List Nat) : inV (V.int (j : Int)) (nv fs) = decide (j ∈ fs) := by
  unfold inV nv
  rw [List.any_map, Bool.eq_iff_iff, List.any_eq_true, decide_eq_true_eq]
  constructor
  · rintro ⟨k, hk, e⟩
    have e2 : (k : Int) = (j : Int) := eq_of_beq e
    rw [show j = k by omega]
    exact hk
  · intro h
    exact ⟨j, h, beq_self_eq_true (j : Int)⟩
theorem nv_flat (fs : List Nat) : (nv fs).all flatV = true := by
  rw [nv_iv]
  exact iv_flat _
theorem reach_mem {n : Nat} {f : Nat → Nat → Int} {L : Int} {i : Nat} {fs : List Nat} (h0 : i ∈ fs) (hc : ∀ k ∈ fs, ∀ j, j < n → L ≤ f k j → j ∈ fs) {j : Nat} (h : Reach n f L i j) : j ∈ fs := by
  induction h with
  | me => exact h0
  | on _ _ hj e ih => exact hc _ ih _ hj e
theorem ok_law_reached (T : Tx K mg) : FnOk P w K mg base CX0 1 T.f_law_reached T.d_law_reached ["_law_table_here", "_law_one", "_law_least"] (spReached K) := by
  refine T.F_law_reached.ok sc_law_reached (fun vs H Q E h => ?_) (fun cdv A outer s H vs Q E hr h => ?_)
  · obtain ⟨v, n, f, i, L, rfl, _⟩ := h
    rfl
  · obtain ⟨v, n, f, i, L, rfl, hn, hi, TT, q⟩ := h
    obtain ⟨t, xs, rfl, hS, hl, hat⟩ := TT.at_
    refine ⟨_, pss_cons (ps_set (i := 3) sc_law_reached.nd rfl (Or.inr rfl) (pe_lst (pa_cons (pv 1) pa_nil)))
      (pss_cons (ps_set (i := 4) sc_law_reached.nd rfl (Or.inl rfl) pe_int)
      (pss_cons (ps_while PassesOwn.never (pt_cmpR op_lt (pv 4) (pe_callB (lenK K) (by rfl) T.n_len PySem.boot_len (pa_cons (pv 3) pa_nil)) (nomark _)) (pss_cons (ps_set (i := 5) sc_law_reached.nd rfl (Or.inr rfl) (pe_ix (ixLK K) (pv 0) (pe_ix (ixLK K) (pv 3) (pv 4) (fun _ _ => rfl)) (fun _ _ => rfl)))
      (pss_cons (ps_expr (pe_bm PySem.F.plainAttrs_list PySem.F.slot_list_extend PySem.F.type_list_extend mt_extend (pv 3) (pa_cons (pe_lc (own := [("_law_other", 6)]) rfl sc_law_reached.nd (pi_range1 (by rfl) T.n_range (pa_cons (pe_callB (lenK K) (by rfl) T.n_len PySem.boot_len (pa_cons (pv 0) pa_nil)) pa_nil)) (blkOk_by (own := [("_law_other", 6)]) (N := ["_law_table_here", "_law_one", "_law_least", "_law_found", "_law_at", "_law_row", "_law_other"]) (sc := defScope s_law_reached) (by decide +kernel)) (fun _ _ _ _ _ => (pg_name (i := 6) sc_law_reached.nd rfl (by first | exact Or.inl rfl | exact Or.inr rfl))) (fun _ _ _ _ _ => pts_one (PW.pt (pw_and (pt_cmpR op_ge (pe_ix (ixLK K) (pv 5) (pv 6) (fun _ _ => rfl)) (pv 2) (nomark _)) (pw_and1 (pt_cmpR (notInK K) (pv 6) (pv 3) (by rfl)))))) (fun _ _ _ _ _ => (pv 6))) pa_nil)))
      (pss_one (ps_set (i := 4) sc_law_reached.nd rfl (Or.inl rfl) (pe_op op_add (pv 4) pe_int))))))
      (pss_one (ps_ret (pv 3))))), ?_⟩
    refine ⟨_, rfl, (by decide : 1 ≤ sizeLine), fun F nF => ?_⟩
    refine ⟨fun m σ' H' => ∃ (fs : List Nat) (at' : Nat) (y5 : Option V), σ' = [some (.ref t), some (.int i), some (.int L), some (.ref F), some (.int at'), y5, none] ∧ Ex H H' ∧ H' F = some (.lst (nv fs)) ∧ fs.Nodup ∧ (∀ x ∈ fs, x < n ∧ Reach n f L i x) ∧ i ∈ fs ∧ at' ≤ fs.length ∧ (∀ p k, p < at' → fs[p]? = some k → ∀ j, j < n → L ≤ f k j → j ∈ fs) ∧ n - at' = m,
      ⟨n, [i], 0, _, rfl, Ex.new nF, upd_same, by simp, fun x hx => ?_, by simp, Nat.zero_le _, fun p k h => by omega, rfl⟩, ?_⟩
    · have : x = i := by simpa using hx
      rw [this]
      exact ⟨hi, .me⟩
    rintro m σ' H' ⟨fs, at', y5, rfl, e, hF, hnd, hall, hme, hle, hcl, rfl⟩
    have hfl : fs.length ≤ n := below_len hnd fun x hx => (hall x hx).1
    refine ⟨_, rfl, _, rfl, F, _, rfl, .inl (sq_of hF), _, _, rfl, rfl, _, rfl, ?_⟩
    rw [nv_length]
    by_cases hlt : at' < fs.length
    · refine itT (decide_eq_true (by omega)) ?_
      refine ⟨fun σ2 Hz => ∃ (fs : List Nat) (y5 : Option V), σ2 = [some (.ref t), some (.int i), some (.int L), some (.ref F), some (.int ((at' + 1 : Nat) : Int)), y5, none] ∧ Ex H Hz ∧ Hz F = some (.lst (nv fs)) ∧ fs.Nodup ∧ (∀ x ∈ fs, x < n ∧ Reach n f L i x) ∧ i ∈ fs ∧ at' + 1 ≤ fs.length ∧ (∀ p k, p < at' + 1 → fs[p]? = some k → ∀ j, j < n → L ≤ f k j → j ∈ fs), ?_, ?_⟩
      · rintro σ2 Hz ⟨gs, y, c1, c2, c3, c4, c5, c6, c7, c8⟩
        exact ⟨n - (at' + 1), by omega, gs, at' + 1, y, c1, c2, c3, c4, c5, c6, c7, c8, rfl⟩
      obtain ⟨hkn, hkR⟩ := hall _ (List.getElem_mem hlt)
      obtain ⟨r, g1, g2⟩ := hat fs[at'] hkn
      have hk : (nv fs)[at']? = some (V.int ((fs[at'] : Nat) : Int)) := by
        unfold nv
        rw [List.getElem?_map, List.getElem?_eq_getElem hlt]
        rfl
      refine ⟨_, rfl, _, rfl, _, rfl, F, _, at', _, rfl, rfl, sq_of hF, atI_nat hk, t, _, _, .ref r, rfl, rfl, ex_l e hS, atI_nat g1, ?_⟩
      refine ⟨_, rfl, .inl ⟨rfl, _, sq_of hF⟩, _, rfl, t, _, rfl, .inl (ex_l e hS), (xs.length : Int), rfl, by omega, by omega, fun D hD => ?_⟩
      rw [hl]
      refine lc_filt (n := n) (walk_rg0 (n := n)) hD (by omega) (fun _ _ => trivial) (fun j => decide (L ≤ f fs[at'] j) && !decide (j ∈ fs)) (fun j => V.int (j : Int)) ?_ ?_
      · rintro j x Ha Ha' hj ea ⟨rfl, rfl⟩ Bf Qc hno hyes
        have eHa := e.trans ea
        refine ⟨rfl, _, rfl, _, rfl, r, _, j, .int _, rfl, rfl, ex_l eHa g2, atI_nat (rowV_get hj), _, rfl, _, _, rfl, rfl, _, rfl, it2 (fun h1 => ?_) (fun h1 => ?_)⟩
        · refine ⟨_, rfl, _, rfl, F, _, rfl, .inl (sq_of (ea _ _ hF)), rfl, nv_flat _, _, rfl, ?_⟩
          show if (!inV (V.int (j : Int)) (nv fs)) = true then _ else _
          rw [inV_nv]
          refine it2 (fun h2 => ⟨_, rfl, hyes _ (Ex.refl _) (by rw [h1, h2]; rfl)⟩) (fun h2 => hno _ (Ex.refl _) (by rw [h1, h2]; rfl))
        · exact hno _ (Ex.refl _) (by rw [h1]; rfl)
      · intro H2 e2 hD2
        obtain ⟨gs, hgs⟩ : ∃ gs : List Nat, gs = (List.range n).filter fun j => decide (L ≤ f fs[at'] j) && !decide (j ∈ fs) := ⟨_, rfl⟩
        rw [← hgs] at hD2
        have hgm : ∀ j, j ∈ gs ↔ j < n ∧ L ≤ f fs[at'] j ∧ j ∉ fs := fun j => by
          rw [hgs, List.mem_filter, List.mem_range, Bool.and_eq_true, decide_eq_true_eq, Bool.not_eq_true', decide_eq_false_iff_not]
        have hnd2 : (fs ++ gs).Nodup := by
          rw [List.nodup_append]
          refine ⟨hnd, by rw [hgs]; exact List.nodup_range.filter _, fun a ha b hb e9 => ((hgm b).mp hb).2.2 (e9 ▸ ha)⟩
        have hall2 : ∀ x ∈ fs ++ gs, x < n ∧ Reach n f L i x := fun x hx => (List.mem_append.mp hx).elim (hall x) fun hg => ⟨((hgm x).mp hg).1, .on hkR hkn ((hgm x).mp hg).1 ((hgm x).mp hg).2.1⟩
        have hlen2 := below_len hnd2 fun x hx => (hall2 x hx).1
        refine ⟨F, D, _, nv gs, rfl, rfl, e2 _ _ hF, hD2, sz_of (by rw [nv_length, nv_length]; rw [List.length_append] at hlen2; omega), ?_⟩
        refine ⟨_, rfl, _, _, rfl, rfl, fs ++ gs, _, rfl, (e.trans e2).mut nF, ?_, hnd2, hall2, List.mem_append_left _ hme, by rw [List.length_append]; omega, fun p k hp hpk j hj hL => ?_⟩
        · rw [upd_same, nv_app]
        · by_cases hp2 : p < at'
          · rw [List.getElem?_append_left (by omega)] at hpk
            exact List.mem_append_left _ (hcl p k hp2 hpk j hj hL)
          · have ep : p = at' := by omega
            subst ep
            rw [List.getElem?_append_left hlt, List.getElem?_eq_getElem hlt] at hpk
            cases hpk
            by_cases hm : j ∈ fs
            · exact List.mem_append_left _ hm
            · exact List.mem_append_right _ ((hgm j).mpr ⟨hj, hL, hm⟩)
    · refine itF (decide_eq_false (by omega)) ?_
      refine ⟨_, rfl, q H' F fs e nF hF (fun j => ⟨fun h => hall j h, fun h => reach_mem hme (fun k hk j hj hL => ?_) h.2⟩) hfl⟩
      obtain ⟨p, hp, ep⟩ := List.mem_iff_getElem.mp hk
      exact hcl p k (by omega) (by rw [List.getElem?_eq_getElem hp, ep]) j hj hL
end
end Hc
namespace Hc
open PySem PySem.Spec PyProof.Rows L2 Evl
section
variable {P : Program} {w : World} {K : PySem.W.Frag} {mg : Str → Option Value} {base : Heap}
def spLawStr (K : PySem.W.Frag) : Sp := fun vs H Q _ => ∃ (v : V) (n : Nat) (f : Nat → Nat → Int), vs = [v] ∧ n ≤ 20 ∧ TabR K H v n f ∧ Anti n f ∧ ∀ H2 t rs, Ex H H2 → Tab H H2 t rs n (wid f n) → Q (.ref t) H2
/-- the numbers of the first m rows, the middle ones left out -/
def numsTo (n : Nat) (f : Nat → Nat → Int) : Nat → List Int
  | 0 => []
  | m + 1 => numsTo n f m ++ ((List.range n).filter fun j => decide (j ≠ m)).map (f m)
theorem numsTo_len (n : Nat) (f : Nat → Nat → Int) : ∀ m, (numsTo n f m).length ≤ m * n
  | 0 => Nat.zero_le _
  | m + 1 => by
    have h1 := numsTo_len n f m
    have h2 := List.length_filter_le (fun j => decide (j ≠ m)) (List.range n)
    rw [List.length_range] at h2
    show List.length (_ ++ _) ≤ _
    rw [List.length_append, List.length_map, Nat.succ_mul]
    omega
theorem numsTo_mem {n : Nat} {f : Nat → Nat → Int} {a b : Nat} (hb : b < n) (hab : a ≠ b) : ∀ m, a < m → f a b ∈ numsTo n f m
  | 0, h => absurd h (Nat.not_lt_zero _)
  | m + 1, h => by
    show f a b ∈ _ ++ _
    by_cases e : a = m
    · subst e
      exact List.mem_append_right _ (List.mem_map.mpr ⟨b, List.mem_filter.mpr ⟨List.mem_range.mpr hb, decide_eq_true hab.symm⟩, rfl⟩)
    · exact List.mem_append_left _ (numsTo_mem hb hab m (by omega))
/-- within one strength: the rows ahead of i are done, and of row i the candidates told -/
def stp (w : Nat → Nat → Int) (ls : List Int) (k i : Nat) (dn : List Nat) (a b : Nat) : Int := if a < i then cur w ls (k + 1) a b else if a = i ∧ b ∈ dn ∧ b ≠ i then ls.getD k 0 else cur w ls k a b
theorem stp_none (w : Nat → Nat → Int) (ls : List Int) (k a b : Nat) : cur w ls k a b = stp w ls k 0 [] a b := by
  unfold stp
  rw [if_neg (Nat.not_lt_zero a), if_neg (fun h => nomatch h.2.1)]
theorem stp_all {w : Nat → Nat → Int} {ls : List Int} {k n a b : Nat} (h : a < n) : stp w ls k n [] a b = cur w ls (k + 1) a b := if_pos h
theorem mem_take1 {fs : List Nat} {p j b : Nat} (h : fs[p]? = some j) : b ∈ fs.take (p + 1) ↔ b ∈ fs.take p ∨ b = j := by
  rw [List.take_add_one, h]
  simp
theorem stp_skip {w : Nat → Nat → Int} {ls : List Int} {k i p a b : Nat} {fs : List Nat} (h : fs[p]? = some i) : stp w ls k i (fs.take p) a b = stp w ls k i (fs.take (p + 1)) a b := by
  unfold stp
  by_cases c : a < i
  · rw [if_pos c, if_pos c]
  · rw [if_neg c, if_neg c]
    by_cases d : a = i ∧ b ∈ fs.take p ∧ b ≠ i
    · rw [if_pos d, if_pos ⟨d.1, (mem_take1 h).mpr (.inl d.2.1), d.2.2⟩]
    · rw [if_neg d, if_neg]
      rintro ⟨d1, d2, d3⟩
      exact d ⟨d1, ((mem_take1 h).mp d2).resolve_right d3, d3⟩
theorem stp_put {w : Nat → Nat → Int} {ls : List Int} {k i p j a b : Nat} {fs : List Nat} (h : fs[p]? = some j) (hj : j ≠ i) : (if a = i ∧ b = j then ls.getD k 0 else stp w ls k i (fs.take p) a b) = stp w ls k i (fs.take (p + 1)) a b := by
  unfold stp
  by_cases c : a < i
  · rw [if_neg (by omega), if_pos c, if_pos c]
  · by_cases d : a = i ∧ b ∈ fs.take (p + 1) ∧ b ≠ i
    · rw [if_neg c, if_neg c, if_pos d]
      by_cases e : b = j
      · rw [if_pos ⟨d.1, e⟩]
      · rw [if_neg (fun z => e z.2), if_pos ⟨d.1, ((mem_take1 h).mp d.2.1).resolve_right e, d.2.2⟩]
    · rw [if_neg c, if_neg c, if_neg d, if_neg, if_neg]
      · rintro ⟨d1, d2, d3⟩
        exact d ⟨d1, (mem_take1 h).mpr (.inl d2), d3⟩
      · rintro ⟨d1, rfl⟩
        exact d ⟨d1, (mem_take1 h).mpr (.inr rfl), hj⟩
theorem stp_row {n : Nat} {f : Nat → Nat → Int} {ls : List Int} {k i a b : Nat} {fs : List Nat} (hi : i < n) (hb : b < n) (hm : ∀ j, j ∈ fs ↔ j < n ∧ Reach n f (ls.getD k 0) i j) : stp (wid f n) ls k i fs a b = stp (wid f n) ls k (i + 1) [] a b := by
  unfold stp
  by_cases c : a < i
  · rw [if_pos c, if_pos (by omega)]
  · rw [if_neg c]
    by_cases e : a = i
    · subst e
      rw [if_pos (Nat.lt_succ_self _)]
      show _ = if a ≠ b ∧ ls.getD k 0 ≤ wid f n a b then ls.getD k 0 else cur (wid f n) ls k a b
      by_cases d : a ≠ b ∧ ls.getD k 0 ≤ wid f n a b
      · rw [if_pos d, if_pos ⟨rfl, (hm b).mpr ⟨hb, wid_reach n (Nat.le_refl _) a b hi hb d.1 d.2⟩, d.1.symm⟩]
      · rw [if_neg d, if_neg]
        rintro ⟨_, d2, d3⟩
        exact d ⟨fun z => d3 z.symm, reach_wid ((hm b).mp d2).2 (fun z => d3 z.symm)⟩
    · rw [if_neg (fun z => e z.1), if_neg (by omega), if_neg (fun z => nomatch z.2.1)]
theorem ok_law_strengths (T : Tx K mg) : FnOk P w K mg base CX0 2 T.f_law_strengths T.d_law_strengths ["_law_table_here"] (spLawStr K) := by
  refine T.F_law_strengths.ok sc_law_strengths (fun vs H Q E h => ?_) (fun cdv A outer s H vs Q E hr h => ?_)
  · obtain ⟨v, n, f, rfl, _⟩ := h
    rfl
  · obtain ⟨v, n, f, rfl, hn, TT, hA, q⟩ := h
    have TT0 := TT
    obtain ⟨t, xs, rfl, hS, hl, hat⟩ := TT.at_
    refine ⟨_, pss_cons (ps_set (i := 1) sc_law_strengths.nd rfl (Or.inr rfl) (pe_callB (lenK K) (by rfl) T.n_len PySem.boot_len (pa_cons (pv 0) pa_nil)))
      (pss_cons (ps_if (pt_cmpR op_gt (pv 1) pe_int (nomark _)) (pss_one (ps_ret (pe_call (ok_law_widest T) (hr.mono (by decide)) (by rfl) T.g_law_widest T.F_law_widest.kp (b_law_widest T) .nil pass0 (pa_cons (pv 0) pa_nil)))) (pss_nil))
      (pss_cons (ps_setLc (i := 2) (own := [("_law_one", 4)]) rfl sc_law_strengths.nd rfl rfl (sw_true rfl rfl rfl (by decide +kernel)) (pi_range1 (by rfl) T.n_range (pa_cons (pv 1) pa_nil)) (blkOk_by (own := [("_law_one", 4)]) (N := ["_law_table_here", "_law_size", "_law_found", "_law_numbers", "_law_one", "_law_least", "_law_other"]) (sc := defScope s_law_strengths) (by decide +kernel)) (fun _ _ _ _ _ => (pg_name (i := 4) sc_law_strengths.nd rfl (by first | exact Or.inl rfl | exact Or.inr rfl))) (fun _ _ _ _ _ => pts_nil) (fun _ _ _ _ _ => (pe_op op_rep (pe_lst (pa_cons pe_int pa_nil)) (pv 1))))
      (pss_cons (ps_set (i := 3) sc_law_strengths.nd rfl (Or.inl rfl) (pe_lst pa_nil))
      (pss_cons (ps_for PassesOwn.never rfl (pi_range1 (by rfl) T.n_range (pa_cons (pv 1) pa_nil)) (pg_name (i := 4) sc_law_strengths.nd rfl (by first | exact Or.inl rfl | exact Or.inr rfl))
        (pss_one (ps_expr (pe_bm PySem.F.plainAttrs_list PySem.F.slot_list_extend PySem.F.type_list_extend mt_extend (pv 3) (pa_cons (pe_lc (own := [("_law_other", 6)]) rfl sc_law_strengths.nd (pi_range1 (by rfl) T.n_range (pa_cons (pv 1) pa_nil)) (blkOk_by (own := [("_law_other", 6)]) (N := ["_law_table_here", "_law_size", "_law_found", "_law_numbers", "_law_one", "_law_least", "_law_other"]) (sc := defScope s_law_strengths) (by decide +kernel)) (fun _ _ _ _ _ => (pg_name (i := 6) sc_law_strengths.nd rfl (by first | exact Or.inl rfl | exact Or.inr rfl))) (fun _ _ _ _ _ => pts_one (pt_cmpR op_ne (pv 6) (pv 4) (nomark _))) (fun _ _ _ _ _ => (pe_ix (ixLK K) (pe_ix (ixLK K) (pv 0) (pv 4) (fun _ _ => rfl)) (pv 6) (fun _ _ => rfl)))) pa_nil)))))
      (pss_cons (ps_for PassesOwn.never rfl (piL K (pe_callB (cr_sortedSet rfl) (by rfl) T.n_sorted PyProof.Rows.boot_sorted (pa_cons (pe_callTy (setWK K) (by rfl) T.n_set bt_set (pa_cons (pv 3) pa_nil)) pa_nil))) (pg_name (i := 5) sc_law_strengths.nd rfl (by first | exact Or.inl rfl | exact Or.inr rfl))
        (pss_one (ps_for PassesOwn.never rfl (pi_range1 (by rfl) T.n_range (pa_cons (pv 1) pa_nil)) (pg_name (i := 4) sc_law_strengths.nd rfl (by first | exact Or.inl rfl | exact Or.inr rfl))
        (pss_one (ps_for PassesOwn.never rfl (piL K (pe_call (ok_law_reached T) (hr.mono (by decide)) (by rfl) T.g_law_reached T.F_law_reached.kp (b_law_reached T) .nil pass0 (pa_cons (pv 0) (pa_cons (pv 4) (pa_cons (pv 5) pa_nil))))) (pg_name (i := 6) sc_law_strengths.nd rfl (by first | exact Or.inl rfl | exact Or.inr rfl))
        (pss_one (ps_if (pt_cmpR op_ne (pv 6) (pv 4) (nomark _)) (pss_one (ps_asg (pv 5) (pg_sub (pe_ix (ixLK K) (pv 2) (pv 4) (fun _ _ => rfl)) (pv 6) set_list))) (pss_nil))))))))
      (pss_one (ps_ret (pv 2)))))))), ?_⟩
    refine ⟨_, rfl, t, _, rfl, .inl hS, ?_⟩
    rw [hl]
    refine ⟨_, rfl, _, _, rfl, rfl, _, rfl, it2 (fun h6 => ?_) (fun h6 => ?_)⟩
    · exact ⟨_, rfl, .ref t, n, f, rfl, hn, TT0, fun H2 t2 rs e TW => q H2 t2 rs e TW⟩
    have hn6 : n ≤ 6 := by
      have := of_decide_eq_false h6
      omega
    refine ⟨_, rfl, n, rfl, by omega, by omega, fun D hD => ?_⟩
    refine lc_rows (n := n) (walk_rg0 (n := n)) hD (by omega) (fun _ _ => trivial) (fun _ => rowV n (fun _ => 0)) ?_ ?_
    · rintro i x H2 H2' hi e2 ⟨rfl, rfl⟩ Qc hq
      refine ⟨rfl, (by decide : 1 ≤ sizeLine), fun p hp => ⟨_, rfl, p, n, _, rfl, rfl, upd_same, by omega, by omega, ?_, fun r hr' => ?_⟩⟩
      · show 1 * (n : Int).toNat ≤ sizeLine
        exact sz_of (by omega)
      · have e3 := Ex.new (o := .lst [V.int 0]) hp
        refine hq r _ (fresh_back e3 hr') (e3.trans (Ex.new hr')) ?_
        rw [upd_same]
        show some (HO.lst (List.replicate n [V.int 0]).flatten) = _
        rw [rep_row]
    intro H3 ps e3 hD3 hlen R
    have T0 : Tab H H3 D ps n (fun _ _ => 0) := R.tab hD hD3 hlen
    refine ⟨Nat.zero_le _, fun N nN => ?_⟩
    refine ⟨_, rfl, n, rfl, by omega, by omega, ?_⟩
    refine for_it (walk_rg0 (n := n)) (fun m σ' H' => ∃ (y4 : Option V), σ' = [some (.ref t), some (.int n), some (.ref D), some (.ref N), y4, none, none] ∧ Ex H3 H' ∧ H' N = some (.lst (iv (numsTo n f m))))
      ⟨_, rfl, Ex.new nN, upd_same⟩ (fun _ _ _ _ _ => trivial) ?_ ?_
    · rintro i x σ' H' H'' hi ⟨y4, rfl, e, hN⟩ ⟨rfl, rfl⟩
      have eH := e3.trans e
      obtain ⟨r, g1, g2⟩ := hat i hi
      refine ⟨_, rfl, .inl ⟨rfl, _, sq_of hN⟩, _, rfl, n, rfl, by omega, by omega, fun D2 hD2 => ?_⟩
      refine lc_filt (n := n) (walk_rg0 (n := n)) hD2 (by omega) (fun _ _ => trivial) (fun j => decide (j ≠ i)) (fun j => V.int (f i j)) ?_ ?_
      · rintro j x Ha Ha' hj ea ⟨rfl, rfl⟩ Bf Qc hno hyes
        refine ⟨rfl, _, rfl, _, rfl, rfl, _, rfl, ?_⟩
        rw [dec_int]
        refine it2 (fun h1 => ?_) (fun h1 => hno _ (Ex.refl _) ?_)
        · refine ⟨_, rfl, _, rfl, t, _, i, .ref r, rfl, rfl, ex_l (eH.trans ea) hS, atI_nat g1, _, rfl, r, _, j, .int _, rfl, rfl, ex_l (eH.trans ea) g2, atI_nat (rowV_get hj), hyes _ (Ex.refl _) (decide_eq_true ?_)⟩
          have k1 : decide ((j : Int) = (i : Int)) = false := bnot_t h1
          have := of_decide_eq_false k1
          omega
        · have k1 : decide ((j : Int) = (i : Int)) = true := bnot_f h1
          have := of_decide_eq_true k1
          exact decide_eq_false (by omega)
      · intro H4 e4 hD4
        have hln := numsTo_len n f (i + 1)
        have hmul : (i + 1) * n ≤ 36 := Nat.mul_le_mul (by omega : i + 1 ≤ 6) hn6
        have es : iv (numsTo n f (i + 1)) = iv (numsTo n f i) ++ ((List.range n).filter fun j => decide (j ≠ i)).map fun j => V.int (f i j) := by
          show iv (_ ++ _) = _
          unfold iv
          rw [List.map_append, List.map_map]
          rfl
        refine ⟨N, D2, _, _, rfl, rfl, e4 _ _ hN, hD4, sz_of ?_, _, rfl, (e.trans e4).mut nN, ?_⟩
        · have := congrArg List.length es
          rw [List.length_append, iv_length] at this
          omega
        · rw [upd_same, es]
    · rintro σ' H4 ⟨y4, rfl, e4, hN4⟩
      have hln := numsTo_len n f n
      have hmul : n * n ≤ 36 := Nat.mul_le_mul hn6 hn6
      refine ⟨_, rfl, N, numsTo n f n, rfl, sq_of hN4, by omega, fun S c nS hc => ⟨S, _, c, rfl, upd_same, by omega, fun ls p hsrt hmem hll np => ⟨p, rfl, ⟨_, sq_of upd_same⟩, ?_⟩⟩⟩
      have eS := Ex.new (o := SetO w S (fun k => decide (k ∈ numsTo n f n)) c) nS
      have ep := Ex.new (o := .lst (iv ls)) np
      have e5 := e3.trans (e4.trans (eS.trans ep))
      have T5 := T0.mono (e4.trans (eS.trans ep))
      have hp5 : upd (upd H4 S (SetO w S (fun k => decide (k ∈ numsTo n f n)) c)) p (.lst (iv ls)) p = some (.lst (iv ls)) := upd_same
      have hpr : ∀ r ∈ ps, p ≠ r := fun r hr' => by
        obtain ⟨i, hi, ei⟩ := List.mem_iff_getElem.mp hr'
        have g := T0.row i r (by rw [List.getElem?_eq_getElem hi, ei])
        exact (ne_of_fresh ((e4.trans eS) _ _ g) np).symm
      have hm36 : ls.length ≤ 36 := by omega
      refine for_it (walk_list (K := K) (a := p) (xs := iv ls)) (fun k σ' H' => ∃ (y4 y5 y6 : Option V), σ' = [some (.ref t), some (.int n), some (.ref D), some (.ref N), y4, y5, y6] ∧ Ex H H' ∧ H' p = some (.lst (iv ls)) ∧ Tab H H' D ps n (cur (wid f n) ls k))
        ⟨_, _, _, rfl, e5, hp5, T5⟩ (fun _ _ _ _ ⟨_, _, _, _, _, h, _⟩ => sq_of h) ?_ ?_
      · rintro k x σ' H' H'' hk ⟨y4, y5, y6, rfl, e, hp, TT⟩ ⟨rfl, hx⟩
        rw [iv_length] at hk
        rw [iv_at0 hk] at hx
        cases hx
        refine ⟨_, rfl, n, rfl, by omega, by omega, ?_⟩
        refine for_it (walk_rg0 (n := n)) (fun i σ' H' => ∃ (y4 y6 : Option V), σ' = [some (.ref t), some (.int n), some (.ref D), some (.ref N), y4, some (.int (at0 ls k)), y6] ∧ Ex H H' ∧ H' p = some (.lst (iv ls)) ∧ Tab H H' D ps n (stp (wid f n) ls k i []))
          ⟨_, _, rfl, e, hp, TT.congr fun a b _ _ => stp_none _ ls k a b⟩ (fun _ _ _ _ _ => trivial) ?_ ?_
        · rintro i x σ' H' H'' hi ⟨y4, y6, rfl, e, hp, TT⟩ ⟨rfl, rfl⟩
          refine ⟨_, rfl, _, rfl, _, rfl, .ref t, n, f, i, at0 ls k, rfl, hn, hi, TT0.mono e, fun H6 o fs e6 no hfs hmem hfl => ⟨o, rfl, ⟨_, sq_of hfs⟩, ?_⟩⟩
          have hor : ∀ r ∈ ps, o ≠ r := fun r hr' => by
            obtain ⟨i, hi, ei⟩ := List.mem_iff_getElem.mp hr'
            have g := TT.row i r (by rw [List.getElem?_eq_getElem hi, ei])
            exact (ne_of_fresh g no).symm
          refine for_it (walk_list (K := K) (a := o) (xs := nv fs)) (fun m σ' H' => ∃ (y6 : Option V), σ' = [some (.ref t), some (.int n), some (.ref D), some (.ref N), some (.int i), some (.int (at0 ls k)), y6] ∧ Ex H H' ∧ H' p = some (.lst (iv ls)) ∧ H' o = some (.lst (nv fs)) ∧ Tab H H' D ps n (stp (wid f n) ls k i (fs.take m)))
            ⟨_, rfl, e.trans e6, e6 _ _ hp, hfs, TT.mono e6⟩ (fun _ _ _ _ ⟨_, _, _, _, h, _⟩ => sq_of h) ?_ ?_
          · rintro m x σ' H' H'' hm ⟨y6, rfl, e, hp, ho, TT⟩ ⟨rfl, hx⟩
            obtain ⟨j, hj, rfl⟩ := nv_get hx
            have hjn : j < n := ((hmem j).mp (List.mem_of_getElem? hj)).1
            refine ⟨_, rfl, _, rfl, rfl, _, rfl, ?_⟩
            rw [dec_int]
            refine it2 (fun h1 => ?_) (fun h1 => ?_)
            · have k1 : decide ((j : Int) = (i : Int)) = false := bnot_t h1
              have hji : j ≠ i := fun z => of_decide_eq_false k1 (by omega)
              obtain ⟨r1, g1, m1, x1, c1⟩ := TT.at_ hi
              have TP := TT.put (b := j) (z := at0 ls k) g1
              refine ⟨_, rfl, _, rfl, _, rfl, D, _, i, .ref r1, rfl, rfl, sq_of TT.top, atI_nat x1, _, rfl, r1, _, j, j, rfl, rfl, c1, ixN_nat (by rw [rowV_length]; exact hjn), _, rfl, TT.exMut e m1, ?_, ?_, TP.congr fun a b _ _ => stp_put hj hji⟩
              · rw [upd_ne (hpr _ m1)]
                exact hp
              · rw [upd_ne (hor _ m1)]
                exact ho
            · have k1 : decide ((j : Int) = (i : Int)) = true := bnot_f h1
              have hji : j = i := by
                have := of_decide_eq_true k1
                omega
              subst hji
              exact ⟨_, rfl, e, hp, ho, TT.congr fun a b _ _ => stp_skip hj⟩
          · rintro σ' H' ⟨y6, rfl, e, hp, ho, TT⟩
            rw [nv_length, List.take_length] at TT
            exact ⟨_, _, rfl, e, hp, TT.congr fun a b _ hb => stp_row hi hb hmem⟩
        · rintro σ' H' ⟨y4, y6, rfl, e, hp, TT⟩
          exact ⟨_, _, _, rfl, e, hp, TT.congr fun a b ha _ => stp_all ha⟩
      · rintro σ' H' ⟨y4, y5, y6, rfl, e, hp, TT⟩
        rw [iv_length] at TT
        refine ⟨_, rfl, q H' D ps e (TT.congr fun a b ha hb => ?_)⟩
        by_cases hab : a = b
        · subst hab
          rw [cur_self, wid_self]
          have := hA a a ha ha
          omega
        · refine cur_end hsrt hab ((hmem _).mpr (decide_eq_true ?_))
          obtain ⟨a', b', ha', hb', hab', ew⟩ := wid_mem f n n (Nat.le_refl _) a b ha hb hab
          rw [ew]
          exact numsTo_mem hb' hab' n ha'
end
end Hc
namespace Hc
open PySem PySem.Spec PyProof.Rows L2 Evl
section
variable {P : Program} {w : World} {K : PySem.W.Frag} {mg : Str → Option Value} {base : Heap}
def lawNum (c a w : Int) : Int := if 10 ^ 18 ≤ c then c / (1 + a % 7) else
  (((c + 977 * a) * 48271 + w) % 2147483647 * (c + 31 * a + 7)) * (((c + 977 * a) * 48271 + w) % 2147483647 + c + 5) * (((c + 977 * a) * 48271 + w) % 2147483647 * (((c + 977 * a) * 48271 + w) % 2147483647) + 11) / (1009 + a)
def spLawNum : Sp := fun vs H Q _ => ∃ (c a w : Int) (B : Nat), vs = [.int c, .int a, .int w] ∧ 0 ≤ a ∧ a ≤ 1000 ∧ Big B c ∧ B ≤ 2000000 ∧ Q (.int (lawNum c a w)) H
theorem mod31 (x : Int) : 0 ≤ x % 2147483647 ∧ x % 2147483647 < 2147483647 := ⟨Int.emod_nonneg _ (by decide), Int.emod_lt_of_pos _ (by decide)⟩
theorem ok_law_number (T : Tx K mg) : FnOk P w K mg base CX0 1 T.f_law_number T.d_law_number ["_law_cell", "_law_at", "_law_whole"] spLawNum := by
  refine T.F_law_number.ok sc_law_number (fun vs H Q E h => ?_) (fun cdv A outer s H vs Q E hr h => ?_)
  · obtain ⟨c, a, w', B, rfl, _⟩ := h
    rfl
  · obtain ⟨c, a, w', B, rfl, ha0, ha1, hB, hB2, q⟩ := h
    refine ⟨_, pss_cons (ps_if (pt_cmpR op_ge (pv 0) (pe_op op_pow pe_int pe_int) (nomark _)) (pss_one (ps_ret (pe_op op_fdivW (pv 0) (pe_op op_add pe_int (pe_op op_mod (pv 1) pe_int))))) (pss_nil))
      (pss_cons (ps_set (i := 3) sc_law_number.nd rfl (Or.inl rfl) (pe_op op_mod (pe_op op_add (pe_op op_mulG (pe_op op_add (pv 0) (pe_op op_mulG pe_int (pv 1))) pe_int) (pv 2)) pe_int))
      (pss_cons (ps_set (i := 4) sc_law_number.nd rfl (Or.inl rfl) (pe_op op_mulG (pv 3) (pe_op op_add (pe_op op_add (pv 0) (pe_op op_mulG pe_int (pv 1))) pe_int)))
      (pss_one (ps_ret (pe_op op_fdivW (pe_op op_mulG (pe_op op_mulG (pv 4) (pe_op op_add (pe_op op_add (pv 3) (pv 0)) pe_int)) (pe_op op_add (pe_op op_mulG (pv 3) (pv 3)) pe_int)) (pe_op op_add pe_int (pv 1))))))), ?_⟩
    refine ⟨_, rfl, _, _, rfl, rfl, ⟨by decide, by decide, by decide⟩, _, _, rfl, rfl, _, rfl, it2 (fun hc => ?_) (fun hc => ?_)⟩
    · have hc1 : (10 : Int) ^ 18 ≤ c := of_decide_eq_true hc
      have h7 := Int.emod_lt_of_pos a (show (0 : Int) < 7 by decide)
      have h70 := Int.emod_nonneg a (show (7 : Int) ≠ 0 by decide)
      refine ⟨_, rfl, _, rfl, _, _, rfl, rfl, (by decide : (0 : Int) < 7), _, _, rfl, rfl, _, _, rfl, rfl, divW_small (by omega) (by omega), ?_⟩
      unfold lawNum at q
      rw [if_pos hc1] at q
      exact q
    · have hc1 : ¬ (10 : Int) ^ 18 ≤ c := of_decide_eq_false hc
      unfold lawNum at q
      rw [if_neg hc1] at q
      obtain ⟨m0, m1⟩ := mod31 ((c + 977 * a) * 48271 + w')
      refine ⟨_, rfl, _, rfl, _, _, rfl, rfl, mulOk_small (by decide) (by decide), _, _, rfl, rfl, _, _, rfl, rfl, mulOk_smallR (by decide) (by decide), _, rfl, _, _, rfl, rfl, _, _, rfl, rfl, (by decide : (0 : Int) < 2147483647), ?_⟩
      dsimp only
      generalize ((c + 977 * a) * 48271 + w') % 2147483647 = m at m0 m1 q ⊢
      refine ⟨_, rfl, _, rfl, _, rfl, _, _, rfl, rfl, mulOk_small (by decide) (by decide), _, _, rfl, rfl, _, _, rfl, rfl, _, _, rfl, rfl, mulOk_small (by omega) (by omega), ?_⟩
      have hc' : Big (B + 64) c := hB.mono (Nat.le_add_right _ _)
      have b1 : Big (B + 64 + 1 + 1) (c + 31 * a + 7) := Big.add (Big.add hc' (big_small (Nat.le_add_left _ _) (by omega) (by omega))) (big_small (by omega) (by decide) (by decide))
      have b2 : Big (B + 64 + 1 + 1) (m + c + 5) := Big.add (Big.add (big_small (Nat.le_add_left _ _) (by omega) (by omega)) hc') (big_small (by omega) (by decide) (by decide))
      have b3 : Big (64 + (B + 64 + 1 + 1)) (m * (c + 31 * a + 7)) := Big.mul (big_small (Nat.le_refl _) (by omega) (by omega)) b1
      have mm0 : 0 ≤ m * m := Int.mul_nonneg m0 m0
      have mm1 : m * m ≤ 2147483647 * 2147483647 := Int.mul_le_mul (by omega) (by omega) m0 (by decide)
      refine ⟨_, rfl, _, rfl, _, rfl, _, _, rfl, rfl, _, _, rfl, rfl, _, _, rfl, rfl, mulOk_big b3 b2 (by omega) (by omega) (by omega), _, rfl, _, rfl, _, _, rfl, rfl, mulOk_small (by omega) (by omega), _, _, rfl, rfl, _, _, rfl, rfl, mulOk_smallR (by omega) (by omega), _, rfl, _, _, rfl, rfl, _, _, rfl, rfl, divW_small (by omega) (by omega), q⟩
def spLawBallots (K : PySem.W.Frag) : Sp := fun vs H Q _ => ∃ (a : Addr) (ns : List Int) (n B : Nat), vs = [.ref a, .int (n : Int)] ∧ SqL K H a (iv ns) ∧ n ≤ 20 ∧ (∀ z ∈ ns, Big B z) ∧ B ≤ 2000000 ∧
  ∀ H2 D xs bs, Ex H H2 → H D = none → H2 D = some (.lst xs) → Paired (BalR K H2) xs bs → bs.all (okB n) = true → bs.length = min 24 ns.length → Q (.ref D) H2
theorem atI_three {i : Int} (h0 : 0 ≤ i) (h3 : i < 3) {x y z : Int} (hx : 0 < x) (hy : 0 < y) (hz : 0 < z) : ∃ u : Int, 0 < u ∧ atI [V.int x, V.int y, V.int z] i = some (.int u) := by
  rcases (by omega : i = 0 ∨ i = 1 ∨ i = 2) with rfl | rfl | rfl
  · exact ⟨x, hx, rfl⟩
  · exact ⟨y, hy, rfl⟩
  · exact ⟨z, hz, rfl⟩
theorem perm_erase : ∀ (l : List Nat) (k : Nat) (x : Nat), l[k]? = some x → (x :: l.eraseIdx k).Perm l
  | [], _, _, h => by simp at h
  | a :: l, 0, x, h => by
    have e : a = x := by simpa using h
    subst e
    exact List.Perm.refl _
  | a :: l, k + 1, x, h => by
    have h1 := perm_erase l k x (by simpa using h)
    exact (List.Perm.swap a x _).trans (h1.cons a)
theorem nv_erase (l : List Nat) (k : Nat) : (nv l).eraseIdx k = nv (l.eraseIdx k) := by
  unfold nv
  induction l generalizing k with
  | nil => rfl
  | cons a l ih =>
    cases k with
    | zero => rfl
    | succ k =>
      show _ :: (List.map _ l).eraseIdx k = _ :: List.map _ (l.eraseIdx k)
      rw [ih]
theorem nv_append (l m : List Nat) : nv l ++ nv m = nv (l ++ m) := by
  unfold nv
  rw [List.map_append]
theorem ok_law_ballots (T : Tx K mg) : FnOk P w K mg base CX0 2 T.f_law_ballots T.d_law_ballots ["_law_script", "_law_size"] (spLawBallots K) := by
  refine T.F_law_ballots.ok sc_law_ballots (fun vs H Q E h => ?_) (fun cdv A outer s H vs Q E hr h => ?_)
  · obtain ⟨a, ns, n, B, rfl, _⟩ := h
    rfl
  · obtain ⟨a, ns, n, B, rfl, hS, hn, hB, hB2, q⟩ := h
    refine ⟨_, pss_cons (ps_set (i := 2) sc_law_ballots.nd rfl (Or.inl rfl) (pe_lst pa_nil))
      (pss_cons (ps_set (i := 3) sc_law_ballots.nd rfl (Or.inl rfl) (pe_callB (sumK K) (by rfl) T.n_sum PyProof.Rows.boot_sum (pa_cons (pe_slice (slLK K) (pv 0) po_none (po_some pe_int)) pa_nil)))
      (pss_cons (ps_for PassesOwn.never rfl (piE K (by rfl) T.n_enumerate (pa_cons (pe_slice (slLK K) (pv 0) po_none (po_some pe_int)) pa_nil)) (pgT K (n := 2) (pgs_cons (pg_name (i := 4) sc_law_ballots.nd rfl (by first | exact Or.inl rfl | exact Or.inr rfl)) (pgs_cons (pg_name (i := 5) sc_law_ballots.nd rfl (by first | exact Or.inl rfl | exact Or.inr rfl)) pgs_nil)))
        (pss_cons (ps_set (i := 6) sc_law_ballots.nd rfl (Or.inl rfl) (pe_call (ok_law_number T) (hr.mono (by decide)) (by rfl) T.g_law_number T.F_law_number.kp (b_law_number T) .nil pass0 (pa_cons (pv 5) (pa_cons (pv 4) (pa_cons (pv 3) pa_nil)))))
      (pss_cons (ps_set (i := 7) sc_law_ballots.nd rfl (Or.inl rfl) (pe_listRg rfl (by rfl) T.n_list (prg_1 (by rfl) T.n_range (pv 1))))
      (pss_cons (ps_set (i := 8) sc_law_ballots.nd rfl (Or.inl rfl) (pe_lst pa_nil))
      (pss_cons (ps_while PassesOwn.never (pt_cmpR (neDK K hr.units) (pv 7) (pe_lst pa_nil) (nomark _)) (pss_cons (ps_expr (pe_bm PySem.F.plainAttrs_list PySem.F.slot_list_append PySem.F.type_list_append mt_append (pv 8) (pa_cons (pe_bm PySem.F.plainAttrs_list PySem.F.slot_list_pop PySem.F.type_list_pop mt_popAt (pv 7) (pa_cons (pe_op op_mod (pv 6) (pe_callB (lenK K) (by rfl) T.n_len PySem.boot_len (pa_cons (pv 7) pa_nil))) pa_nil)) pa_nil)))
      (pss_one (ps_set (i := 6) sc_law_ballots.nd rfl (Or.inl rfl) (pe_op op_fdivW (pv 6) (pe_op op_add (pe_callB (lenK K) (by rfl) T.n_len PySem.boot_len (pa_cons (pv 7) pa_nil)) pe_int))))))
      (pss_one (ps_expr (pe_bm PySem.F.plainAttrs_list PySem.F.slot_list_append PySem.F.type_list_append mt_append (pv 2) (pa_cons (pe_tup (pa_cons (pv 8) (pa_cons (pe_op op_add pe_int (pe_op op_mod (pe_call (ok_law_number T) (hr.mono (by decide)) (by rfl) T.g_law_number T.F_law_number.kp (b_law_number T) .nil pass0 (pa_cons (pv 5) (pa_cons (pe_op op_add (pv 4) pe_int) (pa_cons (pv 3) pa_nil)))) (pe_ix (ixTK K) (pe_tup (pa_cons pe_int (pa_cons pe_int (pa_cons (pe_op op_pow pe_int pe_int) pa_nil)))) (pe_op op_mod (pe_op op_fdivW (pv 3) pe_int) pe_int) (fun _ _ => rfl)))) pa_nil))) pa_nil)))))))))
      (pss_one (ps_ret (pv 2))))), ?_⟩
    refine ⟨Nat.zero_le _, fun F nF => ?_⟩
    have e1 : Ex H (upd H F (.lst [])) := Ex.new nF
    refine ⟨.ref a, rfl, 63, rfl, a, iv ns, rfl, ex_l e1 hS, fun c1 nc1 => ?_⟩
    have e2 : Ex _ (upd (upd H F (.lst [])) c1 (.lst (cutV (iv ns) none (some 63)))) := Ex.new nc1
    have ec1 : cutV (iv ns) none (some 63) = (ns.take 63).map V.int := by
      rw [show (63 : Int) = ((63 : Nat) : Int) from rfl, cut_to]
      unfold iv
      rw [List.map_take]
    refine ⟨c1, ns.take 63, rfl, sq_of (by rw [upd_same, ec1]), ?_⟩
    generalize (ns.take 63).sum = wh
    refine ⟨.ref a, rfl, 24, rfl, a, iv ns, rfl, ex_l (e1.trans e2) hS, fun c2 nc2 => ?_⟩
    have e3 := Ex.new (o := .lst (cutV (iv ns) none (some 24))) nc2
    have ec2 : cutV (iv ns) none (some 24) = iv (ns.take 24) := by
      rw [show (24 : Int) = ((24 : Nat) : Int) from rfl, cut_to]
      unfold iv
      rw [List.map_take]
    have hF2 : (upd (upd (upd H F (.lst [])) c1 (.lst (cutV (iv ns) none (some 63)))) c2 (.lst (cutV (iv ns) none (some 24)))) F = some (.lst []) := e3 _ _ (e2 _ _ upd_same)
    have hc2 : (upd (upd (upd H F (.lst [])) c1 (.lst (cutV (iv ns) none (some 63)))) c2 (.lst (cutV (iv ns) none (some 24)))) c2 = some (.lst (iv (ns.take 24))) := by rw [upd_same, ec2]
    have nF2 : F ≠ c2 := fun e => by rw [← e, e2 _ _ upd_same] at nc2; cases nc2
    have e13 := (e1.trans e2).trans e3
    generalize (upd (upd (upd H F (.lst [])) c1 (.lst (cutV (iv ns) none (some 63)))) c2 (.lst (cutV (iv ns) none (some 24)))) = H3 at hF2 hc2 e13
    refine ⟨c2, _, rfl, sq_of hc2, ?_⟩
    refine for_it (walk_enum (K := K) (a := c2) (xs := iv (ns.take 24))) (fun p σ' H' => ∃ y4 y5 y6 y7 y8 xs bs, σ' = [some (.ref a), some (.int n), some (.ref F), some (.int wh), y4, y5, y6, y7, y8] ∧ Ex H H' ∧ H' c2 = some (.lst (iv (ns.take 24))) ∧ H' F = some (.lst xs) ∧ Paired (BalR K (rem H' F)) xs bs ∧ bs.all (okB n) = true ∧ bs.length = p)
      ⟨none, none, none, none, none, [], [], rfl, e13, hc2, hF2, .nil, rfl, rfl⟩ (fun p σ' H' _ ⟨_, _, _, _, _, _, _, _, _, h, _⟩ => sq_of h) ?_ ?_
    · rintro p x σ' H' H'' hp ⟨y4, y5, y6, y7, y8, xs, bs, rfl, e, hc, hF, hP, hok, hlen⟩ ⟨U, x1, x2, rfl, nU, rfl, h1, h2⟩
      cases h1
      obtain ⟨z, hz, rfl⟩ := iv_get h2
      have hzB : Big B z := hB z (List.mem_of_mem_take (List.mem_of_getElem? hz))
      have hp24 : p < 24 := by
        rw [iv_length, List.length_take] at hp
        omega
      have eU : Ex H' (upd H' U (.tup [.int (p : Nat), .int z])) := Ex.new nU
      refine ⟨U, _, rfl, st_of upd_same, rfl, _, _, rfl, _, [], rfl, rfl, ?_⟩
      refine ⟨_, rfl, _, rfl, _, rfl, z, p, wh, B, rfl, by omega, by omega, hzB, hB2, ?_⟩
      generalize lawNum z p wh = nm
      refine ⟨_, rfl, n, rfl, rgOk_nat (by omega), fun Lf nLf => ?_⟩
      rw [rgV_nv]
      have eL := Ex.new (o := .lst (nv (List.range n))) nLf
      refine ⟨Nat.zero_le _, fun Ln nLn => ?_⟩
      have eM := Ex.new (o := .lst []) nLn
      have eAll := (eU.trans eL).trans eM
      have nLf0 : H' Lf = none := fresh_back eU nLf
      have nLn0 : H' Ln = none := fresh_back (eU.trans eL) nLn
      have nLL : Lf ≠ Ln := fun e => by rw [← e, upd_same] at nLn; cases nLn
      have hLf : (upd (upd (upd H' U (.tup [.int (p : Nat), .int z])) Lf (.lst (nv (List.range n)))) Ln (.lst [])) Lf = some (.lst (nv (List.range n))) := eM _ _ upd_same
      have hLn : (upd (upd (upd H' U (.tup [.int (p : Nat), .int z])) Lf (.lst (nv (List.range n)))) Ln (.lst [])) Ln = some (.lst (nv [])) := upd_same
      generalize (upd (upd (upd H' U (.tup [.int (p : Nat), .int z])) Lf (.lst (nv (List.range n)))) Ln (.lst [])) = H4 at eAll hLf hLn
      refine ⟨fun m σ' H5 => ∃ (nm : Int) (left line : List Nat), σ' = [some (.ref a), some (.int n), some (.ref F), some (.int wh), some (.int p), some (.int z), some (.int nm), some (.ref Lf), some (.ref Ln)] ∧ Ex H' H5 ∧ H5 Lf = some (.lst (nv left)) ∧ H5 Ln = some (.lst (nv line)) ∧ (line ++ left).Perm (List.range n) ∧ left.length = m,
        ⟨n, nm, List.range n, [], rfl, eAll, hLf, hLn, List.Perm.refl _, List.length_range⟩, ?_⟩
      rintro m σ' H5 ⟨nm, left, line, rfl, e5, hLf, hLn, hperm, rfl⟩
      have hlen2 : line.length + left.length = n := by
        have := hperm.length_eq
        rw [List.length_append, List.length_range] at this
        exact this
      refine ⟨_, rfl, Nat.zero_le _, fun o no => ?_⟩
      have eo := Ex.new (o := .lst []) no
      have hLf' : SqL K (upd H5 o (.lst [])) Lf (iv (left.map fun (k : Nat) => (k : Int))) := by
        rw [← nv_iv]
        exact sq_of (eo _ _ hLf)
      refine ⟨_, _, dp_ints hLf', dp_ints (ns := []) (sq_of upd_same), shaped_ints _, shaped_ints _, _, rfl, ?_⟩
      have hLf6 : (upd H5 o (.lst [])) Lf = some (.lst (nv left)) := eo _ _ hLf
      have hLn6 : (upd H5 o (.lst [])) Ln = some (.lst (nv line)) := eo _ _ hLn
      have e6 := e5.trans eo
      generalize (upd H5 o (.lst [])) = H6 at hLf' hLf6 hLn6 e6
      by_cases hl0 : left = []
      · refine itF (by rw [eqv_ints, hl0]; rfl) ?_
        subst hl0
        rw [List.append_nil] at hperm
        have hi0 := Int.emod_nonneg (wh / 5) (show (3 : Int) ≠ 0 by decide)
        have hi3 := Int.emod_lt_of_pos (wh / 5) (show (0 : Int) < 3 by decide)
        obtain ⟨u, hu0, hu⟩ := atI_three hi0 hi3 (x := 1) (y := 4) (z := 10 ^ 20) (by decide) (by decide) (by decide)
        refine ⟨_, rfl, .inl ⟨rfl, _, sq_of (e6 _ _ hF)⟩, _, rfl, _, rfl, _, rfl, _, _, rfl, rfl, _, rfl, z, (p : Int) + 30, wh, B, rfl, by omega, by omega, hzB, hB2, _, _, rfl, rfl, ⟨by decide, by decide, by decide⟩, (by decide : 3 ≤ sizeLine), fun tp ntp => ?_⟩
        have etp := Ex.new (o := .tup [V.int 1, V.int 4, V.int (10 ^ Int.toNat 20)]) ntp
        refine ⟨_, rfl, _, _, rfl, rfl, divW_small (by decide) (by decide), _, _, rfl, rfl, (by decide : (0 : Int) < 3), tp, _, _, .int u, rfl, rfl, st_of upd_same, hu, _, _, rfl, rfl, hu0, _, _, rfl, rfl, (by decide : 2 ≤ sizeLine), fun tt ntt => ?_⟩
        have hm1 := Int.emod_nonneg (lawNum z ((p : Int) + 30) wh) (show u ≠ 0 by omega)
        generalize lawNum z ((p : Int) + 30) wh % u = mm at hm1
        have ett := Ex.new (o := .tup [V.ref Ln, V.int (1 + mm)]) ntt
        have e8 := e6.trans (etp.trans ett)
        have hF8 := e8 _ _ hF
        have hc8 := e8 _ _ hc
        have hLn8 := (etp.trans ett) _ _ hLn6
        have htt : (upd (upd H6 tp (.tup [V.int 1, V.int 4, V.int (10 ^ Int.toNat 20)])) tt (.tup [V.ref Ln, V.int (1 + mm)])) tt = some (.tup [V.ref Ln, V.int (1 + mm)]) := upd_same
        have nF8 : H F = none := nF
        refine ⟨F, xs, .ref tt, rfl, rfl, hF8, sz_lt (by rw [show xs.length = bs.length from Paired.len hP]; omega), ?_⟩
        generalize (upd (upd H6 tp (.tup [V.int 1, V.int 4, V.int (10 ^ Int.toNat 20)])) tt (.tup [V.ref Ln, V.int (1 + mm)])) = H8 at e8 hF8 hc8 hLn8 htt
        have nttF : tt ≠ F := fun e => by rw [e, hF8] at htt; cases htt
        have nLnF : Ln ≠ F := fun e => by rw [e, hF] at nLn0; cases nLn0
        refine ⟨_, _, _, _, _, xs ++ [.ref tt], bs ++ [(line, 1 + mm)], rfl, (e.trans e8).mut nF, by rw [upd_ne nF2.symm]; exact hc8, upd_same, by rw [rem_upd]; exact Paired.append (Paired.mapP hP fun _ _ q => q.mono (rem_mono e8)) (.cons ⟨tt, Ln, rfl, st_of (by rw [rem_ne nttF]; exact htt), sq_of (by rw [rem_ne nLnF]; exact hLn8)⟩ .nil), ?_, by rw [List.length_append, hlen]; rfl⟩
        rw [List.all_append, hok]
        have : okB n (line, 1 + mm) = true := by
          unfold okB
          rw [List.isPerm_iff.mpr hperm, decide_eq_true (show 1 ≤ 1 + mm by omega)]
          rfl
        simp [this]
      · refine itT (by rw [eqv_ints, decide_eq_false]; rfl; exact fun h => hl0 (List.map_eq_nil_iff.mp h)) ?_
        have hpos : 0 < left.length := List.length_pos_iff.mpr hl0
        have hj0 := Int.emod_nonneg nm (show (left.length : Int) ≠ 0 by omega)
        have hj1 := Int.emod_lt_of_pos nm (show (0 : Int) < (left.length : Int) by omega)
        obtain ⟨j, hj⟩ : ∃ j : Nat, nm % (left.length : Int) = (j : Int) := ⟨(nm % (left.length : Int)).toNat, by omega⟩
        have hjl : j < left.length := by omega
        have hsi : seqIndex? (nm % ((nv left).length : Int)) (nv left).length = some j := by
          rw [nv_length, hj]
          exact (ixN_seq (ixN_nat hjl)).1
        have hy : (nv left)[j]? = some (V.int (left[j] : Nat)) := by
          unfold nv
          rw [List.getElem?_map, List.getElem?_eq_getElem hjl]
          rfl
        refine ⟨fun σ2 H2 => ∃ (nm : Int) (left' line : List Nat), σ2 = [some (.ref a), some (.int n), some (.ref F), some (.int wh), some (.int p), some (.int z), some (.int nm), some (.ref Lf), some (.ref Ln)] ∧ Ex H' H2 ∧ H2 Lf = some (.lst (nv left')) ∧ H2 Ln = some (.lst (nv line)) ∧ (line ++ left').Perm (List.range n) ∧ left'.length < left.length, ?_, ?_⟩
        · rintro σ2 H2 ⟨nm, left', line, h1, h2, h3, h4, h5, h6⟩
          exact ⟨_, h6, nm, left', line, h1, h2, h3, h4, h5, rfl⟩
        · refine ⟨_, rfl, .inl ⟨rfl, _, sq_of hLn6⟩, _, rfl, .inl ⟨rfl, _, sq_of hLf6⟩, _, rfl, _, rfl, Lf, _, rfl, .inl (sq_of hLf6), _, _, rfl, rfl, by rw [nv_length]; omega, Lf, _, _, j, _, rfl, rfl, hLf6, by rw [nv_length]; omega, by rw [nv_length]; omega, hsi, hy, Ln, nv line, _, rfl, rfl, by rw [upd_ne nLL.symm]; exact hLn6, sz_lt (by rw [nv_length]; omega), ?_⟩
          have hLf9 : (upd (upd H6 Lf (.lst ((nv left).eraseIdx j))) Ln (.lst (nv line ++ [V.int (left[j] : Nat)]))) Lf = some (.lst (nv (left.eraseIdx j))) := by rw [upd_ne nLL, upd_same, nv_erase]
          refine ⟨_, rfl, _, rfl, Lf, _, rfl, .inl (sq_of hLf9), _, _, rfl, rfl, _, _, rfl, rfl, divW_small (by omega) (by rw [nv_length, List.length_eraseIdx]; split <;> omega), ?_⟩
          refine ⟨_, left.eraseIdx j, line ++ [left[j]], rfl, (e6.mut nLf0).mut nLn0, hLf9, ?_, ?_, ?_⟩
          · rw [upd_same, ← nv_append]
            rfl
          · rw [List.append_assoc]
            exact ((perm_erase left j _ (List.getElem?_eq_getElem hjl)).append_left line).trans hperm
          · rw [List.length_eraseIdx, if_pos hjl]
            omega
    · rintro σ' H' ⟨y4, y5, y6, y7, y8, xs, bs, rfl, e, hc, hF, hP, hok, hlen⟩
      refine ⟨_, rfl, q H' F xs bs e nF hF (Paired.mapP hP fun _ _ q => q.mono rem_ex) hok ?_⟩
      rw [hlen, iv_length, List.length_take]
theorem ok_law_count (T : Tx K mg) : FnOk P w K mg base CX0 1 T.f_law_count T.d_law_count ["_law_size", "_law_ballots_here"] (spCount K) := by
  refine T.F_law_count.ok sc_law_count (fun vs H Q E h => ?_) (fun cdv A outer s H vs Q E hr h => ?_)
  · obtain ⟨n, v, bs, rfl, _⟩ := h
    rfl
  · obtain ⟨n, v, bs, rfl, hn, ⟨a, xs, rfl, hS, hP⟩, hk, q⟩ := h
    refine ⟨_, pss_cons (ps_setLc (i := 2) (own := [("_law_one", 6)]) rfl sc_law_count.nd rfl rfl (sw_true rfl rfl rfl (by decide +kernel)) (pi_range1 (by rfl) T.n_range (pa_cons (pv 0) pa_nil)) (blkOk_by (own := [("_law_one", 6)]) (N := ["_law_size", "_law_ballots_here", "_law_found", "_law_line", "_law_many", "_law_at", "_law_one", "_law_other"]) (sc := defScope s_law_count) (by decide +kernel)) (fun _ _ _ _ _ => (pg_name (i := 6) sc_law_count.nd rfl (by first | exact Or.inl rfl | exact Or.inr rfl))) (fun _ _ _ _ _ => pts_nil) (fun _ _ _ _ _ => (pe_op op_rep (pe_lst (pa_cons pe_int pa_nil)) (pv 0))))
      (pss_cons (ps_for PassesOwn.never rfl (piL K (pv 1)) (pgT K (n := 2) (pgs_cons (pg_name (i := 3) sc_law_count.nd rfl (by first | exact Or.inl rfl | exact Or.inr rfl)) (pgs_cons (pg_name (i := 4) sc_law_count.nd rfl (by first | exact Or.inl rfl | exact Or.inr rfl)) pgs_nil)))
        (pss_one (ps_for PassesOwn.never rfl (piE K (by rfl) T.n_enumerate (pa_cons (pv 3) pa_nil)) (pgT K (n := 2) (pgs_cons (pg_name (i := 5) sc_law_count.nd rfl (by first | exact Or.inl rfl | exact Or.inr rfl)) (pgs_cons (pg_name (i := 6) sc_law_count.nd rfl (by first | exact Or.inl rfl | exact Or.inr rfl)) pgs_nil)))
        (pss_one (ps_for PassesOwn.never rfl (piL K (pe_slice (slLK K) (pv 3) po_none (po_some (pv 5)))) (pg_name (i := 7) sc_law_count.nd rfl (by first | exact Or.inl rfl | exact Or.inr rfl))
        (pss_cons (ps_asg (pe_op op_add (pe_ix (ixLK K) (pe_ix (ixLK K) (pv 2) (pv 7) (fun _ _ => rfl)) (pv 6) (fun _ _ => rfl)) (pv 4)) (pg_sub (pe_ix (ixLK K) (pv 2) (pv 7) (fun _ _ => rfl)) (pv 6) set_list))
      (pss_one (ps_asg (pe_op op_sub (pe_ix (ixLK K) (pe_ix (ixLK K) (pv 2) (pv 6) (fun _ _ => rfl)) (pv 7) (fun _ _ => rfl)) (pv 4)) (pg_sub (pe_ix (ixLK K) (pv 2) (pv 6) (fun _ _ => rfl)) (pv 7) set_list)))))))))
      (pss_one (ps_ret (pv 2)))), ?_⟩
    refine ⟨_, rfl, n, rfl, by omega, by omega, fun D hD => ?_⟩
    refine lc_rows (n := n) (walk_range (lo := 0) (n := n)) hD (by omega) (fun _ _ => trivial) (fun _ => rowV n (fun _ => 0)) ?_ ?_
    · rintro i x H2 H2' hi e2 ⟨rfl, rfl⟩ Qc hq
      refine ⟨rfl, (by decide : 1 ≤ sizeLine), fun p hp => ⟨_, rfl, p, n, _, rfl, rfl, upd_same, by omega, by omega, ?_, fun r hr' => ?_⟩⟩
      · show 1 * (n : Int).toNat ≤ sizeLine
        exact sz_of (by omega)
      · have e3 : Ex H2' (upd H2' p (.lst [V.int 0])) := Ex.new hp
        refine hq r _ (fresh_back e3 hr') (e3.trans (Ex.new hr')) ?_
        rw [upd_same]
        show some (HO.lst (List.replicate n [V.int 0]).flatten) = _
        rw [rep_row]
    · intro H2 ps e2 hD2 hlen R
      have T0 : Tab H H2 D ps n (fun _ _ => 0) := R.tab hD hD2 hlen
      refine ⟨.ref a, rfl, a, rfl, ⟨xs, ex_l e2 hS⟩, for_list (K := K) (a := a) (xs := xs) (fun i σ' H' => ∃ y3 y4 y5 y6 y7, σ' = [some (.int n), some (.ref a), some (.ref D), y3, y4, y5, y6, y7] ∧ Ex H H' ∧ Tab H H' D ps n (cnt (bs.take i)))
        ⟨none, none, none, none, none, rfl, e2, T0⟩ (fun i σ' H' _ ⟨_, _, _, _, _, _, e, _⟩ => ex_l e hS) ?_ ?_⟩
      · rintro i x σ' H' hi ⟨y3, y4, y5, y6, y7, rfl, e, TT⟩
        obtain ⟨b, hb, t, l, rfl, hT, hL⟩ := Paired.get hP hi
        have hbm : b ∈ bs := List.mem_of_getElem? hb
        refine ⟨t, _, rfl, ex_t e hT, rfl, .ref l, _, rfl, .int b.2, [], rfl, rfl, ?_⟩
        refine ⟨.ref l, rfl, l, nv b.1, rfl, ex_l e hL, ?_⟩
        refine for_it (walk_enum (K := K) (a := l) (xs := nv b.1)) (fun p σ' H' => ∃ y5 y6 y7, σ' = [some (.int n), some (.ref a), some (.ref D), some (.ref l), some (.int b.2), y5, y6, y7] ∧ Ex H H' ∧ Tab H H' D ps n (fun i' j' => cnt (bs.take i) i' j' + b.2 * psum i' j' (b.1.take p)))
          ⟨_, _, _, rfl, e, TT.congr fun i' j' _ _ => by show cnt (bs.take i) i' j' = cnt (bs.take i) i' j' + b.2 * 0; omega⟩ (fun p σ' H' _ ⟨_, _, _, _, e, _⟩ => ex_l e hL) ?_ ?_
        · rintro p x σ' H' H'' hp ⟨y5, y6, y7, rfl, e, TT⟩ ⟨U, x1, x2, rfl, nU, rfl, h1, h2⟩
          cases h1
          obtain ⟨k, hk', rfl⟩ := nv_get h2
          have hkn : k < n := hk b hbm k (List.mem_of_getElem? hk')
          refine ⟨U, _, rfl, st_of upd_same, rfl, _, _, rfl, _, [], rfl, rfl, ?_⟩
          have e3 : Ex H' (upd H' U (.tup [.int (p : Nat), .int k])) := Ex.new nU
          refine ⟨.ref l, rfl, .int p, rfl, _, rfl, l, nv b.1, rfl, ex_l (e.trans e3) hL, fun c nc => ?_⟩
          rw [cut_nv_to]
          have e4 : Ex _ (upd (upd H' U (.tup [.int (p : Nat), .int k])) c (.lst (nv (b.1.take p)))) := Ex.new nc
          have ncr : ∀ r ∈ ps, c ≠ r := fun r hr' ec => by
            obtain ⟨i0, hi0, ei0⟩ := List.mem_iff_getElem.mp hr'
            have := (TT.mono e3).row i0 r (by rw [List.getElem?_eq_getElem hi0, ei0])
            rw [← ec, nc] at this
            cases this
          refine ⟨c, rfl, ⟨_, sq_of upd_same⟩, for_list (K := K) (a := c) (xs := nv (b.1.take p)) (fun z σ' H' => ∃ y7, σ' = [some (.int n), some (.ref a), some (.ref D), some (.ref l), some (.int b.2), some (.int p), some (.int k), y7] ∧ Ex H H' ∧ H' c = some (.lst (nv (b.1.take p))) ∧ Tab H H' D ps n (fun i' j' => cnt (bs.take i) i' j' + b.2 * (psum i' j' (b.1.take p) + esum i' j' k ((b.1.take p).take z))))
            ⟨_, rfl, (e.trans e3).trans e4, upd_same, ((TT.mono e3).mono e4).congr fun i' j' _ _ => by show _ = cnt (bs.take i) i' j' + b.2 * (psum i' j' (b.1.take p) + 0); rw [Int.add_zero]⟩ (fun z σ' H' _ ⟨_, _, _, hc, _⟩ => sq_of hc) ?_ ?_⟩
          · rintro z x σ' H' hz ⟨y7, rfl, e, hc, TT⟩
            obtain ⟨m, hm, rfl⟩ := nv_get hz
            have hmn : m < n := hk b hbm m (List.mem_of_mem_take (List.mem_of_getElem? hm))
            obtain ⟨r1, g1, m1, x1, c1⟩ := TT.at_ hmn
            have T1 := TT.put (b := k) (z := (cnt (bs.take i) m k + b.2 * (psum m k (b.1.take p) + esum m k k ((b.1.take p).take z))) + b.2) g1
            have e5 := fun o => TT.exMut (o := o) e m1
            obtain ⟨r2, g2, m2, x2, c2⟩ := T1.at_ hkn
            refine ⟨.ref D, rfl, .int m, rfl, D, _, m, .ref r1, rfl, rfl, sq_of TT.top, atI_nat x1, .int k, rfl, r1, _, k, .int _, rfl, rfl, sq_of c1, atI_nat (rowV_get hkn), .int b.2, rfl, _, _, rfl, rfl, .ref D, rfl, .int m, rfl, D, _, m, .ref r1, rfl, rfl, sq_of TT.top, atI_nat x1, .int k, rfl, r1, _, k, k, rfl, rfl, c1, ixN_nat (by rw [rowV_length]; exact hkn), ?_⟩
            refine ⟨.ref D, rfl, .int k, rfl, D, _, k, .ref r2, rfl, rfl, sq_of T1.top, atI_nat x2, .int m, rfl, r2, _, m, .int _, rfl, rfl, sq_of c2, atI_nat (rowV_get hmn), .int b.2, rfl, _, _, rfl, rfl, .ref D, rfl, .int k, rfl, D, _, k, .ref r2, rfl, rfl, sq_of T1.top, atI_nat x2, .int m, rfl, r2, _, m, m, rfl, rfl, c2, ixN_nat (by rw [rowV_length]; exact hmn), ?_⟩
            have T2 := T1.put (b := m) (z := (if k = m ∧ m = k then (cnt (bs.take i) m k + b.2 * (psum m k (b.1.take p) + esum m k k ((b.1.take p).take z))) + b.2 else (cnt (bs.take i) k m + b.2 * (psum k m (b.1.take p) + esum k m k ((b.1.take p).take z)))) - b.2) g2
            refine ⟨_, rfl, T1.exMut (e5 _) m2, ?_, T2.congr fun i' j' _ _ => ?_⟩
            · rw [upd_ne (ncr r2 m2), upd_ne (ncr r1 m1)]
              exact hc
            · rw [put_two (fun i' j' => cnt (bs.take i) i' j' + b.2 * (psum i' j' (b.1.take p) + esum i' j' k ((b.1.take p).take z))), esum_take_succ _ _ _ _ _ _ hm]
              rw [Int.mul_add, Int.mul_add, Int.mul_add]
              omega
          · rintro σ' H' ⟨y7, rfl, e, hc, TT⟩
            refine ⟨_, _, _, rfl, e, TT.congr fun i' j' _ _ => ?_⟩
            rw [nv_length, List.take_length, psum_take_succ _ _ _ _ _ hk']
        · rintro σ' H' ⟨y5, y6, y7, rfl, e, TT⟩
          refine ⟨_, _, _, _, _, rfl, e, TT.congr fun i' j' _ _ => ?_⟩
          rw [nv_length, List.take_length, cnt_take_succ _ _ _ hb]
      · rintro σ' H' ⟨y3, y4, y5, y6, y7, rfl, e, TT⟩
        rw [show xs.length = bs.length from Paired.len hP, List.take_length] at TT
        exact ⟨_, rfl, q H' D ps e TT⟩
def spLawIsTable (K : PySem.W.Frag) : Sp := fun vs H Q _ => ∃ (v : V) (n : Nat) (f : Nat → Nat → Int), vs = [v, .int (n : Int)] ∧ n ≤ 20 ∧ TabR K H v n f ∧ ∀ H2, Ex H H2 → Q (.bl true) H2
theorem row_get_int {n i : Nat} {g : Nat → Int} {x : V} (h : (rowV n g)[i]? = some x) : ∃ z, x = .int z := by
  have hi : i < n := by
    have := (List.getElem?_eq_some_iff.mp h).1
    rw [rowV_length] at this
    exact this
  rw [rowV_get hi] at h
  exact ⟨_, (Option.some.inj h).symm⟩
theorem ok_law_is_table (T : Tx K mg) : FnOk P w K mg base CX0 1 T.f_law_is_table T.d_law_is_table ["_law_found", "_law_size"] (spLawIsTable K) := by
  refine T.F_law_is_table.ok sc_law_is_table (fun vs H Q E h => ?_) (fun cdv A outer s H vs Q E hr h => ?_)
  · obtain ⟨v, n, f, rfl, _⟩ := h
    rfl
  · obtain ⟨v, n, f, rfl, hn, TT, q⟩ := h
    obtain ⟨t, xs, rfl, hS, hl, hat⟩ := TT.at_
    refine ⟨_, pss_cons (ps_if (PW.pt (pw_or (pt_not (pt_val (pe_callB (isiK K) (by rfl) T.n_isinstance PyProof.Rows.boot_isinstance (pa_cons (pv 0) (pa_cons (pe_bltn (v := .ty "list") (by rfl) T.n_list bt_list rfl) pa_nil))))) (pw_or (pt_cmpR op_ne (pe_callB (lenK K) (by rfl) T.n_len PySem.boot_len (pa_cons (pv 0) pa_nil)) (pv 1) (nomark _)) (pw_or1 (pt_not (pt_val (pe_callB (allK K) (by rfl) T.n_all PyProof.Rows.boot_all (pa_cons (pe_lc (own := [("_law_row", 2)]) rfl sc_law_is_table.nd (piL K (pv 0)) (blkOk_by (own := [("_law_row", 2)]) (N := ["_law_found", "_law_size", "_law_row", "_law_one"]) (sc := defScope s_law_is_table) (by decide +kernel)) (fun _ _ _ _ _ => (pg_name (i := 2) sc_law_is_table.nd rfl (by first | exact Or.inl rfl | exact Or.inr rfl))) (fun _ _ _ _ _ => pts_nil) (fun _ _ _ _ _ => (pe_callB (isiK K) (by rfl) T.n_isinstance PyProof.Rows.boot_isinstance (pa_cons (pv 2) (pa_cons (pe_bltn (v := .ty "list") (by rfl) T.n_list bt_list rfl) pa_nil))))) pa_nil)))))))) (pss_one (ps_ret pe_bl)) (pss_nil))
      (pss_cons (ps_for PassesOwn.never rfl (piL K (pv 0)) (pg_name (i := 2) sc_law_is_table.nd rfl (by first | exact Or.inl rfl | exact Or.inr rfl))
        (pss_one (ps_if (PW.pt (pw_or (pt_cmpR op_ne (pe_callB (lenK K) (by rfl) T.n_len PySem.boot_len (pa_cons (pv 2) pa_nil)) (pv 1) (nomark _)) (pw_or1 (pt_not (pt_val (pe_callB (allK K) (by rfl) T.n_all PyProof.Rows.boot_all (pa_cons (pe_lc (own := [("_law_one", 3)]) rfl sc_law_is_table.nd (piL K (pv 2)) (blkOk_by (own := [("_law_one", 3)]) (N := ["_law_found", "_law_size", "_law_row", "_law_one"]) (sc := defScope s_law_is_table) (by decide +kernel)) (fun _ _ _ _ _ => (pg_name (i := 3) sc_law_is_table.nd rfl (by first | exact Or.inl rfl | exact Or.inr rfl))) (fun _ _ _ _ _ => pts_nil) (fun _ _ _ _ _ => (pe_and (pe_callB (isiK K) (by rfl) T.n_isinstance PyProof.Rows.boot_isinstance (pa_cons (pv 3) (pa_cons (pe_bltn (v := .ty "int") (by rfl) T.n_int bt_int rfl) pa_nil))) (pe_one (pe_not (pe_callB (isiK K) (by rfl) T.n_isinstance PyProof.Rows.boot_isinstance (pa_cons (pv 3) (pa_cons (pe_bltn (v := .ty "bool") (by rfl) T.n_bool bt_bool rfl) pa_nil)))))))) pa_nil))))))) (pss_one (ps_ret pe_bl)) (pss_nil))))
      (pss_one (ps_ret pe_bl))), ?_⟩
    refine ⟨_, rfl, .ref t, .ty "list", _, _, true, rfl, .ty _, tyx_L hS, kit_ty (by decide +kernel), true, rfl, ?_⟩
    refine ⟨_, rfl, t, _, rfl, .inl hS, _, rfl, rfl, _, rfl, ?_⟩
    refine itF (by rw [hl, decide_eq_true rfl]; rfl) ?_
    refine ⟨_, rfl, t, rfl, ⟨_, hS⟩, fun D hD => ?_⟩
    refine lc_vals (walk_list (K := K) (a := t) (xs := xs)) hD (by omega) (fun H2 e2 => ex_l e2 hS) (fun _ => V.bl true) ?_ ?_
    · rintro j x H2 H2' hj e2 ⟨rfl, hx⟩ Qc hq
      obtain ⟨r, hr1, hr2⟩ := hat j (by omega)
      rw [hr1] at hx
      cases hx
      exact ⟨rfl, _, rfl, .ref r, .ty "list", _, _, true, rfl, .ty _, tyx_L (ex_l e2 hr2), kit_ty (by decide +kernel), hq _ (Ex.refl _)⟩
    · intro H2 e2 hD2
      rw [map_const_bl] at hD2
      refine ⟨D, _, rfl, sq_of hD2, true, by rw [all_const_true], ?_⟩
      refine ⟨_, rfl, t, rfl, ⟨xs, ex_l e2 hS⟩, for_list (K := K) (a := t) (xs := xs) (fun i σ' H' => ∃ y, σ' = [some (.ref t), some (.int n), y, none] ∧ Ex H H')
        ⟨none, rfl, e2⟩ (fun i σ' H' _ ⟨_, _, e⟩ => ex_l e hS) ?_ ?_⟩
      · rintro i x σ' H' hi ⟨y, rfl, e⟩
        have hin : i < n := by rw [← hl]; exact (List.getElem?_eq_some_iff.mp hi).1
        obtain ⟨r, hr1, hr2⟩ := hat i hin
        rw [hr1] at hi
        cases hi
        have hr3 := ex_l e hr2
        refine ⟨_, rfl, r, _, rfl, .inl hr3, _, rfl, rfl, _, rfl, ?_⟩
        refine itF (by rw [rowV_length, decide_eq_true rfl]; rfl) ?_
        refine ⟨_, rfl, r, rfl, ⟨_, hr3⟩, fun D hD => ?_⟩
        refine lc_vals (walk_list (K := K) (a := r) (xs := rowV n (f i))) hD (by rw [rowV_length]; omega) (fun H2 e2 => ex_l e2 hr3) (fun _ => V.bl true) ?_ ?_
        · rintro j x H2 H2' hj e2 ⟨rfl, hx⟩ Qc hq
          obtain ⟨z, rfl⟩ := row_get_int hx
          exact ⟨rfl, _, rfl, _, .ty "int", _, _, true, rfl, .ty _, .base (.int z), kit_ty (by decide +kernel), true, rfl, _, rfl, _, .ty "bool", _, _, false, rfl, .ty _, .base (.int z), kit_ty (by decide +kernel), false, rfl, hq _ (Ex.refl _)⟩
        · intro H3 e3 hD3
          rw [map_const_bl] at hD3
          exact ⟨D, _, rfl, sq_of hD3, true, by rw [all_const_true], _, rfl, e.trans e3⟩
      · rintro σ' H' ⟨y, rfl, e⟩
        exact q H' e
def spLawTable (K : PySem.W.Frag) : Sp := fun vs H Q _ => ∃ (a : Addr) (ns : List Int) (n B : Nat), vs = [.ref a, .int (n : Int)] ∧ SqL K H a (iv ns) ∧ n ≤ 20 ∧ (∀ z ∈ ns, Big B z) ∧ B ≤ 2000000 ∧ 64 ≤ B ∧
  ∀ H2 t rs f, Ex H H2 → Tab H H2 t rs n f → Anti n f → Q (.ref t) H2
theorem atI_four {i : Int} (h0 : 0 ≤ i) (h3 : i < 4) {x y z u : Int} (hx : 0 < x) (hy : 0 < y) (hz : 0 < z) (hu : 0 < u) : ∃ k : Int, 0 < k ∧ atI [V.int x, V.int y, V.int z, V.int u] i = some (.int k) := by
  rcases (by omega : i = 0 ∨ i = 1 ∨ i = 2 ∨ i = 3) with rfl | rfl | rfl | rfl
  · exact ⟨x, hx, rfl⟩
  · exact ⟨y, hy, rfl⟩
  · exact ⟨z, hz, rfl⟩
  · exact ⟨u, hu, rfl⟩
theorem anti_put {n a b : Nat} {f : Nat → Nat → Int} {z : Int} (hA : Anti n f) (hab : a ≠ b) : Anti n (fun i j => if i = b ∧ j = a then -z else if i = a ∧ j = b then z else f i j) := fun i j hi hj => by
  dsimp only
  by_cases h1 : i = b ∧ j = a
  · obtain ⟨rfl, rfl⟩ := h1
    rw [if_pos ⟨rfl, rfl⟩, if_neg (by omega), if_pos ⟨rfl, rfl⟩]
  · rw [if_neg h1]
    by_cases h2 : i = a ∧ j = b
    · obtain ⟨rfl, rfl⟩ := h2
      rw [if_pos ⟨rfl, rfl⟩, if_pos ⟨rfl, rfl⟩]
      omega
    · rw [if_neg h2, if_neg (by omega), if_neg (by omega)]
      exact hA i j hi hj
theorem ok_law_table (T : Tx K mg) : FnOk P w K mg base CX0 2 T.f_law_table T.d_law_table ["_law_script", "_law_size"] (spLawTable K) := by
  refine T.F_law_table.ok sc_law_table (fun vs H Q E h => ?_) (fun cdv A outer s H vs Q E hr h => ?_)
  · obtain ⟨a, ns, n, B, rfl, _⟩ := h
    rfl
  · obtain ⟨a, ns, n, B, rfl, hS, hn, hB, hB2, hB3, q⟩ := h
    refine ⟨_, Evl.pss_cut (ps_set (i := 2) sc_law_table.nd rfl (Or.inl rfl) (pe_ifExp (pt_cmpR (neDK K hr.units) (pv 0) (pe_lst pa_nil) (nomark _)) (pe_slice (slLK K) (pv 0) po_none (po_some pe_int)) (pe_lst (pa_cons pe_int pa_nil))))
      (pss_cons (ps_set (i := 3) sc_law_table.nd rfl (Or.inl rfl) (pe_callB (sumK K) (by rfl) T.n_sum PyProof.Rows.boot_sum (pa_cons (pv 2) pa_nil)))
      (Evl.pss_cut (ps_set (i := 4) sc_law_table.nd rfl (Or.inl rfl) (pe_ix (ixTK K) (pe_tup (pa_cons pe_int (pa_cons pe_int (pa_cons pe_int (pa_cons (pe_op op_pow pe_int pe_int) pa_nil))))) (pe_op op_mod (pe_op op_fdivW (pv 3) pe_int) pe_int) (fun _ _ => rfl)))
      (pss_cons (ps_set (i := 5) sc_law_table.nd rfl (Or.inl rfl) (pe_op op_mod (pe_op op_fdivW (pv 3) pe_int) pe_int))
      (pss_cons (ps_setLc (i := 6) (own := [("_law_one", 8)]) rfl sc_law_table.nd rfl rfl (sw_true rfl rfl rfl (by decide +kernel)) (pi_range1 (by rfl) T.n_range (pa_cons (pv 1) pa_nil)) (blkOk_by (own := [("_law_one", 8)]) (N := ["_law_script", "_law_size", "_law_cells", "_law_whole", "_law_most", "_law_kind", "_law_found", "_law_spot", "_law_one", "_law_other", "_law_cell", "_law_number_here", "_law_bent"]) (sc := defScope s_law_table) (by decide +kernel)) (fun _ _ _ _ _ => (pg_name (i := 8) sc_law_table.nd rfl (by first | exact Or.inl rfl | exact Or.inr rfl))) (fun _ _ _ _ _ => pts_nil) (fun _ _ _ _ _ => (pe_op op_rep (pe_lst (pa_cons pe_int pa_nil)) (pv 1))))
      (pss_cons (ps_set (i := 7) sc_law_table.nd rfl (Or.inl rfl) pe_int)
      (pss_cons (ps_for PassesOwn.never rfl (pi_range1 (by rfl) T.n_range (pa_cons (pv 1) pa_nil)) (pg_name (i := 8) sc_law_table.nd rfl (by first | exact Or.inl rfl | exact Or.inr rfl))
        (pss_one (ps_for PassesOwn.never rfl (pi_range1 (by rfl) T.n_range (pa_cons (pv 8) pa_nil)) (pg_name (i := 9) sc_law_table.nd rfl (by first | exact Or.inl rfl | exact Or.inr rfl))
        (pss_cons (ps_set (i := 10) sc_law_table.nd rfl (Or.inl rfl) (pe_op op_fdivW (pe_ix (ixLK K) (pv 2) (pe_op op_mod (pv 7) (pe_callB (lenK K) (by rfl) T.n_len PySem.boot_len (pa_cons (pv 2) pa_nil))) (fun _ _ => rfl)) (pe_op op_add pe_int (pe_op op_fdivW (pv 7) (pe_callB (lenK K) (by rfl) T.n_len PySem.boot_len (pa_cons (pv 2) pa_nil))))))
      (pss_cons (ps_set (i := 11) sc_law_table.nd rfl (Or.inl rfl) (pe_op op_sub (pe_op op_mod (pe_call (ok_law_number T) (hr.mono (by decide)) (by rfl) T.g_law_number T.F_law_number.kp (b_law_number T) .nil pass0 (pa_cons (pv 10) (pa_cons (pv 7) (pa_cons (pv 3) pa_nil)))) (pe_op op_add (pe_op op_mulG pe_int (pv 4)) pe_int)) (pv 4)))
      (Evl.pss_cut (ps_if (pt_cmpR op_lt (pv 5) pe_int (nomark _)) (pss_one (ps_set (i := 11) sc_law_table.nd rfl (Or.inl rfl) (pe_op op_add (pe_op op_mulG pe_int (pv 11)) (pe_op op_mod (pv 5) pe_int)))) (pss_nil))
      (Evl.pss_cut (ps_if (pt_cmpR op_eq (pv 5) pe_int (nomark _)) (pss_cons (ps_set (i := 12) sc_law_table.nd rfl (Or.inl rfl) (pe_cmpR op_eq (pv 7) (pe_op op_mod (pe_op op_fdivW (pv 3) pe_int) (pe_callB (call_max2 rfl) (by rfl) T.n_max PyProof.Rows.boot_max (pa_cons pe_int (pa_cons (pe_op op_fdivW (pe_op op_mulG (pv 1) (pe_op op_sub (pv 1) pe_int)) pe_int) pa_nil)))) (nomark _)))
      (pss_one (ps_set (i := 11) sc_law_table.nd rfl (Or.inl rfl) (pe_op op_add (pe_op op_add (pe_op op_mulG pe_int (pv 11)) (pe_op op_mod (pe_op op_fdivW (pv 3) pe_int) pe_int)) (pe_callTy call_int1 (by rfl) T.n_int bt_int (pa_cons (pv 12) pa_nil)))))) (pss_nil))
      (pss_cons (ps_asg (pv 11) (pg_sub (pe_ix (ixLK K) (pv 6) (pv 8) (fun _ _ => rfl)) (pv 9) set_list))
      (pss_cons (ps_asg (pe_un un_neg (pv 11)) (pg_sub (pe_ix (ixLK K) (pv 6) (pv 9) (fun _ _ => rfl)) (pv 8) set_list))
      (pss_one (ps_set (i := 7) sc_law_table.nd rfl (Or.inl rfl) (pe_op op_add (pv 7) pe_int))))))))))))
      (pss_one (ps_ret (pv 6))))))))), ?_⟩
    refine ⟨fun σ' H' => ∃ c ms, σ' = [some (.ref a), some (.int n), some (.ref c), none, none, none, none, none, none, none, none, none, none] ∧ Ex H H' ∧ H' c = some (.lst (iv ms)) ∧ 0 < ms.length ∧ ms.length ≤ 63 ∧ ∀ z ∈ ms, Big B z, ?_, ?_⟩
    · refine ⟨_, rfl, Nat.zero_le _, fun o no => ?_⟩
      have eo := Ex.new (o := .lst []) no
      refine ⟨_, _, dp_ints (ex_l eo hS), dp_ints (ns := []) (sq_of upd_same), shaped_ints _, shaped_ints _, _, rfl, ?_⟩
      by_cases h0 : ns = []
      · refine itF (by rw [eqv_ints, h0]; rfl) ?_
        refine ⟨(by decide : 1 ≤ sizeLine), fun c nc => ⟨c, [3], rfl, eo.trans (Ex.new nc), upd_same, by decide, by decide, fun z hz => ?_⟩⟩
        have e3 : z = 3 := by simpa using hz
        rw [e3]
        exact big_small hB3 (by decide) (by decide)
      · refine itT (by rw [eqv_ints, decide_eq_false h0]; rfl) ?_
        refine ⟨_, rfl, 63, rfl, a, iv ns, rfl, ex_l eo hS, fun c nc => ⟨c, ns.take 63, rfl, eo.trans (Ex.new nc), ?_, ?_, ?_, fun z hz => hB z (List.mem_of_mem_take hz)⟩⟩
        · rw [upd_same, show (63 : Int) = ((63 : Nat) : Int) from rfl, cut_to]
          unfold iv
          rw [List.map_take]
        · have := List.length_pos_iff.mpr h0
          rw [List.length_take]
          omega
        · rw [List.length_take]
          omega
    rintro _ H1 ⟨c, ms, rfl, e1, hc, hm0, hm1, hB⟩
    refine ⟨_, rfl, c, ms, rfl, sq_of hc, ?_⟩
    generalize ms.sum = wh
    have k0 := Int.emod_nonneg (wh / 60) (show (4 : Int) ≠ 0 by decide)
    have k1 := Int.emod_lt_of_pos (wh / 60) (show (0 : Int) < 4 by decide)
    obtain ⟨mo, hmo, hat⟩ := atI_four k0 k1 (x := 3) (y := 7) (z := 2) (u := 10 ^ 30) (by decide) (by decide) (by decide) (by decide)
    refine ⟨fun σ' H' => σ' = [some (.ref a), some (.int n), some (.ref c), some (.int wh), some (.int mo), none, none, none, none, none, none, none, none] ∧ Ex H1 H', ?_, ?_⟩
    · refine ⟨_, _, rfl, rfl, ⟨by decide, by decide, by decide⟩, (by decide : 4 ≤ sizeLine), fun tp ntp => ⟨_, rfl, _, _, rfl, rfl, divW_small (by decide) (by decide), _, _, rfl, rfl, (by decide : (0 : Int) < 4), tp, _, _, .int mo, rfl, rfl, st_of upd_same, hat, rfl, Ex.new ntp⟩⟩
    rintro _ H2 ⟨rfl, e2⟩
    refine ⟨_, rfl, _, _, rfl, rfl, divW_small (by decide) (by decide), _, _, rfl, rfl, (by decide : (0 : Int) < 5), ?_⟩
    dsimp only
    generalize wh / 240 % 5 = kd
    have hc2 := e2 _ _ hc
    refine ⟨_, rfl, n, rfl, by omega, by omega, fun D hD => ?_⟩
    refine lc_rows (n := n) (walk_rg0 (n := n)) hD (by omega) (fun _ _ => trivial) (fun _ => rowV n (fun _ => 0)) ?_ ?_
    · rintro i x H2 H2' hi e2 ⟨rfl, rfl⟩ Qc hq
      refine ⟨rfl, (by decide : 1 ≤ sizeLine), fun p hp => ⟨_, rfl, p, n, _, rfl, rfl, upd_same, by omega, by omega, ?_, fun r hr' => ?_⟩⟩
      · show 1 * (n : Int).toNat ≤ sizeLine
        exact sz_of (by omega)
      · have e3 := Ex.new (o := .lst [V.int 0]) hp
        refine hq r _ (fresh_back e3 hr') (e3.trans (Ex.new hr')) ?_
        rw [upd_same]
        show some (HO.lst (List.replicate n [V.int 0]).flatten) = _
        rw [rep_row]
    intro H3 ps e3 hD3 hlen R
    have T0 : Tab H2 H3 D ps n (fun _ _ => 0) := R.tab hD hD3 hlen
    refine ⟨_, rfl, n, rfl, by omega, by omega, ?_⟩
    refine for_it (walk_rg0 (n := n)) (fun i σ' H' => ∃ (f : Nat → Nat → Int) (sp : Nat) (y8 y9 y10 y11 y12 : Option V), σ' = [some (.ref a), some (.int n), some (.ref c), some (.int wh), some (.int mo), some (.int kd), some (.ref D), some (.int sp), y8, y9, y10, y11, y12] ∧ Ex H2 H' ∧ Tab H2 H' D ps n f ∧ Anti n f ∧ sp ≤ 20 * i)
      ⟨_, 0, _, _, _, _, _, rfl, e3, T0, fun _ _ _ _ => rfl, by omega⟩ (fun _ _ _ _ _ => trivial) ?_ ?_
    · rintro i x σ' H' H'' hi ⟨f, sp, y8, y9, y10, y11, y12, rfl, e, TT, hA, hsp⟩ ⟨rfl, rfl⟩
      refine ⟨_, rfl, (i : Int), rfl, by omega, by omega, ?_⟩
      refine for_it (walk_rg0 (n := i)) (fun z σ' H' => ∃ (f : Nat → Nat → Int) (sp : Nat) (y9 y10 y11 y12 : Option V), σ' = [some (.ref a), some (.int n), some (.ref c), some (.int wh), some (.int mo), some (.int kd), some (.ref D), some (.int sp), some (.int i), y9, y10, y11, y12] ∧ Ex H2 H' ∧ Tab H2 H' D ps n f ∧ Anti n f ∧ sp ≤ 20 * i + z)
        ⟨_, sp, _, _, _, _, rfl, e, TT, hA, by omega⟩ (fun _ _ _ _ _ => trivial) ?_ ?_
      · rintro z x σ' H' H'' hz ⟨f, sp, y9, y10, y11, y12, rfl, e, TT, hA, hsp⟩ ⟨rfl, rfl⟩
        have hcz := e _ _ hc2
        have hsp2 : sp ≤ 400 := by omega
        have i0 := Int.emod_nonneg (sp : Int) (show (ms.length : Int) ≠ 0 by omega)
        have i1 := Int.emod_lt_of_pos (sp : Int) (show (0 : Int) < (ms.length : Int) by omega)
        obtain ⟨k, hk⟩ : ∃ k : Nat, (sp : Int) % (ms.length : Int) = (k : Int) := ⟨((sp : Int) % (ms.length : Int)).toNat, by omega⟩
        have hkm : k < ms.length := by omega
        have hat2 : atI (iv ms) ((sp : Int) % ((iv ms).length : Int)) = some (.int ms[k]) := by
          rw [iv_length, hk]
          refine atI_nat ?_
          unfold iv
          rw [List.getElem?_map, List.getElem?_eq_getElem hkm]
          rfl
        have d0 : 0 ≤ (sp : Int) / (ms.length : Int) := Int.ediv_nonneg (by omega) (by omega)
        have d1 : (sp : Int) / (ms.length : Int) ≤ 400 := by
          refine Int.le_trans (Int.ediv_le_self _ (by omega)) ?_
          omega
        refine ⟨_, rfl, _, rfl, _, rfl, c, _, rfl, .inl (sq_of hcz), _, _, rfl, rfl, by rw [iv_length]; omega, c, _, _, _, rfl, rfl, sq_of hcz, hat2, _, rfl, _, rfl, c, _, rfl, .inl (sq_of hcz), _, _, rfl, rfl, divW_small (by rw [iv_length]; omega) (by rw [iv_length]; omega), _, _, rfl, rfl, _, _, rfl, rfl, divW_small (by rw [iv_length]; omega) (by rw [iv_length]; omega), ?_⟩
        rw [iv_length]
        dsimp only
        have hbc : Big B (ms[k] / (1 + (sp : Int) / (ms.length : Int))) := (hB _ (List.getElem_mem hkm)).div (by omega)
        generalize ms[k] / (1 + (sp : Int) / (ms.length : Int)) = cl at hbc
        refine ⟨_, rfl, _, rfl, _, rfl, cl, sp, wh, B, rfl, by omega, by omega, hbc, hB2, _, rfl, _, _, rfl, rfl, mulOk_small (by decide) (by decide), _, _, rfl, rfl, _, _, rfl, rfl, by omega, _, rfl, _, _, rfl, rfl, ?_⟩
        dsimp only
        generalize lawNum cl sp wh % (2 * mo + 1) - mo = nm
        refine ⟨fun σ' H' => ∃ nm : Int, H'' = H' ∧ σ' = [some (.ref a), some (.int n), some (.ref c), some (.int wh), some (.int mo), some (.int kd), some (.ref D), some (.int sp), some (.int i), some (.int z), some (.int cl), some (.int nm), y12], ?_, ?_⟩
        · refine ⟨_, rfl, _, _, rfl, rfl, _, rfl, it2 (fun h1 => ?_) (fun h1 => ?_)⟩
          · exact ⟨_, rfl, _, _, rfl, rfl, mulOk_small (by decide) (by decide), _, rfl, _, _, rfl, rfl, (by decide : (0 : Int) < 2), _, _, rfl, rfl, _, rfl, rfl⟩
          · exact ⟨_, rfl, rfl⟩
        rintro _ _ ⟨nm, rfl, rfl⟩
        refine ⟨fun σ' H' => ∃ (nm : Int) (y12 : Option V), H'' = H' ∧ σ' = [some (.ref a), some (.int n), some (.ref c), some (.int wh), some (.int mo), some (.int kd), some (.ref D), some (.int sp), some (.int i), some (.int z), some (.int cl), some (.int nm), y12], ?_, ?_⟩
        · refine ⟨_, rfl, rfl, _, rfl, it2 (fun h1 => ?_) (fun h1 => ?_)⟩
          · refine ⟨_, rfl, _, rfl, _, _, rfl, rfl, divW_small (by decide) (by decide), _, rfl, _, rfl, _, _, rfl, rfl, _, _, rfl, rfl, mulOk_small (by omega) (by omega), _, _, rfl, rfl, divW_small (by decide) (by decide), _, _, rfl, _, _, rfl, rfl, (by show (0 : Int) < if _ then _ else _; split <;> omega), rfl, ?_⟩
            refine ⟨_, rfl, _, _, rfl, rfl, mulOk_small (by decide) (by decide), _, rfl, _, _, rfl, rfl, divW_small (by decide) (by decide), _, _, rfl, rfl, (by decide : (0 : Int) < 2), _, _, rfl, rfl, _, rfl, .inr ⟨_, rfl, _, _, rfl, rfl, _, _, rfl, rfl⟩⟩
          · exact ⟨_, _, rfl, rfl⟩
        rintro _ _ ⟨nm, y12, rfl, rfl⟩
        have hzn : z < n := by omega
        obtain ⟨r1, g1, m1, x1, c1⟩ := TT.at_ hi
        have T1 := TT.put (b := z) (z := nm) g1
        have e5 := fun o => TT.exMut (o := o) e m1
        obtain ⟨r2, g2, m2, x2, c2⟩ := T1.at_ hzn
        have T2 := T1.put (b := i) (z := -nm) g2
        refine ⟨_, rfl, _, rfl, _, rfl, D, _, i, .ref r1, rfl, rfl, sq_of TT.top, atI_nat x1, _, rfl, r1, _, z, z, rfl, rfl, c1, ixN_nat (by rw [rowV_length]; exact hzn), ?_⟩
        refine ⟨_, rfl, _, rfl, _, rfl, _, rfl, D, _, z, .ref r2, rfl, rfl, sq_of T1.top, atI_nat x2, _, rfl, r2, _, i, i, rfl, rfl, c2, ixN_nat (by rw [rowV_length]; exact hi), ?_⟩
        refine ⟨_, rfl, _, _, rfl, rfl, ?_⟩
        exact ⟨_, sp + 1, _, _, _, _, rfl, T1.exMut (e5 _) m2, T2, anti_put hA (by omega), by omega⟩
      · rintro σ' H' ⟨f, sp, y9, y10, y11, y12, rfl, e, TT, hA, hsp⟩
        exact ⟨f, sp, _, _, _, _, _, rfl, e, TT, hA, by omega⟩
    · rintro σ' H' ⟨f, sp, y8, y9, y10, y11, y12, rfl, e, TT, hA, hsp⟩
      exact ⟨_, rfl, q H' D ps f ((e1.trans e2).trans e) (TT.base (e1.trans e2)) hA⟩
end
end Hc
namespace Hc
open PySem PySem.Spec PyProof.Rows L2 Evl
section
variable {P : Program} {w : World} {K : PySem.W.Frag} {mg : Str → Option Value} {base : Heap}
def spLawRight (K : PySem.W.Frag) : Sp := fun vs H Q _ => ∃ (v : V) (n : Nat) (f : Nat → Nat → Int), vs = [v] ∧ TabR K H v n f ∧ Anti n f ∧ 1 ≤ n ∧ n ≤ 20 ∧ ∀ H2, Ex H H2 → Q (.bl true) H2
theorem ok_law_right (T : Tx K mg) : FnOk P w K mg base CX0 4 T.f_law_right T.d_law_right ["_law_table_here"] (spLawRight K) := by
  refine T.F_law_right.ok sc_law_right (fun vs H Q E h => ?_) (fun cdv A outer s H vs Q E hr h => ?_)
  · obtain ⟨v, n, f, rfl, _⟩ := h
    rfl
  · obtain ⟨v, n, f, rfl, TT, hA, hn1, hn, q⟩ := h
    obtain ⟨t, xs, rfl, hS, hl, hat⟩ := TT.at_
    refine ⟨_, pss_cons (ps_setLc (i := 1) (own := [("_law_row", 5)]) rfl sc_law_right.nd rfl rfl (sw_true rfl rfl rfl (by decide +kernel)) (piL K (pv 0)) (blkOk_by (own := [("_law_row", 5)]) (N := ["_law_table_here", "_law_handed", "_law_size", "_law_due", "_law_found", "_law_row", "_law_at", "_law_one", "_law_other"]) (sc := defScope s_law_right) (by decide +kernel)) (fun _ _ _ _ _ => (pg_name (i := 5) sc_law_right.nd rfl (by first | exact Or.inl rfl | exact Or.inr rfl))) (fun _ _ _ _ _ => pts_nil) (fun _ _ _ _ _ => (pe_callTy (listK K) (by rfl) T.n_list bt_list (pa_cons (pv 5) pa_nil))))
      (pss_cons (ps_set (i := 2) sc_law_right.nd rfl (Or.inl rfl) (pe_callB (lenK K) (by rfl) T.n_len PySem.boot_len (pa_cons (pv 0) pa_nil)))
      (pss_cons (ps_set (i := 3) sc_law_right.nd rfl (Or.inr rfl) (pe_call (ok_law_strengths T) (hr.mono (by decide)) (by rfl) T.g_law_strengths T.F_law_strengths.kp (b_law_strengths T) .nil pass0 (pa_cons (pv 0) pa_nil)))
      (pss_cons (ps_set (i := 4) sc_law_right.nd rfl (Or.inl rfl) (pe_call (ok_strengths T) (hr.mono (by decide)) (by rfl) T.g_strengths T.F_strengths.kp (b_strengths T) .nil pass0 (pa_cons (pv 1) pa_nil)))
      (pss_cons (ps_if (PW.pt (pw_or (pt_not (pt_val (pe_call (ok_law_is_table T) (hr.mono (by decide)) (by rfl) T.g_law_is_table T.F_law_is_table.kp (b_law_is_table T) .nil pass0 (pa_cons (pv 4) (pa_cons (pv 2) pa_nil))))) (pw_or (pt_cmpR (neDK K hr.units) (pv 4) (pv 3) (nomark _)) (pw_or1 (pt_cmpR (neDK K hr.units) (pv 1) (pv 0) (nomark _)))))) (pss_one (ps_ret pe_bl)) (pss_nil))
      (pss_cons (ps_set (i := 5) sc_law_right.nd rfl (Or.inl rfl) (pe_call (ok_order T) (hr.mono (by decide)) (by rfl) T.g_order T.F_order.kp (b_order T) .nil pass0 (pa_cons (pv 1) pa_nil)))
      (pss_cons (ps_if (PW.pt (pw_or (pt_not (pt_val (pe_callB (isiK K) (by rfl) T.n_isinstance PyProof.Rows.boot_isinstance (pa_cons (pv 5) (pa_cons (pe_bltn (v := .ty "list") (by rfl) T.n_list bt_list rfl) pa_nil))))) (pw_or (pt_cmpR (neDK K hr.units) (pe_callB (sortK K) (by rfl) T.n_sorted PyProof.Rows.boot_sorted (pa_cons (pv 5) pa_nil)) (pe_listRg rfl (by rfl) T.n_list (prg_1 (by rfl) T.n_range (pv 2))) (nomark _)) (pw_or1 (pt_cmpR (neDK K hr.units) (pv 1) (pv 0) (nomark _)))))) (pss_one (ps_ret pe_bl)) (pss_nil))
      (pss_cons (ps_if (pt_val (pe_callB (anyK K) (by rfl) T.n_any PyProof.Rows.boot_any (pa_cons (pe_lc (own := [("_law_one", 7)]) rfl sc_law_right.nd (piL K (pv 5)) (blkOk_by (own := [("_law_one", 7)]) (N := ["_law_table_here", "_law_handed", "_law_size", "_law_due", "_law_found", "_law_row", "_law_at", "_law_one", "_law_other"]) (sc := defScope s_law_right) (by decide +kernel)) (fun _ _ _ _ _ => (pg_name (i := 7) sc_law_right.nd rfl (by first | exact Or.inl rfl | exact Or.inr rfl))) (fun _ _ _ _ _ => pts_nil) (fun _ _ _ _ _ => (pe_callB (isiK K) (by rfl) T.n_isinstance PyProof.Rows.boot_isinstance (pa_cons (pv 7) (pa_cons (pe_bltn (v := .ty "bool") (by rfl) T.n_bool bt_bool rfl) pa_nil))))) pa_nil))) (pss_one (ps_ret pe_bl)) (pss_nil))
      (pss_cons (ps_for PassesOwn.never rfl (piE K (by rfl) T.n_enumerate (pa_cons (pv 5) pa_nil)) (pgT K (n := 2) (pgs_cons (pg_name (i := 6) sc_law_right.nd rfl (by first | exact Or.inl rfl | exact Or.inr rfl)) (pgs_cons (pg_name (i := 7) sc_law_right.nd rfl (by first | exact Or.inl rfl | exact Or.inr rfl)) pgs_nil)))
        (pss_one (ps_if (pt_val (pe_callB (anyK K) (by rfl) T.n_any PyProof.Rows.boot_any (pa_cons (pe_lc (own := [("_law_other", 8)]) rfl sc_law_right.nd (piL K (pe_slice (slLK K) (pv 5) (po_some (pe_op op_add (pv 6) pe_int)) po_none)) (blkOk_by (own := [("_law_other", 8)]) (N := ["_law_table_here", "_law_handed", "_law_size", "_law_due", "_law_found", "_law_row", "_law_at", "_law_one", "_law_other"]) (sc := defScope s_law_right) (by decide +kernel)) (fun _ _ _ _ _ => (pg_name (i := 8) sc_law_right.nd rfl (by first | exact Or.inl rfl | exact Or.inr rfl))) (fun _ _ _ _ _ => pts_nil) (fun _ _ _ _ _ => (pe_cmpR op_gt (pe_ix (ixLK K) (pe_ix (ixLK K) (pv 3) (pv 8) (fun _ _ => rfl)) (pv 7) (fun _ _ => rfl)) (pe_ix (ixLK K) (pe_ix (ixLK K) (pv 3) (pv 7) (fun _ _ => rfl)) (pv 8) (fun _ _ => rfl)) (nomark _)))) pa_nil))) (pss_one (ps_ret pe_bl)) (pss_nil))))
      (pss_cons (ps_expr (pe_bm PySem.F.plainAttrs_list PySem.F.slot_list_append PySem.F.type_list_append mt_append (pe_ix (ixLK K) (pv 4) pe_int (fun _ _ => rfl)) (pa_cons pe_int pa_nil)))
      (pss_cons (ps_expr (pe_bm PySem.F.plainAttrs_list PySem.F.slot_list_append PySem.F.type_list_append mt_append (pv 5) (pa_cons pe_int pa_nil)))
      (pss_cons (ps_if (pt_cmpR (neDK K hr.units) (pe_slice (slLK K) (pv 4) (po_some pe_int) po_none) (pe_slice (slLK K) (pv 3) (po_some pe_int) po_none) (nomark _)) (pss_one (ps_ret pe_bl)) (pss_nil))
      (pss_one (ps_ret (pe_and (pe_cmpR (eqDK K hr.units) (pe_call (ok_strengths T) (hr.mono (by decide)) (by rfl) T.g_strengths T.F_strengths.kp (b_strengths T) .nil pass0 (pa_cons (pv 1) pa_nil)) (pv 3) (nomark _)) (pe_one (pe_cmpR (eqDK K hr.units) (pe_call (ok_order T) (hr.mono (by decide)) (by rfl) T.g_order T.F_order.kp (b_order T) .nil pass0 (pa_cons (pv 1) pa_nil)) (pe_slice (slLK K) (pv 5) po_none (po_some (pe_un un_neg pe_int))) (nomark _))))))))))))))))), ?_⟩
    refine ⟨_, rfl, t, rfl, ⟨_, hS⟩, fun D hD => ?_⟩
    refine lc_rows (walk_list (K := K) (a := t) (xs := xs)) hD (by omega) (fun H2 e2 => ex_l e2 hS) (fun i => rowV n (f i)) ?_ ?_
    · rintro i x Ha Ha' hi ea ⟨rfl, hx⟩ Qc hq
      obtain ⟨r, g1, g2⟩ := hat i (by omega)
      rw [g1] at hx
      cases hx
      exact ⟨rfl, _, rfl, r, _, rfl, .inl (ex_l ea g2), fun l nl => hq l _ nl (Ex.new nl) upd_same⟩
    intro H1 ps e1 hD1 hl1 R1
    have HT : Tab H H1 D ps n f := R1.tab hD hD1 (by rw [hl1, hl])
    refine ⟨_, rfl, t, _, rfl, .inl (ex_l e1 hS), ?_⟩
    rw [hl]
    refine ⟨_, rfl, .ref t, n, f, rfl, hn, TT.mono e1, hA, fun H2 u us e2 TU => ?_⟩
    refine ⟨_, rfl, .ref D, n, f, rfl, hn1, hn, HT.rd.mono e2, hA, fun H3 v vs e3 TV => ?_⟩
    refine ⟨_, rfl, _, rfl, .ref v, n, _, rfl, hn, TV.rd, fun H4 e4 => ⟨true, rfl, ?_⟩⟩
    have e24 := e3.trans e4
    refine ⟨_, rfl, _, rfl, _, _, (TV.rd.mono e4).dp, (TU.rd.mono e24).dp, shaped_tab _ _, shaped_tab _ _, _, rfl, itF (by rw [eqv_tab (fun _ _ _ _ => rfl)]; rfl) ?_⟩
    refine ⟨_, rfl, _, rfl, _, _, (HT.rd.mono (e2.trans e24)).dp, (TT.mono (e1.trans (e2.trans e24))).dp, shaped_tab _ _, shaped_tab _ _, _, rfl, itF (by rw [eqv_tab (fun _ _ _ _ => rfl)]; rfl) ?_⟩
    refine ⟨_, rfl, .ref D, n, f, rfl, hn1, hn, HT.rd.mono (e2.trans e24), hA, fun H5 p e5 np hp => ?_⟩
    obtain ⟨perm, pw⟩ := ordF_good f n
    obtain ⟨o, ho⟩ : ∃ o, ordF (wid f n) n = o := ⟨_, rfl⟩
    rw [ho] at perm pw hp
    have hlen : o.length = n := by rw [perm.length_eq, List.length_range]
    have hmem : ∀ k ∈ o, k < n := fun k hk => List.mem_range.mp (perm.mem_iff.mp hk)
    refine ⟨_, rfl, .ref p, .ty "list", _, _, true, rfl, .ty _, tyx_L (sq_of hp), kit_ty (by decide +kernel), true, rfl, ?_⟩
    have hpi : SqL K H5 p ((o.map fun (k : Nat) => (k : Int)).map V.int) := by
      have := sq_of (K := K) hp
      rw [nv_iv] at this
      exact this
    refine ⟨_, rfl, p, _, rfl, hpi, by rw [List.length_map]; omega, fun ns q1 perm1 srt1 nq1 => ?_⟩
    have e6 : Ex H5 (upd H5 q1 (.lst (ns.map V.int))) := Ex.new nq1
    refine ⟨_, rfl, n, rfl, rgOk_nat (by omega), fun q2 nq2 => ?_⟩
    have e7 := Ex.new (o := .lst (rgV 0 (n : Int))) nq2
    refine ⟨_, _, dp_ints (ns := ns) (sq_of (e7 _ _ upd_same)), dp_ints (ns := (List.range n).map fun (k : Nat) => (k : Int)) (sq_of ?_), shaped_ints _, shaped_ints _, _, rfl, ?_⟩
    · rw [upd_same, rgV_nv, nv_iv]
    refine itF (by rw [eqv_ints, decide_eq_true ((sorted_is_range perm1 srt1).mpr perm)]; rfl) ?_
    have e57 := e6.trans e7
    generalize (upd (upd H5 q1 (.lst (ns.map V.int))) q2 (.lst (rgV 0 (n : Int)))) = H7 at e57
    have e27 := e24.trans (e5.trans e57)
    refine ⟨_, rfl, _, rfl, _, _, (HT.rd.mono (e2.trans e27)).dp, (TT.mono (e1.trans (e2.trans e27))).dp, shaped_tab _ _, shaped_tab _ _, _, rfl, itF (by rw [eqv_tab (fun _ _ _ _ => rfl)]; rfl) ?_⟩
    have hp7 := e57 _ _ hp
    refine ⟨_, rfl, p, rfl, ⟨_, sq_of hp7⟩, fun D2 hD2 => ?_⟩
    refine lc_vals (walk_list (K := K) (a := p) (xs := nv o)) hD2 (by rw [nv_length]; omega) (fun Hx e => sq_of (e _ _ hp7)) (fun _ => V.bl false) ?_ ?_
    · rintro j x Ha Ha' hj ea ⟨rfl, hx⟩ Qc hq
      obtain ⟨k, _, rfl⟩ := nv_get hx
      exact ⟨rfl, _, rfl, _, .ty "bool", _, _, false, rfl, .ty _, .base (.int _), kit_ty (by decide +kernel), hq _ (Ex.refl _)⟩
    intro H8 e8 hD8
    rw [map_const_bl] at hD8
    refine ⟨D2, _, rfl, sq_of hD8, false, by rw [any_const_false], ?_⟩
    have hp8 := e8 _ _ hp7
    have e28 := e27.trans e8
    refine ⟨_, rfl, p, nv o, rfl, sq_of hp8, ?_⟩
    refine for_it (walk_enum (K := K) (a := p) (xs := nv o)) (fun i σ' H' => ∃ (y6 y7 : Option V), σ' = [some (.ref t), some (.ref D), some (.int n), some (.ref u), some (.ref v), some (.ref p), y6, y7, none] ∧ Ex H8 H')
      ⟨_, _, rfl, Ex.refl _⟩ (fun i σ' H' _ ⟨_, _, _, e⟩ => sq_of (e _ _ hp8)) ?_ ?_
    · rintro i x' σ' H' H'' hi ⟨y6, y7, rfl, e⟩ ⟨U, x1, x2, rfl, nU, rfl, h1, h2⟩
      cases h1
      rw [nv_length] at hi
      change (nv o)[i]? = some x2 at h2
      rw [nv_at hi] at h2
      cases h2
      have han := hmem _ (getD_memN hi)
      have eU := Ex.new (o := .tup [.int (i : Nat), .int (o.getD i 0 : Nat)]) nU
      refine ⟨U, _, rfl, st_of upd_same, rfl, _, _, rfl, _, [], rfl, rfl, ?_⟩
      refine ⟨.ref p, rfl, .int i, rfl, _, _, rfl, rfl, _, rfl, p, nv o, rfl, sq_of ((e.trans eU) _ _ hp8), fun c nc => ?_⟩
      rw [cut_nv_from]
      have ec := Ex.new (o := .lst (nv (o.drop (i + 1)))) nc
      refine ⟨c, rfl, ⟨_, sq_of upd_same⟩, fun D3 hD3 => ?_⟩
      refine lc_vals (walk_list (K := K) (a := c) (xs := nv (o.drop (i + 1)))) hD3 (by rw [nv_length, List.length_drop]; omega) (fun Hx e => sq_of (e _ _ upd_same)) (fun _ => V.bl false) ?_ ?_
      · rintro j x Ha Ha' hj ea ⟨rfl, hx⟩ Qc hq
        obtain ⟨k, hk, rfl⟩ := nv_get hx
        rw [List.getElem?_drop] at hk
        have hkn := hmem k (List.mem_of_getElem? hk)
        have TUb := TU.mono (e28.trans (e.trans (eU.trans (ec.trans ea))))
        obtain ⟨r1, _, _, x1, c1⟩ := TUb.at_ hkn
        obtain ⟨r2, _, _, x2, c2⟩ := TUb.at_ han
        refine ⟨rfl, _, rfl, _, rfl, u, _, k, .ref r1, rfl, rfl, sq_of TUb.top, atI_nat x1, _, rfl, r1, _, _, .int _, rfl, rfl, sq_of c1, atI_nat (rowV_get han), _, rfl, _, rfl, u, _, _, .ref r2, rfl, rfl, sq_of TUb.top, atI_nat x2, _, rfl, r2, _, k, .int _, rfl, rfl, sq_of c2, atI_nat (rowV_get hkn), _, _, rfl, rfl, ?_⟩
        have hlt := (List.getElem?_eq_some_iff.mp hk).1
        have hpw := List.pairwise_iff_getElem.mp pw i (i + 1 + j) hi hlt (by omega)
        have ek : o[i + 1 + j] = k := (List.getElem?_eq_some_iff.mp hk).2
        have ei : o[i] = o.getD i 0 := by rw [List.getD_eq_getElem?_getD, List.getElem?_eq_getElem hi]; rfl
        rw [ek, ei] at hpw
        have e9 : decide (wid f n (o.getD i 0) k < wid f n k (o.getD i 0)) = false := decide_eq_false (by omega)
        dsimp only
        rw [e9]
        exact hq _ (Ex.refl _)
      · intro H9 e9 hD9
        rw [map_const_bl] at hD9
        exact ⟨D3, _, rfl, sq_of hD9, false, by rw [any_const_false], _, _, rfl, e.trans (eU.trans (ec.trans e9))⟩
    · rintro σ' H9 ⟨y6, y7, rfl, e9⟩
      have e29 := e28.trans e9
      have TV9 := TV.mono (e4.trans ((e5.trans e57).trans (e8.trans e9)))
      have hp9 := e9 _ _ hp8
      obtain ⟨r0, g0, m0, x0, c0⟩ := TV9.at_ (show 0 < n by omega)
      have TV4 := TV.mono e4
      have nrp : ∀ i r, vs[i]? = some r → r ≠ p := fun i r hr' => ne_of_fresh (TV4.row i r hr') np
      have nvp : v ≠ p := ne_of_fresh TV4.top np
      have nr0 : r0 ≠ p := nrp 0 r0 g0
      refine ⟨_, rfl, v, _, 0, .ref r0, rfl, rfl, sq_of TV9.top, atI_nat (j := 0) x0, .inl ⟨rfl, _, sq_of c0⟩, r0, _, _, rfl, rfl, c0, sz_lt (by rw [rowV_length]; omega), ?_⟩
      have eA : Ex H2 (upd H9 r0 (.lst (rowV n (wid f n 0) ++ [.int 0]))) := TV9.exMut e29 m0
      have hpA : (upd H9 r0 (.lst (rowV n (wid f n 0) ++ [.int 0]))) p = some (.lst (nv o)) := by
        rw [upd_ne nr0.symm]
        exact hp9
      refine ⟨_, rfl, .inl ⟨rfl, _, sq_of hpA⟩, p, _, _, rfl, rfl, hpA, sz_lt (by rw [nv_length]; omega), ?_⟩
      have eB : Ex H2 (upd (upd H9 r0 (.lst (rowV n (wid f n 0) ++ [.int 0]))) p (.lst (nv o ++ [.int 0]))) := eA.mut (fresh_back e24 np)
      have hne : ∀ i r, 1 ≤ i → vs[i]? = some r → r ≠ r0 := fun i r h1 hr' e => by
        subst e
        have := nd_ix TV.nd hr' g0
        omega
      have hrw : ∀ i r, 1 ≤ i → vs[i]? = some r → (upd (upd H9 r0 (.lst (rowV n (wid f n 0) ++ [.int 0]))) p (.lst (nv o ++ [.int 0]))) r = some (.lst (rowV n (wid f n i))) := fun i r h1 hr' => by
        rw [upd_ne (nrp i r hr'), upd_ne (hne i r h1 hr')]
        exact TV9.row i r hr'
      have ht2 : (upd (upd H9 r0 (.lst (rowV n (wid f n 0) ++ [.int 0]))) p (.lst (nv o ++ [.int 0]))) v = some (.lst (vs.map V.ref)) := by
        rw [upd_ne nvp, upd_ne (fun (e : v = r0) => TV.notop (e ▸ m0))]
        exact TV9.top
      have hpB : (upd (upd H9 r0 (.lst (rowV n (wid f n 0) ++ [.int 0]))) p (.lst (nv o ++ [.int 0]))) p = some (.lst (nv o ++ [.int 0])) := upd_same
      generalize (upd (upd H9 r0 (.lst (rowV n (wid f n 0) ++ [.int 0]))) p (.lst (nv o ++ [.int 0]))) = HB at eB hrw ht2 hpB
      refine ⟨_, rfl, 1, rfl, v, _, rfl, sq_of ht2, fun c4 nc4 => ?_⟩
      have ec4 := Ex.new (o := .lst (cutV (vs.map V.ref) (some 1) none)) nc4
      refine ⟨_, rfl, 1, rfl, u, _, rfl, sq_of (ec4 _ _ (eB _ _ TU.top)), fun c5 nc5 => ?_⟩
      have ec5 := Ex.new (o := .lst (cutV (us.map V.ref) (some 1) none)) nc5
      have ecut : ∀ l : List Addr, cutV (l.map V.ref) (some 1) none = (l.drop 1).map V.ref := fun l => by
        rw [show (1 : Int) = ((1 : Nat) : Int) from rfl, cut_from, List.map_drop]
      refine ⟨_, _, dp_rows (k := 1) (n := n) (f := wid f n) (rs := vs) TV.len (sq_of (by rw [ec5 _ _ upd_same, ecut])) (fun i r h1 hr' => sq_of (ec5 _ _ (ec4 _ _ (hrw i r h1 hr')))), dp_rows (k := 1) (n := n) (f := wid f n) (rs := us) TU.len (sq_of (by rw [upd_same, ecut])) (fun i r h1 hr' => sq_of (ec5 _ _ (ec4 _ _ (eB _ _ (TU.row i r hr'))))), shaped_rows _ _ _, shaped_rows _ _ _, _, rfl, itF (by rw [SeqAt.eqv_refl _ (lay_rows _ _ _)]; rfl) ?_⟩
      have eC := ec4.trans ec5
      have hpC := eC _ _ hpB
      have e2C := eB.trans eC
      refine ⟨_, rfl, .ref D, n, f, rfl, hn1, hn, HT.rd.mono (e2.trans e2C), hA, fun H12 g gs e12 TG => ?_⟩
      refine ⟨_, rfl, _, _, TG.rd.dp, (TU.rd.mono (e2C.trans e12)).dp, shaped_tab _ _, shaped_tab _ _, true, by rw [eqv_tab (fun _ _ _ _ => rfl)], ?_⟩
      refine ⟨_, rfl, .ref D, n, f, rfl, hn1, hn, HT.rd.mono (e2.trans (e2C.trans e12)), hA, fun H13 p2 e13 np2 hp2 => ?_⟩
      rw [ho] at hp2
      refine ⟨_, rfl, 1, rfl, -1, rfl, p, _, rfl, sq_of ((e12.trans e13) _ _ hpC), fun c6 nc6 => ?_⟩
      have ec6 := Ex.new (o := .lst (cutV (nv o ++ [.int 0]) none (some (-1)))) nc6
      have hd1 : nv o = iv (o.map fun (k : Nat) => (k : Int)) := nv_iv o
      refine ⟨_, _, dp_ints (ns := o.map fun (k : Nat) => (k : Int)) (sq_of (by rw [ec6 _ _ hp2, hd1])), dp_ints (ns := o.map fun (k : Nat) => (k : Int)) (sq_of (by rw [upd_same, cut_m1, List.dropLast_concat, hd1])), shaped_ints _, shaped_ints _, ?_⟩
      rw [eqv_ints, decide_eq_true rfl]
      exact q _ ((e1.trans (e2.trans e2C)).trans ((e12.trans e13).trans ec6))
end
end Hc
namespace Hc
open PySem PySem.Spec PyProof.Rows L2 Evl
section
variable {P : Program} {w : World} {K : PySem.W.Frag} {mg : Str → Option Value} {base : Heap}
def spLaw (K : PySem.W.Frag) : Sp := fun vs H Q _ => ∃ (a : Addr) (ns : List Int) (B : Nat), vs = [.ref a] ∧ SqL K H a (iv ns) ∧ ns.length ≤ 63 ∧ (∀ z ∈ ns, Big B z) ∧ B ≤ 2000000 ∧ 64 ≤ B ∧ ∀ H', Q (.bl true) H'
theorem ok_law (T : Tx K mg) : FnOk P w K mg base CX0 5 T.f_law T.d_law ["_law_script"] (spLaw K) := by
  refine T.F_law.ok sc_law (fun vs H Q E h => ?_) (fun cdv A outer s H vs Q E hr h => ?_)
  · obtain ⟨a, ns, B, rfl, _⟩ := h
    rfl
  · obtain ⟨a, ns, B, rfl, hS, h63, hB, hB2, hB3, q⟩ := h
    refine ⟨_, pss_cons (ps_set (i := 1) sc_law.nd rfl (Or.inl rfl) (pe_callB (sumK K) (by rfl) T.n_sum PyProof.Rows.boot_sum (pa_cons (pe_slice (slLK K) (pv 0) po_none (po_some pe_int)) pa_nil)))
      (pss_cons (ps_set (i := 2) sc_law.nd rfl (Or.inl rfl) (pe_op op_add pe_int (pe_op op_mod (pv 1) pe_int)))
      (Evl.pss_cut (ps_if (pt_cmpR op_eq (pe_op op_mod (pe_op op_fdivW (pv 1) pe_int) pe_int) pe_int (nomark _)) (pss_one (ps_set (i := 2) sc_law.nd rfl (Or.inl rfl) (pe_op op_add pe_int (pe_op op_mod (pe_op op_fdivW (pv 1) pe_int) pe_int)))) (pss_nil))
      (pss_cons (ps_for PassesOwn.never rfl (piL K (pe_lst (pa_cons (pe_call (ok_law_table T) (hr.mono (by decide)) (by rfl) T.g_law_table T.F_law_table.kp (b_law_table T) .nil pass0 (pa_cons (pv 0) (pa_cons (pv 2) pa_nil))) (pa_cons (pe_call (ok_law_count T) (hr.mono (by decide)) (by rfl) T.g_law_count T.F_law_count.kp (b_law_count T) .nil pass0 (pa_cons (pv 2) (pa_cons (pe_call (ok_law_ballots T) (hr.mono (by decide)) (by rfl) T.g_law_ballots T.F_law_ballots.kp (b_law_ballots T) .nil pass0 (pa_cons (pe_slice (slLK K) (pv 0) po_none (po_some pe_int)) (pa_cons (pv 2) pa_nil))) pa_nil))) pa_nil)))) (pg_name (i := 3) sc_law.nd rfl (by first | exact Or.inl rfl | exact Or.inr rfl))
        (pss_one (ps_if (pt_not (pt_val (pe_call (ok_law_right T) (hr.mono (by decide)) (by rfl) T.g_law_right T.F_law_right.kp (b_law_right T) .nil pass0 (pa_cons (pv 3) pa_nil)))) (pss_one (ps_ret pe_bl)) (pss_nil))))
      (pss_cons (ps_set (i := 4) sc_law.nd rfl (Or.inl rfl) (pe_lst (pa_cons (pe_lst (pa_cons pe_int (pa_cons pe_int (pa_cons (pe_un un_neg pe_int) pa_nil)))) (pa_cons (pe_lst (pa_cons (pe_un un_neg pe_int) (pa_cons pe_int (pa_cons pe_int pa_nil)))) (pa_cons (pe_lst (pa_cons pe_int (pa_cons (pe_un un_neg pe_int) (pa_cons pe_int pa_nil)))) pa_nil)))))
      (pss_one (ps_ret (pe_and (pe_cmpR (eqDK K hr.units) (pe_call (ok_strengths T) (hr.mono (by decide)) (by rfl) T.g_strengths T.F_strengths.kp (b_strengths T) .nil pass0 (pa_cons (pv 4) pa_nil)) (pe_lst (pa_cons (pe_lst (pa_cons pe_int (pa_cons pe_int (pa_cons pe_int pa_nil)))) (pa_cons (pe_lst (pa_cons pe_int (pa_cons pe_int (pa_cons pe_int pa_nil)))) (pa_cons (pe_lst (pa_cons pe_int (pa_cons pe_int (pa_cons pe_int pa_nil)))) pa_nil)))) (nomark _)) (pe_one (pe_cmpR (eqDK K hr.units) (pe_call (ok_order T) (hr.mono (by decide)) (by rfl) T.g_order T.F_order.kp (b_order T) .nil pass0 (pa_cons (pv 4) pa_nil)) (pe_lst (pa_cons pe_int (pa_cons pe_int (pa_cons pe_int pa_nil)))) (nomark _)))))))))), ?_⟩
    refine ⟨.ref a, rfl, 63, rfl, a, iv ns, rfl, hS, fun c1 nc1 => ?_⟩
    have e1 : Ex _ (upd H c1 (.lst (cutV (iv ns) none (some 63)))) := Ex.new nc1
    have ec1 : cutV (iv ns) none (some 63) = (ns.take 63).map V.int := by
      rw [show (63 : Int) = ((63 : Nat) : Int) from rfl, cut_to]
      unfold iv
      rw [List.map_take]
    refine ⟨c1, ns.take 63, rfl, sq_of (by rw [upd_same, ec1]), ?_⟩
    generalize (ns.take 63).sum = wh
    generalize (upd H c1 (.lst (cutV (iv ns) none (some 63)))) = H1 at e1
    have m5 := Int.emod_nonneg wh (show (6 : Int) ≠ 0 by decide)
    have m5' := Int.emod_lt_of_pos wh (show (0 : Int) < 6 by decide)
    refine ⟨_, rfl, _, _, rfl, rfl, (by decide : (0 : Int) < 6), _, _, rfl, rfl, ?_⟩
    refine ⟨fun σ' H' => H1 = H' ∧ ∃ z : Int, 1 ≤ z ∧ z ≤ 20 ∧ σ' = [some (.ref a), some (.int wh), some (.int z), none, none], ?_, ?_⟩
    · refine ⟨_, rfl, _, _, rfl, rfl, divW_small (by decide) (by decide), _, _, rfl, rfl, (by decide : (0 : Int) < 16), rfl, _, rfl, it2 (fun _ => ?_) (fun _ => ?_)⟩
      · have k0 := Int.emod_nonneg (wh / 96) (show (14 : Int) ≠ 0 by decide)
        have k1 := Int.emod_lt_of_pos (wh / 96) (show (0 : Int) < 14 by decide)
        exact ⟨_, rfl, _, _, rfl, rfl, divW_small (by decide) (by decide), _, _, rfl, rfl, (by decide : (0 : Int) < 14), _, _, rfl, rfl, rfl, _, by omega, by omega, rfl⟩
      · exact ⟨rfl, _, by omega, by omega, rfl⟩
    rintro _ _ ⟨rfl, z, hz1, hz2, rfl⟩
    obtain ⟨n, rfl⟩ : ∃ n : Nat, z = (n : Int) := ⟨z.toNat, by omega⟩
    have hn1 : 1 ≤ n := by omega
    have hn : n ≤ 20 := by omega
    refine ⟨_, rfl, _, rfl, a, ns, n, B, rfl, ex_l e1 hS, hn, hB, hB2, hB3, fun H2 t1 rs1 f1 e2 T1 hA1 => ?_⟩
    have e12 := e1.trans e2
    refine ⟨_, rfl, .ref a, rfl, 7, rfl, a, iv ns, rfl, ex_l e12 hS, fun c2 nc2 => ?_⟩
    have ec2 : cutV (iv ns) none (some 7) = iv (ns.take 7) := by
      rw [show (7 : Int) = ((7 : Nat) : Int) from rfl, cut_to]
      unfold iv
      rw [List.map_take]
    rw [ec2]
    have e3 := Ex.new (o := .lst (iv (ns.take 7))) nc2
    refine ⟨_, rfl, c2, ns.take 7, n, B, rfl, sq_of upd_same, hn, fun z hz => hB z (List.mem_of_mem_take hz), hB2, fun H4 D xs bs e4 nD hD hP hok hlen => ?_⟩
    have hlt : ∀ b ∈ bs, ∀ k ∈ b.1, k < n := fun b hb => okB_lt (List.all_eq_true.mp hok b hb)
    refine ⟨n, _, bs, rfl, hn, ⟨D, xs, rfl, sq_of hD, hP⟩, hlt, fun H5 t2 rs2 e5 T2 => ?_⟩
    have e25 : Ex H2 H5 := (e3.trans e4).trans e5
    refine ⟨(by decide : 2 ≤ sizeLine), fun L nL => ⟨L, rfl, ⟨_, sq_of upd_same⟩, ?_⟩⟩
    have eL := Ex.new (o := .lst [V.ref t1, V.ref t2]) nL
    refine for_list (K := K) (a := L) (xs := [.ref t1, .ref t2]) (fun i σ' H' => ∃ y3, σ' = [some (.ref a), some (.int wh), some (.int n), y3, none] ∧ Ex (upd H5 L (.lst [.ref t1, .ref t2])) H')
      ⟨_, rfl, Ex.refl _⟩ (fun i σ' H' _ ⟨_, _, e⟩ => sq_of (e _ _ upd_same)) ?_ ?_
    · rintro i x σ' H' hi ⟨y3, rfl, e⟩
      obtain ⟨g, TG, hG⟩ : ∃ g, TabR K H' x n g ∧ Anti n g := by
        rcases List.mem_cons.mp (List.mem_of_getElem? hi) with rfl | hw
        · exact ⟨f1, (T1.rd.mono e25).mono (eL.trans e), hA1⟩
        · have : x = .ref t2 := by simpa using hw
          rw [this]
          exact ⟨_, T2.rd.mono (eL.trans e), anti_cnt n bs⟩
      exact ⟨_, rfl, x, n, g, rfl, TG, hG, hn1, hn, fun H6 e6 => ⟨true, rfl, _, rfl, e.trans e6⟩⟩
    · rintro σ' H6 ⟨y3, rfl, e6⟩
      refine ⟨_, rfl, (by decide : 3 ≤ sizeLine), fun p1 np1 => ⟨_, rfl, (by decide : 3 ≤ sizeLine), fun p2 np2 => ⟨_, rfl, (by decide : 3 ≤ sizeLine), fun p3 np3 => ⟨(by decide : 3 ≤ sizeLine), fun p4 np4 => ?_⟩⟩⟩⟩
      have f1 := Ex.new (o := .lst [V.int 0, V.int 3, V.int (-1)]) np1
      have f2 := Ex.new (o := .lst [V.int (-3), V.int 0, V.int 5]) np2
      have f3 := Ex.new (o := .lst [V.int 1, V.int (-5), V.int 0]) np3
      have f4 := Ex.new (o := .lst [V.ref p1, V.ref p2, V.ref p3]) np4
      have TR : TabR K _ (.ref p4) 3 (litF [[0, 3, -1], [-3, 0, 5], [1, -5, 0]]) := tabR_lit (rs := [p1, p2, p3]) [[0, 3, -1], [-3, 0, 5], [1, -5, 0]] upd_same (by decide) (.cons (f4 _ _ (f3 _ _ (f2 _ _ upd_same))) (.cons (f4 _ _ (f3 _ _ upd_same)) (.cons (f4 _ _ upd_same) .nil)))
      have hAR : Anti 3 (litF [[0, 3, -1], [-3, 0, 5], [1, -5, 0]]) := by
        have : ∀ i j : Fin 3, litF [[0, 3, -1], [-3, 0, 5], [1, -5, 0]] i j = - litF [[0, 3, -1], [-3, 0, 5], [1, -5, 0]] j i := by decide
        exact fun i j hi hj => this ⟨i, hi⟩ ⟨j, hj⟩
      refine ⟨_, rfl, .ref p4, 3, _, rfl, by decide, by decide, TR, hAR, fun H8 s1 ss e8 TS => ?_⟩
      refine ⟨(by decide : 3 ≤ sizeLine), fun q1 nq1 => ⟨(by decide : 3 ≤ sizeLine), fun q2 nq2 => ⟨(by decide : 3 ≤ sizeLine), fun q3 nq3 => ⟨(by decide : 3 ≤ sizeLine), fun q4 nq4 => ?_⟩⟩⟩⟩
      have g1 := Ex.new (o := .lst [V.int 0, V.int 3, V.int 3]) nq1
      have g2 := Ex.new (o := .lst [V.int 1, V.int 0, V.int 5]) nq2
      have g3 := Ex.new (o := .lst [V.int 1, V.int 1, V.int 0]) nq3
      have g4 := Ex.new (o := .lst [V.ref q1, V.ref q2, V.ref q3]) nq4
      have TD : TabR K _ (.ref q4) 3 (litF [[0, 3, 3], [1, 0, 5], [1, 1, 0]]) := tabR_lit (rs := [q1, q2, q3]) [[0, 3, 3], [1, 0, 5], [1, 1, 0]] upd_same (by decide) (.cons (g4 _ _ (g3 _ _ (g2 _ _ upd_same))) (.cons (g4 _ _ (g3 _ _ upd_same)) (.cons (g4 _ _ upd_same) .nil)))
      have e9 := g1.trans (g2.trans (g3.trans g4))
      have hw : ∀ i j, i < 3 → j < 3 → wid (litF [[0, 3, -1], [-3, 0, 5], [1, -5, 0]]) 3 i j = litF [[0, 3, 3], [1, 0, 5], [1, 1, 0]] i j := by
        have : ∀ i j : Fin 3, wid (litF [[0, 3, -1], [-3, 0, 5], [1, -5, 0]]) 3 i j = litF [[0, 3, 3], [1, 0, 5], [1, 1, 0]] i j := by decide +kernel
        exact fun i j hi hj => this ⟨i, hi⟩ ⟨j, hj⟩
      refine ⟨_, _, (TS.rd.mono e9).dp, TD.dp, shaped_tab _ _, shaped_tab _ _, true, by rw [eqv_tab hw], ?_⟩
      refine ⟨_, rfl, .ref p4, 3, _, rfl, by decide, by decide, TR.mono (e8.trans e9), hAR, fun H10 o1 e10 no1 ho1 => ?_⟩
      rw [show ordF (wid (litF [[0, 3, -1], [-3, 0, 5], [1, -5, 0]]) 3) 3 = [0, 1, 2] by decide +kernel] at ho1
      refine ⟨(by decide : 3 ≤ sizeLine), fun q5 nq5 => ?_⟩
      have g5 := Ex.new (o := .lst (iv [0, 1, 2])) nq5
      refine ⟨_, _, dp_ints (ns := [0, 1, 2]) (sq_of (g5 _ _ ho1)), dp_ints (ns := [0, 1, 2]) (sq_of upd_same), shaped_ints _, shaped_ints _, ?_⟩
      rw [eqv_ints]
      exact q _
end
end Hc
namespace Hc
open PySem PySem.Spec PyProof.Rows L2 Evl
theorem tx_of {K : PySem.W.Frag} {h : Heap} {mg : Str → Option Value} (X : K.In h) (G : h.Ns mainGlobals mg)
    {f1 : Addr} {od1 an1 : Option Addr} {sl1 : Array (Option Value)} {oc1 kV1 dc1 pm1 cd1 ct1 : Value} {f2 : Addr} {od2 an2 : Option Addr} {sl2 : Array (Option Value)} {oc2 kV2 dc2 pm2 cd2 ct2 : Value} {f3 : Addr} {od3 an3 : Option Addr} {sl3 : Array (Option Value)} {oc3 kV3 dc3 pm3 cd3 ct3 : Value} {f4 : Addr} {od4 an4 : Option Addr} {sl4 : Array (Option Value)} {oc4 kV4 dc4 pm4 cd4 ct4 : Value} {f5 : Addr} {od5 an5 : Option Addr} {sl5 : Array (Option Value)} {oc5 kV5 dc5 pm5 cd5 ct5 : Value} {f6 : Addr} {od6 an6 : Option Addr} {sl6 : Array (Option Value)} {oc6 kV6 dc6 pm6 cd6 ct6 : Value} {f7 : Addr} {od7 an7 : Option Addr} {sl7 : Array (Option Value)} {oc7 kV7 dc7 pm7 cd7 ct7 : Value} {f8 : Addr} {od8 an8 : Option Addr} {sl8 : Array (Option Value)} {oc8 kV8 dc8 pm8 cd8 ct8 : Value} {f9 : Addr} {od9 an9 : Option Addr} {sl9 : Array (Option Value)} {oc9 kV9 dc9 pm9 cd9 ct9 : Value} {f10 : Addr} {od10 an10 : Option Addr} {sl10 : Array (Option Value)} {oc10 kV10 dc10 pm10 cd10 ct10 : Value} {f11 : Addr} {od11 an11 : Option Addr} {sl11 : Array (Option Value)} {oc11 kV11 dc11 pm11 cd11 ct11 : Value} {f12 : Addr} {od12 an12 : Option Addr} {sl12 : Array (Option Value)} {oc12 kV12 dc12 pm12 cd12 ct12 : Value} {f13 : Addr} {od13 an13 : Option Addr} {sl13 : Array (Option Value)} {oc13 kV13 dc13 pm13 cd13 ct13 : Value} {f14 : Addr} {od14 an14 : Option Addr} {sl14 : Array (Option Value)} {oc14 kV14 dc14 pm14 cd14 ct14 : Value} {f15 : Addr} {od15 an15 : Option Addr} {sl15 : Array (Option Value)} {oc15 kV15 dc15 pm15 cd15 ct15 : Value} {t_MOST : Nat}
    (a1 : PySem.W.nsIn K mainGlobals "is_number" = some (some (.ref f1)))
    (l1 : K.lookup f1 = some ⟨oc1, od1, .func (PySem.W.fnOf "is_number" "is_number" (defArgs s_is_number) (defBody s_is_number) (defScope s_is_number) .none kV1 dc1 pm1 an1 cd1 ct1), sl1⟩)
    (e1 : PySem.W.codeIn K cd1 "is_number" = true)
    (k1 : PySem.W.keepIn K (.ref f1) = true)
    (a2 : PySem.W.nsIn K mainGlobals "asked_table" = some (some (.ref f2)))
    (l2 : K.lookup f2 = some ⟨oc2, od2, .func (PySem.W.fnOf "asked_table" "asked_table" (defArgs s_asked_table) (defBody s_asked_table) (defScope s_asked_table) .none kV2 dc2 pm2 an2 cd2 ct2), sl2⟩)
    (e2 : PySem.W.codeIn K cd2 "asked_table" = true)
    (k2 : PySem.W.keepIn K (.ref f2) = true)
    (a3 : PySem.W.nsIn K mainGlobals "widest" = some (some (.ref f3)))
    (l3 : K.lookup f3 = some ⟨oc3, od3, .func (PySem.W.fnOf "widest" "widest" (defArgs s_widest) (defBody s_widest) (defScope s_widest) .none kV3 dc3 pm3 an3 cd3 ct3), sl3⟩)
    (e3 : PySem.W.codeIn K cd3 "widest" = true)
    (k3 : PySem.W.keepIn K (.ref f3) = true)
    (a4 : PySem.W.nsIn K mainGlobals "strengths" = some (some (.ref f4)))
    (l4 : K.lookup f4 = some ⟨oc4, od4, .func (PySem.W.fnOf "strengths" "strengths" (defArgs s_strengths) (defBody s_strengths) (defScope s_strengths) .none kV4 dc4 pm4 an4 cd4 ct4), sl4⟩)
    (e4 : PySem.W.codeIn K cd4 "strengths" = true)
    (k4 : PySem.W.keepIn K (.ref f4) = true)
    (a5 : PySem.W.nsIn K mainGlobals "order" = some (some (.ref f5)))
    (l5 : K.lookup f5 = some ⟨oc5, od5, .func (PySem.W.fnOf "order" "order" (defArgs s_order) (defBody s_order) (defScope s_order) .none kV5 dc5 pm5 an5 cd5 ct5), sl5⟩)
    (e5 : PySem.W.codeIn K cd5 "order" = true)
    (k5 : PySem.W.keepIn K (.ref f5) = true)
    (a6 : PySem.W.nsIn K mainGlobals "_law_number" = some (some (.ref f6)))
    (l6 : K.lookup f6 = some ⟨oc6, od6, .func (PySem.W.fnOf "_law_number" "_law_number" (defArgs s_law_number) (defBody s_law_number) (defScope s_law_number) .none kV6 dc6 pm6 an6 cd6 ct6), sl6⟩)
    (e6 : PySem.W.codeIn K cd6 "_law_number" = true)
    (k6 : PySem.W.keepIn K (.ref f6) = true)
    (a7 : PySem.W.nsIn K mainGlobals "_law_table" = some (some (.ref f7)))
    (l7 : K.lookup f7 = some ⟨oc7, od7, .func (PySem.W.fnOf "_law_table" "_law_table" (defArgs s_law_table) (defBody s_law_table) (defScope s_law_table) .none kV7 dc7 pm7 an7 cd7 ct7), sl7⟩)
    (e7 : PySem.W.codeIn K cd7 "_law_table" = true)
    (k7 : PySem.W.keepIn K (.ref f7) = true)
    (a8 : PySem.W.nsIn K mainGlobals "_law_ballots" = some (some (.ref f8)))
    (l8 : K.lookup f8 = some ⟨oc8, od8, .func (PySem.W.fnOf "_law_ballots" "_law_ballots" (defArgs s_law_ballots) (defBody s_law_ballots) (defScope s_law_ballots) .none kV8 dc8 pm8 an8 cd8 ct8), sl8⟩)
    (e8 : PySem.W.codeIn K cd8 "_law_ballots" = true)
    (k8 : PySem.W.keepIn K (.ref f8) = true)
    (a9 : PySem.W.nsIn K mainGlobals "_law_count" = some (some (.ref f9)))
    (l9 : K.lookup f9 = some ⟨oc9, od9, .func (PySem.W.fnOf "_law_count" "_law_count" (defArgs s_law_count) (defBody s_law_count) (defScope s_law_count) .none kV9 dc9 pm9 an9 cd9 ct9), sl9⟩)
    (e9 : PySem.W.codeIn K cd9 "_law_count" = true)
    (k9 : PySem.W.keepIn K (.ref f9) = true)
    (a10 : PySem.W.nsIn K mainGlobals "_law_is_table" = some (some (.ref f10)))
    (l10 : K.lookup f10 = some ⟨oc10, od10, .func (PySem.W.fnOf "_law_is_table" "_law_is_table" (defArgs s_law_is_table) (defBody s_law_is_table) (defScope s_law_is_table) .none kV10 dc10 pm10 an10 cd10 ct10), sl10⟩)
    (e10 : PySem.W.codeIn K cd10 "_law_is_table" = true)
    (k10 : PySem.W.keepIn K (.ref f10) = true)
    (a11 : PySem.W.nsIn K mainGlobals "_law_reached" = some (some (.ref f11)))
    (l11 : K.lookup f11 = some ⟨oc11, od11, .func (PySem.W.fnOf "_law_reached" "_law_reached" (defArgs s_law_reached) (defBody s_law_reached) (defScope s_law_reached) .none kV11 dc11 pm11 an11 cd11 ct11), sl11⟩)
    (e11 : PySem.W.codeIn K cd11 "_law_reached" = true)
    (k11 : PySem.W.keepIn K (.ref f11) = true)
    (a12 : PySem.W.nsIn K mainGlobals "_law_widest" = some (some (.ref f12)))
    (l12 : K.lookup f12 = some ⟨oc12, od12, .func (PySem.W.fnOf "_law_widest" "_law_widest" (defArgs s_law_widest) (defBody s_law_widest) (defScope s_law_widest) .none kV12 dc12 pm12 an12 cd12 ct12), sl12⟩)
    (e12 : PySem.W.codeIn K cd12 "_law_widest" = true)
    (k12 : PySem.W.keepIn K (.ref f12) = true)
    (a13 : PySem.W.nsIn K mainGlobals "_law_strengths" = some (some (.ref f13)))
    (l13 : K.lookup f13 = some ⟨oc13, od13, .func (PySem.W.fnOf "_law_strengths" "_law_strengths" (defArgs s_law_strengths) (defBody s_law_strengths) (defScope s_law_strengths) .none kV13 dc13 pm13 an13 cd13 ct13), sl13⟩)
    (e13 : PySem.W.codeIn K cd13 "_law_strengths" = true)
    (k13 : PySem.W.keepIn K (.ref f13) = true)
    (a14 : PySem.W.nsIn K mainGlobals "_law_right" = some (some (.ref f14)))
    (l14 : K.lookup f14 = some ⟨oc14, od14, .func (PySem.W.fnOf "_law_right" "_law_right" (defArgs s_law_right) (defBody s_law_right) (defScope s_law_right) .none kV14 dc14 pm14 an14 cd14 ct14), sl14⟩)
    (e14 : PySem.W.codeIn K cd14 "_law_right" = true)
    (k14 : PySem.W.keepIn K (.ref f14) = true)
    (a15 : PySem.W.nsIn K mainGlobals "law" = some (some (.ref f15)))
    (l15 : K.lookup f15 = some ⟨oc15, od15, .func (PySem.W.fnOf "law" "law" (defArgs s_law) (defBody s_law) (defScope s_law) .none kV15 dc15 pm15 an15 cd15 ct15), sl15⟩)
    (e15 : PySem.W.codeIn K cd15 "law" = true)
    (k15 : PySem.W.keepIn K (.ref f15) = true)
    (a_MOST : PySem.W.nsIn K mainGlobals "MOST" = some (some (.int 20 t_MOST)))
    (z_all : PySem.W.nsIn K mainGlobals "all" = some none)
    (z_any : PySem.W.nsIn K mainGlobals "any" = some none)
    (z_bool : PySem.W.nsIn K mainGlobals "bool" = some none)
    (z_enumerate : PySem.W.nsIn K mainGlobals "enumerate" = some none)
    (z_int : PySem.W.nsIn K mainGlobals "int" = some none)
    (z_isinstance : PySem.W.nsIn K mainGlobals "isinstance" = some none)
    (z_len : PySem.W.nsIn K mainGlobals "len" = some none)
    (z_list : PySem.W.nsIn K mainGlobals "list" = some none)
    (z_max : PySem.W.nsIn K mainGlobals "max" = some none)
    (z_min : PySem.W.nsIn K mainGlobals "min" = some none)
    (z_range : PySem.W.nsIn K mainGlobals "range" = some none)
    (z_set : PySem.W.nsIn K mainGlobals "set" = some none)
    (z_sorted : PySem.W.nsIn K mainGlobals "sorted" = some none)
    (z_sum : PySem.W.nsIn K mainGlobals "sum" = some none) :
    ∃ T : Tx K mg, T.d_law = PySem.W.fnOf "law" "law" (defArgs s_law) (defBody s_law) (defScope s_law) .none kV15 dc15 pm15 an15 cd15 ct15 :=
  ⟨{ f_is_number := f1,
      d_is_number := _,
      F_is_number := fun_mk (st := s_is_number) l1 e1 k1,
      g_is_number := PySem.W.mg_of X G a1,
      f_asked_table := f2,
      d_asked_table := _,
      F_asked_table := fun_mk (st := s_asked_table) l2 e2 k2,
      g_asked_table := PySem.W.mg_of X G a2,
      f_widest := f3,
      d_widest := _,
      F_widest := fun_mk (st := s_widest) l3 e3 k3,
      g_widest := PySem.W.mg_of X G a3,
      f_strengths := f4,
      d_strengths := _,
      F_strengths := fun_mk (st := s_strengths) l4 e4 k4,
      g_strengths := PySem.W.mg_of X G a4,
      f_order := f5,
      d_order := _,
      F_order := fun_mk (st := s_order) l5 e5 k5,
      g_order := PySem.W.mg_of X G a5,
      f_law_number := f6,
      d_law_number := _,
      F_law_number := fun_mk (st := s_law_number) l6 e6 k6,
      g_law_number := PySem.W.mg_of X G a6,
      f_law_table := f7,
      d_law_table := _,
      F_law_table := fun_mk (st := s_law_table) l7 e7 k7,
      g_law_table := PySem.W.mg_of X G a7,
      f_law_ballots := f8,
      d_law_ballots := _,
      F_law_ballots := fun_mk (st := s_law_ballots) l8 e8 k8,
      g_law_ballots := PySem.W.mg_of X G a8,
      f_law_count := f9,
      d_law_count := _,
      F_law_count := fun_mk (st := s_law_count) l9 e9 k9,
      g_law_count := PySem.W.mg_of X G a9,
      f_law_is_table := f10,
      d_law_is_table := _,
      F_law_is_table := fun_mk (st := s_law_is_table) l10 e10 k10,
      g_law_is_table := PySem.W.mg_of X G a10,
      f_law_reached := f11,
      d_law_reached := _,
      F_law_reached := fun_mk (st := s_law_reached) l11 e11 k11,
      g_law_reached := PySem.W.mg_of X G a11,
      f_law_widest := f12,
      d_law_widest := _,
      F_law_widest := fun_mk (st := s_law_widest) l12 e12 k12,
      g_law_widest := PySem.W.mg_of X G a12,
      f_law_strengths := f13,
      d_law_strengths := _,
      F_law_strengths := fun_mk (st := s_law_strengths) l13 e13 k13,
      g_law_strengths := PySem.W.mg_of X G a13,
      f_law_right := f14,
      d_law_right := _,
      F_law_right := fun_mk (st := s_law_right) l14 e14 k14,
      g_law_right := PySem.W.mg_of X G a14,
      f_law := f15,
      d_law := _,
      F_law := fun_mk (st := s_law) l15 e15 k15,
      g_law := PySem.W.mg_of X G a15,
      g_MOST := ⟨t_MOST, PySem.W.mg_of X G a_MOST⟩,
      n_all := PySem.W.mg_none_of X G z_all,
      n_any := PySem.W.mg_none_of X G z_any,
      n_bool := PySem.W.mg_none_of X G z_bool,
      n_enumerate := PySem.W.mg_none_of X G z_enumerate,
      n_int := PySem.W.mg_none_of X G z_int,
      n_isinstance := PySem.W.mg_none_of X G z_isinstance,
      n_len := PySem.W.mg_none_of X G z_len,
      n_list := PySem.W.mg_none_of X G z_list,
      n_max := PySem.W.mg_none_of X G z_max,
      n_min := PySem.W.mg_none_of X G z_min,
      n_range := PySem.W.mg_none_of X G z_range,
      n_set := PySem.W.mg_none_of X G z_set,
      n_sorted := PySem.W.mg_none_of X G z_sorted,
      n_sum := PySem.W.mg_none_of X G z_sum }, rfl⟩
theorem law_of {l : PySem.W.OpenLaw} {w : World} {K : PySem.W.Frag} {mg : Str → Option Value} {fa : Addr} (hfa : mg "law" = some (.ref fa)) {kV dc pm cd ct : Value} {an : Option Addr} (hT : ∃ T : Tx K mg, T.d_law = PySem.W.fnOf "law" "law" (defArgs s_law) (defBody s_law) (defScope s_law) .none kV dc pm an cd ct) :
    ∃ fd : FuncData, (∀ (s : Shared) (v : Value), BindsTo s fd ⟨[v], []⟩ [("_law_script", v)]) ∧ ∀ base : Heap, K.In base → base.Ns mainGlobals mg → FnOk l.prog w K mg base CX0 5 fa fd ["_law_script"] (spLaw K) := by
  obtain ⟨T, e⟩ := hT
  have e2 := hfa.symm.trans T.g_law
  cases e2
  exact ⟨T.d_law, fun s v => by rw [e]; exact .of_eq rfl, fun base _ _ => ok_law T⟩
theorem all_of {l : PySem.W.OpenLaw} {w : World} {K : PySem.W.Frag} {h : Heap} {mg : Str → Option Value} {fa : Addr} (X : K.In h) (G : h.Ns mainGlobals mg) (hfa : mg "law" = some (.ref fa))
    {f1 : Addr} {od1 an1 : Option Addr} {sl1 : Array (Option Value)} {oc1 kV1 dc1 pm1 cd1 ct1 : Value} {f2 : Addr} {od2 an2 : Option Addr} {sl2 : Array (Option Value)} {oc2 kV2 dc2 pm2 cd2 ct2 : Value} {f3 : Addr} {od3 an3 : Option Addr} {sl3 : Array (Option Value)} {oc3 kV3 dc3 pm3 cd3 ct3 : Value} {f4 : Addr} {od4 an4 : Option Addr} {sl4 : Array (Option Value)} {oc4 kV4 dc4 pm4 cd4 ct4 : Value} {f5 : Addr} {od5 an5 : Option Addr} {sl5 : Array (Option Value)} {oc5 kV5 dc5 pm5 cd5 ct5 : Value} {f6 : Addr} {od6 an6 : Option Addr} {sl6 : Array (Option Value)} {oc6 kV6 dc6 pm6 cd6 ct6 : Value} {f7 : Addr} {od7 an7 : Option Addr} {sl7 : Array (Option Value)} {oc7 kV7 dc7 pm7 cd7 ct7 : Value} {f8 : Addr} {od8 an8 : Option Addr} {sl8 : Array (Option Value)} {oc8 kV8 dc8 pm8 cd8 ct8 : Value} {f9 : Addr} {od9 an9 : Option Addr} {sl9 : Array (Option Value)} {oc9 kV9 dc9 pm9 cd9 ct9 : Value} {f10 : Addr} {od10 an10 : Option Addr} {sl10 : Array (Option Value)} {oc10 kV10 dc10 pm10 cd10 ct10 : Value} {f11 : Addr} {od11 an11 : Option Addr} {sl11 : Array (Option Value)} {oc11 kV11 dc11 pm11 cd11 ct11 : Value} {f12 : Addr} {od12 an12 : Option Addr} {sl12 : Array (Option Value)} {oc12 kV12 dc12 pm12 cd12 ct12 : Value} {f13 : Addr} {od13 an13 : Option Addr} {sl13 : Array (Option Value)} {oc13 kV13 dc13 pm13 cd13 ct13 : Value} {f14 : Addr} {od14 an14 : Option Addr} {sl14 : Array (Option Value)} {oc14 kV14 dc14 pm14 cd14 ct14 : Value} {f15 : Addr} {od15 an15 : Option Addr} {sl15 : Array (Option Value)} {oc15 kV15 dc15 pm15 cd15 ct15 : Value} {t_MOST : Nat}
    (a1 : PySem.W.nsIn K mainGlobals "is_number" = some (some (.ref f1)))
    (l1 : K.lookup f1 = some ⟨oc1, od1, .func (PySem.W.fnOf "is_number" "is_number" (defArgs s_is_number) (defBody s_is_number) (defScope s_is_number) .none kV1 dc1 pm1 an1 cd1 ct1), sl1⟩)
    (e1 : PySem.W.codeIn K cd1 "is_number" = true)
    (k1 : PySem.W.keepIn K (.ref f1) = true)
    (a2 : PySem.W.nsIn K mainGlobals "asked_table" = some (some (.ref f2)))
    (l2 : K.lookup f2 = some ⟨oc2, od2, .func (PySem.W.fnOf "asked_table" "asked_table" (defArgs s_asked_table) (defBody s_asked_table) (defScope s_asked_table) .none kV2 dc2 pm2 an2 cd2 ct2), sl2⟩)
    (e2 : PySem.W.codeIn K cd2 "asked_table" = true)
    (k2 : PySem.W.keepIn K (.ref f2) = true)
    (a3 : PySem.W.nsIn K mainGlobals "widest" = some (some (.ref f3)))
    (l3 : K.lookup f3 = some ⟨oc3, od3, .func (PySem.W.fnOf "widest" "widest" (defArgs s_widest) (defBody s_widest) (defScope s_widest) .none kV3 dc3 pm3 an3 cd3 ct3), sl3⟩)
    (e3 : PySem.W.codeIn K cd3 "widest" = true)
    (k3 : PySem.W.keepIn K (.ref f3) = true)
    (a4 : PySem.W.nsIn K mainGlobals "strengths" = some (some (.ref f4)))
    (l4 : K.lookup f4 = some ⟨oc4, od4, .func (PySem.W.fnOf "strengths" "strengths" (defArgs s_strengths) (defBody s_strengths) (defScope s_strengths) .none kV4 dc4 pm4 an4 cd4 ct4), sl4⟩)
    (e4 : PySem.W.codeIn K cd4 "strengths" = true)
    (k4 : PySem.W.keepIn K (.ref f4) = true)
    (a5 : PySem.W.nsIn K mainGlobals "order" = some (some (.ref f5)))
    (l5 : K.lookup f5 = some ⟨oc5, od5, .func (PySem.W.fnOf "order" "order" (defArgs s_order) (defBody s_order) (defScope s_order) .none kV5 dc5 pm5 an5 cd5 ct5), sl5⟩)
    (e5 : PySem.W.codeIn K cd5 "order" = true)
    (k5 : PySem.W.keepIn K (.ref f5) = true)
    (a6 : PySem.W.nsIn K mainGlobals "_law_number" = some (some (.ref f6)))
    (l6 : K.lookup f6 = some ⟨oc6, od6, .func (PySem.W.fnOf "_law_number" "_law_number" (defArgs s_law_number) (defBody s_law_number) (defScope s_law_number) .none kV6 dc6 pm6 an6 cd6 ct6), sl6⟩)
    (e6 : PySem.W.codeIn K cd6 "_law_number" = true)
    (k6 : PySem.W.keepIn K (.ref f6) = true)
    (a7 : PySem.W.nsIn K mainGlobals "_law_table" = some (some (.ref f7)))
    (l7 : K.lookup f7 = some ⟨oc7, od7, .func (PySem.W.fnOf "_law_table" "_law_table" (defArgs s_law_table) (defBody s_law_table) (defScope s_law_table) .none kV7 dc7 pm7 an7 cd7 ct7), sl7⟩)
    (e7 : PySem.W.codeIn K cd7 "_law_table" = true)
    (k7 : PySem.W.keepIn K (.ref f7) = true)
    (a8 : PySem.W.nsIn K mainGlobals "_law_ballots" = some (some (.ref f8)))
    (l8 : K.lookup f8 = some ⟨oc8, od8, .func (PySem.W.fnOf "_law_ballots" "_law_ballots" (defArgs s_law_ballots) (defBody s_law_ballots) (defScope s_law_ballots) .none kV8 dc8 pm8 an8 cd8 ct8), sl8⟩)
    (e8 : PySem.W.codeIn K cd8 "_law_ballots" = true)
    (k8 : PySem.W.keepIn K (.ref f8) = true)
    (a9 : PySem.W.nsIn K mainGlobals "_law_count" = some (some (.ref f9)))
    (l9 : K.lookup f9 = some ⟨oc9, od9, .func (PySem.W.fnOf "_law_count" "_law_count" (defArgs s_law_count) (defBody s_law_count) (defScope s_law_count) .none kV9 dc9 pm9 an9 cd9 ct9), sl9⟩)
    (e9 : PySem.W.codeIn K cd9 "_law_count" = true)
    (k9 : PySem.W.keepIn K (.ref f9) = true)
    (a10 : PySem.W.nsIn K mainGlobals "_law_is_table" = some (some (.ref f10)))
    (l10 : K.lookup f10 = some ⟨oc10, od10, .func (PySem.W.fnOf "_law_is_table" "_law_is_table" (defArgs s_law_is_table) (defBody s_law_is_table) (defScope s_law_is_table) .none kV10 dc10 pm10 an10 cd10 ct10), sl10⟩)
    (e10 : PySem.W.codeIn K cd10 "_law_is_table" = true)
    (k10 : PySem.W.keepIn K (.ref f10) = true)
    (a11 : PySem.W.nsIn K mainGlobals "_law_reached" = some (some (.ref f11)))
    (l11 : K.lookup f11 = some ⟨oc11, od11, .func (PySem.W.fnOf "_law_reached" "_law_reached" (defArgs s_law_reached) (defBody s_law_reached) (defScope s_law_reached) .none kV11 dc11 pm11 an11 cd11 ct11), sl11⟩)
    (e11 : PySem.W.codeIn K cd11 "_law_reached" = true)
    (k11 : PySem.W.keepIn K (.ref f11) = true)
    (a12 : PySem.W.nsIn K mainGlobals "_law_widest" = some (some (.ref f12)))
    (l12 : K.lookup f12 = some ⟨oc12, od12, .func (PySem.W.fnOf "_law_widest" "_law_widest" (defArgs s_law_widest) (defBody s_law_widest) (defScope s_law_widest) .none kV12 dc12 pm12 an12 cd12 ct12), sl12⟩)
    (e12 : PySem.W.codeIn K cd12 "_law_widest" = true)
    (k12 : PySem.W.keepIn K (.ref f12) = true)
    (a13 : PySem.W.nsIn K mainGlobals "_law_strengths" = some (some (.ref f13)))
    (l13 : K.lookup f13 = some ⟨oc13, od13, .func (PySem.W.fnOf "_law_strengths" "_law_strengths" (defArgs s_law_strengths) (defBody s_law_strengths) (defScope s_law_strengths) .none kV13 dc13 pm13 an13 cd13 ct13), sl13⟩)
    (e13 : PySem.W.codeIn K cd13 "_law_strengths" = true)
    (k13 : PySem.W.keepIn K (.ref f13) = true)
    (a14 : PySem.W.nsIn K mainGlobals "_law_right" = some (some (.ref f14)))
    (l14 : K.lookup f14 = some ⟨oc14, od14, .func (PySem.W.fnOf "_law_right" "_law_right" (defArgs s_law_right) (defBody s_law_right) (defScope s_law_right) .none kV14 dc14 pm14 an14 cd14 ct14), sl14⟩)
    (e14 : PySem.W.codeIn K cd14 "_law_right" = true)
    (k14 : PySem.W.keepIn K (.ref f14) = true)
    (a15 : PySem.W.nsIn K mainGlobals "law" = some (some (.ref f15)))
    (l15 : K.lookup f15 = some ⟨oc15, od15, .func (PySem.W.fnOf "law" "law" (defArgs s_law) (defBody s_law) (defScope s_law) .none kV15 dc15 pm15 an15 cd15 ct15), sl15⟩)
    (e15 : PySem.W.codeIn K cd15 "law" = true)
    (k15 : PySem.W.keepIn K (.ref f15) = true)
    (a_MOST : PySem.W.nsIn K mainGlobals "MOST" = some (some (.int 20 t_MOST)))
    (z_all : PySem.W.nsIn K mainGlobals "all" = some none)
    (z_any : PySem.W.nsIn K mainGlobals "any" = some none)
    (z_bool : PySem.W.nsIn K mainGlobals "bool" = some none)
    (z_enumerate : PySem.W.nsIn K mainGlobals "enumerate" = some none)
    (z_int : PySem.W.nsIn K mainGlobals "int" = some none)
    (z_isinstance : PySem.W.nsIn K mainGlobals "isinstance" = some none)
    (z_len : PySem.W.nsIn K mainGlobals "len" = some none)
    (z_list : PySem.W.nsIn K mainGlobals "list" = some none)
    (z_max : PySem.W.nsIn K mainGlobals "max" = some none)
    (z_min : PySem.W.nsIn K mainGlobals "min" = some none)
    (z_range : PySem.W.nsIn K mainGlobals "range" = some none)
    (z_set : PySem.W.nsIn K mainGlobals "set" = some none)
    (z_sorted : PySem.W.nsIn K mainGlobals "sorted" = some none)
    (z_sum : PySem.W.nsIn K mainGlobals "sum" = some none) :
    ∃ fd : FuncData, (∀ (s : Shared) (v : Value), BindsTo s fd ⟨[v], []⟩ [("_law_script", v)]) ∧ ∀ base : Heap, K.In base → base.Ns mainGlobals mg → FnOk l.prog w K mg base CX0 5 fa fd ["_law_script"] (spLaw K) :=
  law_of hfa (tx_of X G a1 l1 e1 k1 a2 l2 e2 k2 a3 l3 e3 k3 a4 l4 e4 k4 a5 l5 e5 k5 a6 l6 e6 k6 a7 l7 e7 k7 a8 l8 e8 k8 a9 l9 e9 k9 a10 l10 e10 k10 a11 l11 e11 k11 a12 l12 e12 k12 a13 l13 e13 k13 a14 l14 e14 k14 a15 l15 e15 k15 a_MOST z_all z_any z_bool z_enumerate z_int z_isinstance z_len z_list z_max z_min z_range z_set z_sorted z_sum)
end Hc
open PySem PySem.W PyProof.Rows
set_option maxHeartbeats 0 in
theorem PySem.Challenge.cw_headcounts_k04_whole_strengths_holds : PySem.Challenge.rw_headcounts_k04_whole_strengths.Holds := by
  w_on; o_law; k_head; (case hw => w_witness2)
  k_fill
  refine L2.walk_ofB (l := PySem.Challenge.rw_headcounts_k04_whole_strengths) (n := 63) (k := 5) (x := "_law_script") (CX := fun _ => L2.CX0) (sp := fun w => Hc.spLaw _) rfl (by decide) rfl ⟨rfl, by decide, by decide⟩ (fun w h Y => PySem.W.kIn_of Y) ?F (fun _ _ a ns hl hb _ hS => ⟨a, ns, 1048576, rfl, hS, hl, fun z hz => Hc.big_of_bits (hb z hz), by decide, by decide, fun _ => rfl⟩) (fun _ _ _ _ _ h => h)
  case F =>
    intro w mg fa h KX G hmg
    refine' Hc.all_of KX G hmg ?a1 ?l1 ?e1 ?k1 ?a2 ?l2 ?e2 ?k2 ?a3 ?l3 ?e3 ?k3 ?a4 ?l4 ?e4 ?k4 ?a5 ?l5 ?e5 ?k5 ?a6 ?l6 ?e6 ?k6 ?a7 ?l7 ?e7 ?k7 ?a8 ?l8 ?e8 ?k8 ?a9 ?l9 ?e9 ?k9 ?a10 ?l10 ?e10 ?k10 ?a11 ?l11 ?e11 ?k11 ?a12 ?l12 ?e12 ?k12 ?a13 ?l13 ?e13 ?k13 ?a14 ?l14 ?e14 ?k14 ?a15 ?l15 ?e15 ?k15 ?a_MOST ?z_all ?z_any ?z_bool ?z_enumerate ?z_int ?z_isinstance ?z_len ?z_list ?z_max ?z_min ?z_range ?z_set ?z_sorted ?z_sum
    (case a1 => k_is); (case l1 => k_is); (case e1 => k_is); (case k1 => k_is); (case a2 => k_is); (case l2 => k_is); (case e2 => k_is); (case k2 => k_is); (case a3 => k_is); (case l3 => k_is); (case e3 => k_is); (case k3 => k_is); (case a4 => k_is); (case l4 => k_is); (case e4 => k_is); (case k4 => k_is); (case a5 => k_is); (case l5 => k_is); (case e5 => k_is); (case k5 => k_is); (case a6 => k_is); (case l6 => k_is); (case e6 => k_is); (case k6 => k_is); (case a7 => k_is); (case l7 => k_is); (case e7 => k_is); (case k7 => k_is); (case a8 => k_is); (case l8 => k_is); (case e8 => k_is); (case k8 => k_is); (case a9 => k_is); (case l9 => k_is); (case e9 => k_is); (case k9 => k_is); (case a10 => k_is); (case l10 => k_is); (case e10 => k_is); (case k10 => k_is); (case a11 => k_is); (case l11 => k_is); (case e11 => k_is); (case k11 => k_is); (case a12 => k_is); (case l12 => k_is); (case e12 => k_is); (case k12 => k_is); (case a13 => k_is); (case l13 => k_is); (case e13 => k_is); (case k13 => k_is); (case a14 => k_is); (case l14 => k_is); (case e14 => k_is); (case k14 => k_is); (case a15 => k_is); (case l15 => k_is); (case e15 => k_is); (case k15 => k_is); (case a_MOST => k_is); (case z_all => k_is); (case z_any => k_is); (case z_bool => k_is); (case z_enumerate => k_is); (case z_int => k_is); (case z_isinstance => k_is); (case z_len => k_is); (case z_list => k_is); (case z_max => k_is); (case z_min => k_is); (case z_range => k_is); (case z_set => k_is); (case z_sorted => k_is); (case z_sum => k_is)
