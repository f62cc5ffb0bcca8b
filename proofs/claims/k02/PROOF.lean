import PyProof.Rows.All
import Wide.All
import OpenK.AllK
import Wide.FinOn
import HandS.Base
import HandS.Call
import HandS.List
import HandS.Comp
import HandS.Ends
import HandS.Dict
import HandS.Iter
import HandS.Words
import HandS.WordsList
import HandS.Conv
import HandS.Wide
import HandS.Evl
import HandS.Zip
import HandS.EndBits
import HandS.Walk
import HandS.IsInst
import HandS.Style
import KE.RegKIsAll
import PySem.Challenge.RW_headcounts_k02_whole_told
set_option Elab.async false
set_option linter.all false
set_option maxRecDepth 100000
set_option maxHeartbeats 4000000
/-! Plain laws of counting: no program in sight. -/
namespace Hc

/-- what one pair (a ahead of b) adds to the cell (i, j) -/
def dlt (i j a b : Nat) : Int := (if a = i ∧ b = j then 1 else 0) - (if b = i ∧ a = j then 1 else 0)
def dsum (i j a : Nat) (l : List Nat) : Int := (l.map fun b => dlt i j a b).sum
def psum (i j : Nat) : List Nat → Int
  | [] => 0
  | a :: l => dsum i j a l + psum i j l
/-- the first p places taken as the one ahead -/
def psA (i j : Nat) : Nat → List Nat → Int
  | 0, _ => 0
  | _ + 1, [] => 0
  | p + 1, a :: l => dsum i j a l + psA i j p l
def cnt (bs : List (List Nat × Int)) (i j : Nat) : Int := (bs.map fun b => b.2 * psum i j b.1).sum

theorem dlt_swap (i j a b : Nat) : dlt i j b a = - dlt i j a b := by
  unfold dlt
  have e1 : (b = i ∧ a = j) ↔ (b = i ∧ a = j) := Iff.rfl
  by_cases h1 : a = i ∧ b = j <;> by_cases h2 : b = i ∧ a = j <;> simp [h1, h2] <;> omega
theorem dlt_neg (i j a b : Nat) : dlt j i a b = - dlt i j a b := by
  unfold dlt
  have e1 : (a = j ∧ b = i) ↔ (b = i ∧ a = j) := And.comm
  have e2 : (b = j ∧ a = i) ↔ (a = i ∧ b = j) := And.comm
  simp only [e1, e2]
  omega
theorem sum_append_int : ∀ (l m : List Int), (l ++ m).sum = l.sum + m.sum
  | [], m => by simp
  | a :: l, m => by rw [List.cons_append, List.sum_cons, List.sum_cons, sum_append_int l m]; omega
theorem dsum_append (i j a : Nat) (l m : List Nat) : dsum i j a (l ++ m) = dsum i j a l + dsum i j a m := by
  unfold dsum
  rw [List.map_append, sum_append_int]
theorem dsum_nil (i j a : Nat) : dsum i j a [] = 0 := rfl
theorem dsum_cons (i j a b : Nat) (l : List Nat) : dsum i j a (b :: l) = dlt i j a b + dsum i j a l := by
  unfold dsum
  rw [List.map_cons, List.sum_cons]
theorem dsum_one (i j a b : Nat) : dsum i j a [b] = dlt i j a b := by rw [dsum_cons, dsum_nil]; omega
theorem dsum_take_succ (i j a : Nat) (l : List Nat) (q : Nat) (x : Nat) (h : l[q]? = some x) : dsum i j a (l.take (q + 1)) = dsum i j a (l.take q) + dlt i j a x := by
  rw [List.take_add_one, h, dsum_append]
  show _ + dsum i j a [x] = _
  rw [dsum_one]
/-- the mirror image: those ahead of y -/
def esum (i j y : Nat) (l : List Nat) : Int := (l.map fun b => dlt i j b y).sum
theorem esum_append (i j a : Nat) (l m : List Nat) : esum i j a (l ++ m) = esum i j a l + esum i j a m := by
  unfold esum
  rw [List.map_append, sum_append_int]
theorem esum_cons (i j a b : Nat) (l : List Nat) : esum i j a (b :: l) = dlt i j b a + esum i j a l := by
  unfold esum
  rw [List.map_cons, List.sum_cons]
theorem esum_nil (i j a : Nat) : esum i j a [] = 0 := rfl
theorem esum_take_succ (i j a : Nat) (l : List Nat) (q : Nat) (x : Nat) (h : l[q]? = some x) : esum i j a (l.take (q + 1)) = esum i j a (l.take q) + dlt i j x a := by
  rw [List.take_add_one, h, esum_append]
  show _ + esum i j a [x] = _
  rw [esum_cons, esum_nil]
  omega
theorem esum_dsum (i j y : Nat) : ∀ l : List Nat, esum i j y l = - dsum i j y l
  | [] => rfl
  | a :: l => by rw [esum_cons, dsum_cons, esum_dsum i j y l, dlt_swap]; omega
theorem psum_snoc (i j y : Nat) : ∀ l : List Nat, psum i j (l ++ [y]) = psum i j l + esum i j y l
  | [] => by simp [psum, dsum, esum]
  | a :: l => by
    show dsum i j a (l ++ [y]) + psum i j (l ++ [y]) = dsum i j a l + psum i j l + esum i j y (a :: l)
    rw [psum_snoc i j y l, dsum_append, dsum_one, esum_cons]
    omega
theorem dsum_reverse (i j a : Nat) : ∀ l : List Nat, dsum i j a l.reverse = dsum i j a l
  | [] => rfl
  | b :: l => by rw [List.reverse_cons, dsum_append, dsum_reverse i j a l, dsum_one, dsum_cons]; omega
theorem psum_reverse (i j : Nat) : ∀ l : List Nat, psum i j l.reverse = - psum i j l
  | [] => rfl
  | a :: l => by
    rw [List.reverse_cons, psum_snoc, psum_reverse i j l, esum_dsum, dsum_reverse]
    show - psum i j l + - dsum i j a l = - (dsum i j a l + psum i j l)
    omega
theorem psum_swap (i j : Nat) : ∀ l : List Nat, psum j i l = - psum i j l
  | [] => rfl
  | a :: l => by
    show dsum j i a l + psum j i l = -(dsum i j a l + psum i j l)
    have e : dsum j i a l = - dsum i j a l := by
      induction l with
      | nil => rfl
      | cons b l ih => rw [dsum_cons, dsum_cons, ih, dlt_neg]; omega
    rw [e, psum_swap i j l]
    omega
theorem psA_succ (i j : Nat) : ∀ (p : Nat) (l : List Nat) (a : Nat), l[p]? = some a → psA i j (p + 1) l = psA i j p l + dsum i j a (l.drop (p + 1))
  | 0, [], _, h => by simp at h
  | 0, b :: l, a, h => by
    have e : b = a := by simpa using h
    subst e
    show dsum i j b l + psA i j 0 l = psA i j 0 (b :: l) + dsum i j b l
    show dsum i j b l + 0 = 0 + dsum i j b l
    omega
  | p + 1, [], _, h => by simp at h
  | p + 1, b :: l, a, h => by
    have h' : l[p]? = some a := by simpa using h
    show dsum i j b l + psA i j (p + 1) l = dsum i j b l + psA i j p l + dsum i j a (l.drop (p + 1))
    rw [psA_succ i j p l a h']
    omega
theorem psA_all (i j : Nat) : ∀ (l : List Nat), psA i j l.length l = psum i j l
  | [] => rfl
  | a :: l => by
    show dsum i j a l + psA i j l.length l = dsum i j a l + psum i j l
    rw [psA_all i j l]
/-- the first q places, each with those ahead of it -/
theorem psum_take_succ (i j : Nat) (l : List Nat) (q y : Nat) (h : l[q]? = some y) : psum i j (l.take (q + 1)) = psum i j (l.take q) + esum i j y (l.take q) := by
  rw [List.take_add_one, h]
  exact psum_snoc i j y (l.take q)

/-- a pair put into a table, two cells at once -/
theorem put_two (f : Nat → Nat → Int) (k m : Nat) (z : Int) (i j : Nat) : (if i = m ∧ j = k then (if m = k ∧ k = m then f k m + z else f m k) - z else if i = k ∧ j = m then f k m + z else f i j) = f i j + z * dlt i j k m := by
  unfold dlt
  by_cases h1 : i = m ∧ j = k
  · obtain ⟨rfl, rfl⟩ := h1
    by_cases h2 : i = j
    · subst h2
      simp
    · have h3 : ¬ j = i := fun e => h2 e.symm
      simp [h2, h3]
      omega
  · rw [if_neg h1]
    by_cases h2 : i = k ∧ j = m
    · obtain ⟨rfl, rfl⟩ := h2
      have h3 : ¬ (i = j) := fun e => h1 ⟨e, e.symm⟩
      have h4 : ¬ (j = i) := fun e => h3 e.symm
      simp [h3, h4]
    · have h3 : ¬ (k = i ∧ m = j) := fun e => h2 ⟨e.1.symm, e.2.symm⟩
      have h4 : ¬ (m = i ∧ k = j) := fun e => h1 ⟨e.1.symm, e.2.symm⟩
      rw [if_neg h2, if_neg h3, if_neg h4]
      simp
theorem cnt_nil (i j : Nat) : cnt [] i j = 0 := rfl
theorem cnt_append (bs cs : List (List Nat × Int)) (i j : Nat) : cnt (bs ++ cs) i j = cnt bs i j + cnt cs i j := by
  unfold cnt
  rw [List.map_append, sum_append_int]
theorem cnt_take_succ (bs : List (List Nat × Int)) (k : Nat) (b : List Nat × Int) (h : bs[k]? = some b) (i j : Nat) : cnt (bs.take (k + 1)) i j = cnt (bs.take k) i j + b.2 * psum i j b.1 := by
  rw [List.take_add_one, h, cnt_append]
  show _ + (b.2 * psum i j b.1 + 0) = _
  omega
theorem cnt_reverse (bs : List (List Nat × Int)) (i j : Nat) : cnt (bs.map fun b => (b.1.reverse, b.2)) i j = - cnt bs i j := by
  induction bs with
  | nil => rfl
  | cons b bs ih =>
    have e1 : cnt (b :: bs) i j = b.2 * psum i j b.1 + cnt bs i j := by unfold cnt; rw [List.map_cons, List.sum_cons]
    have e2 : cnt ((b :: bs).map fun b => (b.1.reverse, b.2)) i j = b.2 * psum i j b.1.reverse + cnt (bs.map fun b => (b.1.reverse, b.2)) i j := by unfold cnt; rw [List.map_cons, List.map_cons, List.sum_cons]
    rw [e1, e2, ih, psum_reverse, Int.mul_neg]
    omega
theorem cnt_swap (bs : List (List Nat × Int)) (i j : Nat) : cnt bs j i = - cnt bs i j := by
  induction bs with
  | nil => rfl
  | cons b bs ih =>
    have e1 : ∀ i j, cnt (b :: bs) i j = b.2 * psum i j b.1 + cnt bs i j := fun i j => by unfold cnt; rw [List.map_cons, List.sum_cons]
    rw [e1, e1, ih, psum_swap, Int.mul_neg]
    omega
theorem cnt_parts (bs : List (List Nat × Int)) (k i j : Nat) : cnt (bs.take k) i j + cnt (bs.drop k) i j = cnt bs i j := by
  rw [← cnt_append, List.take_append_drop]
end Hc

namespace Hc
open PySem PySem.Spec PyProof.Rows L2 Evl

theorem bt_int : bootBuiltins "int" = some (.type "int") := PyProof.Rows.boot_int
theorem bt_bool : bootBuiltins "bool" = some (.type "bool") := PyProof.Rows.boot_bool
theorem bt_list : bootBuiltins "list" = some (.type "list") := PyProof.Rows.boot_list
theorem bt_tuple : bootBuiltins "tuple" = some (.type "tuple") := PyProof.Rows.boot_tuple
theorem bt_set : bootBuiltins "set" = some (.type "set") := PyProof.Rows.boot_set
theorem bt_str : bootBuiltins "str" = some (.type "str") := PyProof.Rows.boot_str
/-- products of any two ints that the model multiplies -/
theorem op_mulG {X : Cx} : OpR X (binaryOp .Mult) (rI (fun i j => IntMulOk i j) fun i j => .int (i * j)) := opI fun _ _ _ _ _ _ _ hc q => mul_int q hc

/-! ### lists of ints, rows -/
def iv (ns : List Int) : List V := ns.map V.int
def nv (ks : List Nat) : List V := ks.map fun (k : Nat) => V.int (k : Int)
def rowV (n : Nat) (g : Nat → Int) : List V := (List.range n).map fun j => V.int (g j)
theorem nv_iv (ks : List Nat) : nv ks = iv (ks.map fun (k : Nat) => (k : Int)) := by
  unfold nv iv
  rw [List.map_map]
  rfl
theorem iv_length (ns : List Int) : (iv ns).length = ns.length := by unfold iv; rw [List.length_map]
theorem nv_length (ks : List Nat) : (nv ks).length = ks.length := by unfold nv; rw [List.length_map]
theorem rowV_length (n : Nat) (g : Nat → Int) : (rowV n g).length = n := by
  unfold rowV
  rw [List.length_map, List.length_range]
theorem rowV_get {n j : Nat} {g : Nat → Int} (h : j < n) : (rowV n g)[j]? = some (.int (g j)) := by
  unfold rowV
  rw [List.getElem?_map, List.getElem?_range h]
  rfl
theorem rowV_iv (n : Nat) (g : Nat → Int) : rowV n g = iv ((List.range n).map g) := by
  unfold rowV iv
  rw [List.map_map]
  rfl
theorem rowV_congr {n : Nat} {g g' : Nat → Int} (h : ∀ j, j < n → g j = g' j) : rowV n g = rowV n g' := by
  unfold rowV
  refine List.map_congr_left fun j hj => ?_
  rw [h j (List.mem_range.mp hj)]
theorem rowV_set {n b : Nat} {g : Nat → Int} {v : Int} : (rowV n g).set b (.int v) = rowV n (fun j => if j = b then v else g j) := by
  apply List.ext_getElem?
  intro j
  rw [List.getElem?_set]
  by_cases hj : j < n
  · rw [rowV_length, rowV_get (g := fun j => if j = b then v else g j) hj]
    by_cases e : b = j
    · subst e
      rw [if_pos rfl, if_pos hj, if_pos rfl]
    · rw [if_neg e, rowV_get hj, if_neg (fun q => e q.symm)]
  · have e1 : (rowV n g)[j]? = none := List.getElem?_eq_none (by rw [rowV_length]; omega)
    have e2 : (rowV n (fun j => if j = b then v else g j))[j]? = none := List.getElem?_eq_none (by rw [rowV_length]; omega)
    rw [e1, e2, rowV_length]
    split
    · split
      · omega
      · rfl
    · rfl
theorem nv_get {ks : List Nat} {i : Nat} {x : V} (h : (nv ks)[i]? = some x) : ∃ k, ks[i]? = some k ∧ x = .int (k : Int) := by
  unfold nv at h
  rw [List.getElem?_map] at h
  cases e : ks[i]? with
  | none => rw [e] at h; cases h
  | some k => rw [e] at h; exact ⟨k, rfl, (Option.some.inj h).symm⟩
theorem iv_get {ks : List Int} {i : Nat} {x : V} (h : (iv ks)[i]? = some x) : ∃ k, ks[i]? = some k ∧ x = .int k := by
  unfold iv at h
  rw [List.getElem?_map] at h
  cases e : ks[i]? with
  | none => rw [e] at h; cases h
  | some k => rw [e] at h; exact ⟨k, rfl, (Option.some.inj h).symm⟩
theorem sq_mono {K : PySem.W.Frag} {H H' : Hp} {a : Addr} {xs : List V} (e : Ex H H') (h : SqL K H a xs) : SqL K H' a xs := ex_l e h
theorem iv_flat (ns : List Int) : (iv ns).all flatV = true := by
  unfold iv
  rw [List.all_map]
  exact List.all_eq_true.mpr fun _ _ => rfl

/-! ### cuts -/
theorem cut_from (xs : List V) (k : Nat) : cutV xs (some (k : Int)) none = xs.drop k := by
  unfold cutV
  rw [HT.sIx_nat, HT.sIx_none]
  by_cases h : k ≤ xs.length
  · rw [Nat.min_eq_left h]
    exact List.take_of_length_le (by rw [List.length_drop]; omega)
  · rw [Nat.min_eq_right (by omega), List.drop_length, List.drop_of_length_le (by omega)]
    simp
theorem cut_to (xs : List V) (k : Nat) : cutV xs none (some (k : Int)) = xs.take k := by
  unfold cutV
  rw [HT.sIx_nat, HT.sIx_none]
  show (xs.drop 0).take (min k xs.length - 0) = xs.take k
  rw [List.drop_zero, Nat.sub_zero]
  by_cases h : k ≤ xs.length
  · rw [Nat.min_eq_left h]
  · rw [Nat.min_eq_right (by omega), List.take_length, List.take_of_length_le (by omega)]
theorem cut_m1 (xs : List V) : cutV xs none (some (-1)) = xs.dropLast := by
  unfold cutV
  rw [HT.sIx_none]
  show (xs.drop 0).take ((if (-1 : Int) < 0 then ((-1 : Int) + (xs.length : Int)).toNat else min (-1 : Int).toNat xs.length) - 0) = xs.dropLast
  rw [if_pos (by omega), List.drop_zero, Nat.sub_zero, List.dropLast_eq_take]
  congr 1
  omega

/-! ### tables -/
structure Tab (H0 H : Hp) (t : Addr) (rs : List Addr) (n : Nat) (f : Nat → Nat → Int) : Prop where
  len : rs.length = n
  top : H t = some (.lst (rs.map V.ref))
  row : ∀ i r, rs[i]? = some r → H r = some (.lst (rowV n (f i)))
  nd : rs.Nodup
  ft : H0 t = none
  fr : ∀ r, r ∈ rs → H0 r = none
def TabR (K : PySem.W.Frag) (H : Hp) (v : V) (n : Nat) (f : Nat → Nat → Int) : Prop :=
  ∃ (t : Addr) (rs : List Addr), v = V.ref t ∧ rs.length = n ∧ SqL K H t (rs.map V.ref) ∧ ∀ i r, rs[i]? = some r → SqL K H r (rowV n (f i))
section
variable {K : PySem.W.Frag} {H0 H H' : Hp} {t : Addr} {rs : List Addr} {n : Nat} {f f' : Nat → Nat → Int} {v : V}
theorem Tab.notop (T : Tab H0 H t rs n f) : t ∉ rs := fun h => by
  obtain ⟨i, hi, e⟩ := List.mem_iff_getElem.mp h
  have e1 : rs[i]? = some t := by rw [List.getElem?_eq_getElem hi, e]
  have h1 := T.row i t e1
  rw [T.top] at h1
  have h2 : rs.map V.ref = rowV n (f i) := by injection Option.some.inj h1
  have h3 : (rs.map V.ref)[i]? = (rowV n (f i))[i]? := by rw [h2]
  rw [List.getElem?_map, e1, rowV_get (by rw [← T.len]; exact hi)] at h3
  injection h3 with h4
  cases h4
theorem Tab.mono (T : Tab H0 H t rs n f) (e : Ex H H') : Tab H0 H' t rs n f :=
  ⟨T.len, e _ _ T.top, fun i r h => e _ _ (T.row i r h), T.nd, T.ft, T.fr⟩
theorem Tab.congr (T : Tab H0 H t rs n f) (h : ∀ i j, i < n → j < n → f i j = f' i j) : Tab H0 H t rs n f' :=
  ⟨T.len, T.top, fun i r e => by
    have hi : i < n := by rw [← T.len]; exact (List.getElem?_eq_some_iff.mp e).1
    rw [← rowV_congr (fun j hj => h i j hi hj)]
    exact T.row i r e, T.nd, T.ft, T.fr⟩
theorem Tab.base {Hb : Hp} (T : Tab H0 H t rs n f) (e : Ex Hb H0) : Tab Hb H t rs n f :=
  ⟨T.len, T.top, T.row, T.nd, fresh_back e T.ft, fun r h => fresh_back e (T.fr r h)⟩
theorem Tab.at_ {i : Nat} (T : Tab H0 H t rs n f) (h : i < n) : ∃ r, rs[i]? = some r ∧ r ∈ rs ∧ (rs.map V.ref)[i]? = some (V.ref r) ∧ H r = some (.lst (rowV n (f i))) := by
  have hi : i < rs.length := by rw [T.len]; exact h
  refine ⟨rs[i], List.getElem?_eq_getElem hi, List.getElem_mem hi, ?_, T.row i _ (List.getElem?_eq_getElem hi)⟩
  rw [List.getElem?_map, List.getElem?_eq_getElem hi]
  rfl
theorem nodup_at {α : Type} {l : List α} (h : l.Nodup) {i j : Nat} {x : α} (a : l[i]? = some x) (b : l[j]? = some x) : i = j := nd_ix h a b
/-- one cell is set -/
theorem Tab.put {a b : Nat} {r : Addr} {z : Int} (T : Tab H0 H t rs n f) (hr : rs[a]? = some r) : Tab H0 (upd H r (.lst ((rowV n (f a)).set b (.int z)))) t rs n (fun i j => if i = a ∧ j = b then z else f i j) := by
  have hm : r ∈ rs := List.mem_of_getElem? hr
  have nt : t ≠ r := fun e => T.notop (e ▸ hm)
  refine ⟨T.len, by rw [upd_ne nt]; exact T.top, fun i r' h => ?_, T.nd, T.ft, T.fr⟩
  by_cases e : r' = r
  · subst e
    have ei : i = a := nd_ix T.nd h hr
    subst ei
    rw [upd_same, rowV_set]
    congr 2
    refine rowV_congr fun j _ => ?_
    by_cases ej : j = b
    · rw [if_pos ej, if_pos ⟨rfl, ej⟩]
    · rw [if_neg ej, if_neg (fun q => ej q.2)]
  · rw [upd_ne e, T.row i r' h]
    congr 2
    refine rowV_congr fun j _ => ?_
    have ei : i ≠ a := fun q => e (by subst q; rw [h] at hr; exact Option.some.inj hr)
    rw [if_neg (fun q => ei q.1)]
/-- what is older stands when a row is written -/
theorem Tab.exMut {r : Addr} {o : HO} (T : Tab H0 H t rs n f) (e : Ex H0 H) (hr : r ∈ rs) : Ex H0 (upd H r o) := e.mut (T.fr r hr)
theorem Tab.rd (T : Tab H0 H t rs n f) : TabR K H (.ref t) n f := ⟨t, rs, rfl, T.len, sq_of T.top, fun i r h => sq_of (T.row i r h)⟩
theorem TabR.mono (T : TabR K H v n f) (e : Ex H H') : TabR K H' v n f := by
  obtain ⟨t, rs, h1, h2, h3, h4⟩ := T
  exact ⟨t, rs, h1, h2, ex_l e h3, fun i r h => ex_l e (h4 i r h)⟩
theorem TabR.congr (T : TabR K H v n f) (h : ∀ i j, i < n → j < n → f i j = f' i j) : TabR K H v n f' := by
  obtain ⟨t, rs, h1, h2, h3, h4⟩ := T
  refine ⟨t, rs, h1, h2, h3, fun i r e => ?_⟩
  have hi : i < n := by rw [← h2]; exact (List.getElem?_eq_some_iff.mp e).1
  rw [← rowV_congr (fun j hj => h i j hi hj)]
  exact h4 i r e
theorem TabR.at_ (T : TabR K H v n f) : ∃ (t : Addr) (xs : List V), v = .ref t ∧ SqL K H t xs ∧ xs.length = n ∧ ∀ i, i < n → ∃ r, xs[i]? = some (.ref r) ∧ SqL K H r (rowV n (f i)) := by
  obtain ⟨t, rs, h1, h2, h3, h4⟩ := T
  refine ⟨t, _, h1, h3, by rw [List.length_map]; exact h2, fun i hi => ?_⟩
  have hi' : i < rs.length := by omega
  refine ⟨rs[i], ?_, h4 i _ (List.getElem?_eq_getElem hi')⟩
  rw [List.getElem?_map, List.getElem?_eq_getElem hi']
  rfl
end

/-! ### deep data -/
def dRow (n : Nat) (g : Nat → Int) : PyData := .list ((List.range n).map fun j => .int (g j))
def dTab (n : Nat) (f : Nat → Nat → Int) : PyData := .list ((List.range n).map fun i => dRow n (f i))
def dBal (b : List Nat × Int) : PyData := .tuple [.list (b.1.map fun (k : Nat) => .int (k : Int)), .int b.2]
def dBals (bs : List (List Nat × Int)) : PyData := .list (bs.map dBal)
theorem dpAll_of {K : PySem.W.Frag} {H : Hp} : ∀ {xs : List V} {ds : List PyData}, xs.length = ds.length → (∀ (i : Nat) (x : V) (d : PyData), xs[i]? = some x → ds[i]? = some d → Dp K H x d) → DpAll K H xs ds
  | [], [], _, _ => .nil
  | x :: xs, d :: ds, hl, h => .cons (h 0 x d rfl rfl) (dpAll_of (by simpa using hl) fun i y e hy he => h (i + 1) y e (by simpa using hy) (by simpa using he))
  | [], _ :: _, hl, _ => by simp at hl
  | _ :: _, [], hl, _ => by simp at hl
theorem dpAll_ints {K : PySem.W.Frag} {H : Hp} : ∀ (ns : List Int), DpAll K H (iv ns) (ns.map PyData.int)
  | [] => .nil
  | n :: ns => .cons (.int n) (dpAll_ints ns)
theorem dp_ints {K : PySem.W.Frag} {H : Hp} {a : Addr} {ns : List Int} (h : SqL K H a (iv ns)) : Dp K H (.ref a) (.list (ns.map PyData.int)) := .lst h (dpAll_ints ns)
theorem dp_row {K : PySem.W.Frag} {H : Hp} {a : Addr} {n : Nat} {g : Nat → Int} (h : SqL K H a (rowV n g)) : Dp K H (.ref a) (dRow n g) := by
  rw [rowV_iv] at h
  have e := dp_ints h
  rw [List.map_map] at e
  exact e
theorem TabR.dp {K : PySem.W.Frag} {H : Hp} {v : V} {n : Nat} {f : Nat → Nat → Int} (T : TabR K H v n f) : Dp K H v (dTab n f) := by
  obtain ⟨t, rs, rfl, h2, h3, h4⟩ := T
  refine .lst h3 (dpAll_of (by rw [List.length_map, List.length_map, List.length_range, h2]) fun i x d hx hd => ?_)
  rw [List.getElem?_map] at hx hd
  cases e : rs[i]? with
  | none => rw [e] at hx; cases hx
  | some r =>
    rw [e] at hx
    have hi : i < n := by rw [← h2]; exact (List.getElem?_eq_some_iff.mp e).1
    rw [List.getElem?_range hi] at hd
    cases hx
    cases hd
    exact dp_row (h4 i r e)
theorem lay_all : ∀ (ds : List PyData), (∀ d ∈ ds, d.canLay0 = true) → PyData.canLayAll0 ds = true
  | [], _ => by simp [PyData.canLayAll0]
  | d :: ds, h => by
    rw [PyData.canLayAll0, h d (List.mem_cons_self ..), lay_all ds fun e he => h e (List.mem_cons_of_mem _ he)]
    rfl
theorem lay_list (ds : List PyData) (h : ∀ d ∈ ds, d.canLay0 = true) : (PyData.list ds).canLay0 = true := by
  rw [PyData.canLay0]
  exact lay_all ds h
theorem lay_tup (ds : List PyData) (h : ∀ d ∈ ds, d.canLay0 = true) : (PyData.tuple ds).canLay0 = true := by
  rw [PyData.canLay0]
  exact lay_all ds h
theorem lay_int (i : Int) : (PyData.int i).canLay0 = true := by simp [PyData.canLay0]
theorem lay_row (n : Nat) (g : Nat → Int) : (dRow n g).canLay0 = true := lay_list _ fun d hd => by
  obtain ⟨j, _, rfl⟩ := List.mem_map.mp hd
  exact lay_int _
theorem lay_tab (n : Nat) (f : Nat → Nat → Int) : (dTab n f).canLay0 = true := lay_list _ fun d hd => by
  obtain ⟨j, _, rfl⟩ := List.mem_map.mp hd
  exact lay_row _ _
theorem lay_bal (b : List Nat × Int) : (dBal b).canLay0 = true := lay_tup _ fun d hd => by
  rcases List.mem_cons.mp hd with rfl | hd
  · refine lay_list _ fun e he => ?_
    obtain ⟨j, _, rfl⟩ := List.mem_map.mp he
    exact lay_int _
  · rcases List.mem_cons.mp hd with rfl | hd
    · exact lay_int _
    · cases hd
theorem lay_bals (bs : List (List Nat × Int)) : (dBals bs).canLay0 = true := lay_list _ fun d hd => by
  obtain ⟨b, _, rfl⟩ := List.mem_map.mp hd
  exact lay_bal _
end Hc

namespace Hc
open PySem PySem.Spec PyProof.Rows L2 Evl

theorem depth_all : ∀ (ds : List PyData) (k : Nat), (∀ d ∈ ds, d.depth ≤ k) → PyData.depthAll ds ≤ k
  | [], k, _ => by rw [PyData.depthAll]; exact Nat.zero_le _
  | d :: ds, k, h => by
    rw [PyData.depthAll]
    exact Nat.max_le.mpr ⟨h d (List.mem_cons_self ..), depth_all ds k fun e he => h e (List.mem_cons_of_mem _ he)⟩
theorem depth_list {ds : List PyData} {k : Nat} (h : ∀ d ∈ ds, d.depth ≤ k) : (PyData.list ds).depth ≤ k + 1 := by
  rw [PyData.depth]
  exact Nat.succ_le_succ (depth_all ds k h)
theorem depth_tup {ds : List PyData} {k : Nat} (h : ∀ d ∈ ds, d.depth ≤ k) : (PyData.tuple ds).depth ≤ k + 1 := by
  rw [PyData.depth]
  exact Nat.succ_le_succ (depth_all ds k h)
theorem depth_int (i : Int) : (PyData.int i).depth ≤ 0 := by rw [PyData.depth]; exact Nat.le_refl _
theorem shaped_of {d : PyData} {k : Nat} (h : d.canLay0 = true) (hk : d.depth ≤ k) (h6 : k ≤ 64) : SeqAt.shaped d = true := by
  unfold SeqAt.shaped
  rw [h, decide_eq_true (Nat.le_trans hk h6)]
  rfl
theorem depth_ints (ns : List Int) : (PyData.list (ns.map PyData.int)).depth ≤ 1 := depth_list fun d hd => by
  obtain ⟨j, _, rfl⟩ := List.mem_map.mp hd
  exact depth_int _
theorem shaped_ints (ns : List Int) : SeqAt.shaped (.list (ns.map PyData.int)) = true := shaped_of (lay_list _ fun d hd => by
  obtain ⟨j, _, rfl⟩ := List.mem_map.mp hd
  exact lay_int _) (depth_ints ns) (by decide)
theorem depth_row (n : Nat) (g : Nat → Int) : (dRow n g).depth ≤ 1 := depth_list fun d hd => by
  obtain ⟨j, _, rfl⟩ := List.mem_map.mp hd
  exact depth_int _
theorem shaped_row (n : Nat) (g : Nat → Int) : SeqAt.shaped (dRow n g) = true := shaped_of (lay_row n g) (depth_row n g) (by decide)
theorem depth_tab (n : Nat) (f : Nat → Nat → Int) : (dTab n f).depth ≤ 2 := depth_list fun d hd => by
  obtain ⟨j, _, rfl⟩ := List.mem_map.mp hd
  exact depth_row _ _
theorem shaped_tab (n : Nat) (f : Nat → Nat → Int) : SeqAt.shaped (dTab n f) = true := shaped_of (lay_tab n f) (depth_tab n f) (by decide)
theorem depth_bal (b : List Nat × Int) : (dBal b).depth ≤ 2 := depth_tup fun d hd => by
  rcases List.mem_cons.mp hd with rfl | hd
  · refine depth_list fun e he => ?_
    obtain ⟨j, _, rfl⟩ := List.mem_map.mp he
    exact depth_int _
  · rcases List.mem_cons.mp hd with rfl | hd
    · exact Nat.le_trans (depth_int _) (Nat.zero_le _)
    · cases hd
theorem shaped_bals (bs : List (List Nat × Int)) : SeqAt.shaped (dBals bs) = true := shaped_of (lay_bals bs) (depth_list fun d hd => by
  obtain ⟨b, _, rfl⟩ := List.mem_map.mp hd
  exact depth_bal b) (by decide)
theorem dTab_congr {n : Nat} {f g : Nat → Nat → Int} (h : ∀ i j, i < n → j < n → f i j = g i j) : dTab n f = dTab n g := by
  unfold dTab dRow
  congr 1
  refine List.map_congr_left fun i hi => ?_
  congr 1
  refine List.map_congr_left fun j hj => ?_
  rw [h i j (List.mem_range.mp hi) (List.mem_range.mp hj)]
theorem eqv_tab {n : Nat} {f g : Nat → Nat → Int} (h : ∀ i j, i < n → j < n → f i j = g i j) : PyData.eqv (dTab n f) (dTab n g) = true := by
  rw [dTab_congr h]
  exact SeqAt.eqv_refl _ (lay_tab n g)

/-! ### ballots -/
theorem Paired.get {α β : Type} {F : α → β → Prop} : ∀ {l : List α} {m : List β} {i : Nat} {x : α}, Paired F l m → l[i]? = some x → ∃ y, m[i]? = some y ∧ F x y
  | _, _, _, _, .nil, h => by simp at h
  | _, _, 0, _, .cons r _, h => by
    cases (show some _ = some _ from h)
    exact ⟨_, rfl, r⟩
  | _, _, i + 1, x, .cons _ t, h => by
    obtain ⟨y, h1, h2⟩ := Paired.get (i := i) (x := x) t (by simpa using h)
    exact ⟨y, by simpa using h1, h2⟩
theorem Paired.take {α β : Type} {F : α → β → Prop} : ∀ {l : List α} {m : List β} (k : Nat), Paired F l m → Paired F (l.take k) (m.take k)
  | _, _, 0, _ => .nil
  | _, _, _ + 1, .nil => .nil
  | _, _, k + 1, .cons r t => .cons r (Paired.take k t)
theorem Paired.drop {α β : Type} {F : α → β → Prop} : ∀ {l : List α} {m : List β} (k : Nat), Paired F l m → Paired F (l.drop k) (m.drop k)
  | _, _, 0, r => r
  | _, _, _ + 1, .nil => .nil
  | _, _, k + 1, .cons _ t => Paired.drop k t
theorem Paired.append {α β : Type} {F : α → β → Prop} : ∀ {l l' : List α} {m m' : List β}, Paired F l m → Paired F l' m' → Paired F (l ++ l') (m ++ m')
  | _, _, _, _, .nil, s => s
  | _, _, _, _, .cons r t, s => .cons r (Paired.append t s)
theorem Paired.len {α β : Type} {F : α → β → Prop} : ∀ {l : List α} {m : List β}, Paired F l m → l.length = m.length
  | _, _, .nil => rfl
  | _, _, .cons _ t => by rw [List.length_cons, List.length_cons, Paired.len t]
def BalR (K : PySem.W.Frag) (H : Hp) (x : V) (b : List Nat × Int) : Prop := ∃ (t l : Addr), x = .ref t ∧ SqT K H t [.ref l, .int b.2] ∧ SqL K H l (nv b.1)
def BalsR (K : PySem.W.Frag) (H : Hp) (v : V) (bs : List (List Nat × Int)) : Prop := ∃ (a : Addr) (xs : List V), v = .ref a ∧ SqL K H a xs ∧ Paired (BalR K H) xs bs
section
variable {K : PySem.W.Frag} {H H' : Hp} {v x : V} {bs : List (List Nat × Int)} {b : List Nat × Int}
theorem BalR.mono (h : BalR K H x b) (e : Ex H H') : BalR K H' x b := by
  obtain ⟨t, l, h1, h2, h3⟩ := h
  exact ⟨t, l, h1, ex_t e h2, ex_l e h3⟩
theorem BalsR.mono (h : BalsR K H v bs) (e : Ex H H') : BalsR K H' v bs := by
  obtain ⟨a, xs, h1, h2, h3⟩ := h
  exact ⟨a, xs, h1, ex_l e h2, Paired.mapP h3 fun _ _ q => q.mono e⟩
theorem BalR.dp (h : BalR K H x b) : Dp K H x (dBal b) := by
  obtain ⟨t, l, rfl, h2, h3⟩ := h
  refine .tup h2 (.cons ?_ (.cons (.int _) .nil))
  rw [nv_iv] at h3
  have e := dp_ints h3
  rw [List.map_map] at e
  exact e
theorem BalsR.dp (h : BalsR K H v bs) : Dp K H v (dBals bs) := by
  obtain ⟨a, xs, rfl, h2, h3⟩ := h
  refine .lst h2 (dpAll_of (by rw [List.length_map]; exact Paired.len h3) fun i x d hx hd => ?_)
  obtain ⟨b, hb, r⟩ := Paired.get h3 hx
  rw [List.getElem?_map, hb] at hd
  cases hd
  exact r.dp
end

/-! ### comprehensions -/
/-- all but D stands -/
def ExB (D : Addr) (H H' : Hp) : Prop := ∀ a o, a ≠ D → H a = some o → H' a = some o
theorem Ex.exB {D : Addr} {H H' : Hp} (e : Ex H H') : ExB D H H' := fun a o _ h => e a o h
theorem exB_upd {D : Addr} {H : Hp} {o : HO} : ExB D H (upd H D o) := fun a u n h => by rw [upd_ne n]; exact h
section
variable {J : It} {n : Nat} {G : Hp → Prop} {Y : Nat → Hp → V → Hp → Prop} {g : TG} {tt : TT} {te : TE} {vs : List Nat} {σ : L2.St} {H1 : Hp} {D : Addr} {Qd : Hp → Prop}
/-- every turn gives one item; what is known of the items so far -/
theorem lc_acc (w : Walk J n G Y) (hD : H1 D = none) (hn : n ≤ 100000) (hG : ∀ H, Ex H1 H → G H) (I : List V → Hp → Prop) (hI : ∀ ys Ha Hb, I ys Ha → ExB D Ha Hb → I ys Hb) (h0 : I [] (upd H1 D (.lst [])))
    (hs : ∀ (i : Nat) (x : V) (H H' : Hp) (ys : List V), i < n → Ex H1 H → H D = some (.lst ys) → ys.length = i → I ys H → Y i H x H' → ∀ Qc : VK, (∀ y H4, Ex H H4 → I (ys ++ [y]) H4 → Qc y H4) → g x (wipe σ vs) H' fun σ2 H2 => wipe σ2 vs = wipe σ vs ∧ te σ2 H2 Qc)
    (hd : ∀ H ys, Ex H1 H → H D = some (.lst ys) → ys.length = n → I ys H → Qd H) :
    ∃ W : Nat → Nat → Hp → Prop, (∃ m, W 0 m (upd H1 D (.lst []))) ∧ ∀ i m H, W i m H → (J.stop i H ∧ Qd H) ∨ (J.go i H ∧ ∃ Nx : Hp → Prop, (∀ H', Nx H' → ∃ m', m' < m ∧ W (i + 1) m' H') ∧ ∀ x H', J.yld i H x H' → g x (wipe σ vs) H' fun σ2 H2 => wipe σ2 vs = wipe σ vs ∧ tYes σ2 H2 fun b H3 => if b = true then te σ2 H3 fun y H4 => ∃ acc, H4 D = some (.lst acc) ∧ acc.length < sizeLine ∧ Nx (upd H4 D (.lst (acc ++ [y]))) else Nx H3) := by
  refine lc_it w (fun i H => ∃ ys, Ex H1 H ∧ H D = some (.lst ys) ∧ ys.length = i ∧ I ys H) ⟨[], Ex.new hD, upd_same, rfl, h0⟩ (fun i H _ ⟨_, e, _⟩ => hG H e) ?_ (fun H ⟨ys, e, h1, h2, h3⟩ => hd H ys e h1 h2 h3)
  rintro i x H H' hi ⟨ys, e, h1, h2, h3⟩ hy
  exact hs i x H H' ys hi e h1 h2 h3 hy _ fun y H4 e4 h5 => ⟨ys, e4 _ _ h1, sz_lt (by omega), ys ++ [y], (e.trans e4).mut hD, upd_same, by rw [List.length_append, h2]; rfl, hI _ _ _ h5 exB_upd⟩
/-- items by value -/
theorem lc_vals (w : Walk J n G Y) (hD : H1 D = none) (hn : n ≤ 100000) (hG : ∀ H, Ex H1 H → G H) (v : Nat → V)
    (hs : ∀ (i : Nat) (x : V) (H H' : Hp), i < n → Ex H1 H → Y i H x H' → ∀ Qc : VK, (∀ H4, Ex H H4 → Qc (v i) H4) → g x (wipe σ vs) H' fun σ2 H2 => wipe σ2 vs = wipe σ vs ∧ te σ2 H2 Qc)
    (hd : ∀ H, Ex H1 H → H D = some (.lst ((List.range n).map v)) → Qd H) :
    ∃ W : Nat → Nat → Hp → Prop, (∃ m, W 0 m (upd H1 D (.lst []))) ∧ ∀ i m H, W i m H → (J.stop i H ∧ Qd H) ∨ (J.go i H ∧ ∃ Nx : Hp → Prop, (∀ H', Nx H' → ∃ m', m' < m ∧ W (i + 1) m' H') ∧ ∀ x H', J.yld i H x H' → g x (wipe σ vs) H' fun σ2 H2 => wipe σ2 vs = wipe σ vs ∧ tYes σ2 H2 fun b H3 => if b = true then te σ2 H3 fun y H4 => ∃ acc, H4 D = some (.lst acc) ∧ acc.length < sizeLine ∧ Nx (upd H4 D (.lst (acc ++ [y]))) else Nx H3) := by
  refine lc_acc w hD hn hG (fun ys _ => ys = (List.range ys.length).map v) (fun _ _ _ h _ => h) rfl ?_ (fun H ys e h1 h2 h3 => hd H e (by rw [h1, h3, h2]))
  intro i x H H' ys hi e h1 h2 h3 hy Qc hq
  refine hs i x H H' hi e hy Qc fun H4 e4 => hq _ H4 e4 ?_
  rw [List.length_append, List.length_singleton, List.range_succ, List.map_append, ← h3, h2]
  rfl
/-- new lists -/
structure Rows (H0 H : Hp) (ps : List Addr) (L : Nat → List V) : Prop where
  at_ : ∀ i p, ps[i]? = some p → H p = some (.lst (L i))
  nd : ps.Nodup
  fr : ∀ p, p ∈ ps → H0 p = none
theorem lc_rows (w : Walk J n G Y) (hD : H1 D = none) (hn : n ≤ 100000) (hG : ∀ H, Ex H1 H → G H) (L : Nat → List V)
    (hs : ∀ (i : Nat) (x : V) (H H' : Hp), i < n → Ex H1 H → Y i H x H' → ∀ Qc : VK, (∀ p H4, H p = none → Ex H H4 → H4 p = some (.lst (L i)) → Qc (.ref p) H4) → g x (wipe σ vs) H' fun σ2 H2 => wipe σ2 vs = wipe σ vs ∧ te σ2 H2 Qc)
    (hd : ∀ H ps, Ex H1 H → H D = some (.lst (ps.map V.ref)) → ps.length = n → Rows H1 H ps L → Qd H) :
    ∃ W : Nat → Nat → Hp → Prop, (∃ m, W 0 m (upd H1 D (.lst []))) ∧ ∀ i m H, W i m H → (J.stop i H ∧ Qd H) ∨ (J.go i H ∧ ∃ Nx : Hp → Prop, (∀ H', Nx H' → ∃ m', m' < m ∧ W (i + 1) m' H') ∧ ∀ x H', J.yld i H x H' → g x (wipe σ vs) H' fun σ2 H2 => wipe σ2 vs = wipe σ vs ∧ tYes σ2 H2 fun b H3 => if b = true then te σ2 H3 fun y H4 => ∃ acc, H4 D = some (.lst acc) ∧ acc.length < sizeLine ∧ Nx (upd H4 D (.lst (acc ++ [y]))) else Nx H3) := by
  refine lc_acc w hD hn hG (fun ys H => ∃ ps, ys = ps.map V.ref ∧ D ∉ ps ∧ Rows H1 H ps L) ?_ ⟨[], rfl, by simp, fun _ _ h => by simp at h, List.nodup_nil, fun _ h => by simp at h⟩ ?_ ?_
  · rintro ys Ha Hb ⟨ps, h1, h2, h3⟩ e
    exact ⟨ps, h1, h2, fun i p h => e _ _ (fun q => h2 (q ▸ List.mem_of_getElem? h)) (h3.at_ i p h), h3.nd, h3.fr⟩
  · rintro i x H H' ys hi e h1 h2 ⟨ps, h3, h4, h5⟩ hy Qc hq
    refine hs i x H H' hi e hy Qc fun p H4 np e4 hp => hq _ H4 e4 ⟨ps ++ [p], ?_, ?_, ?_, ?_, ?_⟩
    · rw [h3, List.map_append]
      rfl
    · intro hm
      rcases List.mem_append.mp hm with q | q
      · exact h4 q
      · have e5 : D = p := by simpa using q
        rw [e5, np] at h1
        cases h1
    · intro k q hk
      have hl : ps.length = i := by rw [← h2, h3, List.length_map]
      rw [List.getElem?_append] at hk
      split at hk
      · exact e4 _ _ (h5.at_ k q hk)
      · rename_i hge
        have ek : k - ps.length = 0 := by
          have := (List.getElem?_eq_some_iff.mp hk).1
          simp at this
          omega
        rw [ek] at hk
        have e6 : q = p := by simpa using hk.symm
        rw [e6, hp, show k = i by omega]
    · rw [List.nodup_append]
      refine ⟨h5.nd, by simp, ?_⟩
      intro a ha b hb e7
      have e8 : b = p := by simpa using hb
      obtain ⟨k, hk, ek⟩ := List.mem_iff_getElem.mp ha
      have := h5.at_ k a (by rw [List.getElem?_eq_getElem hk, ek])
      rw [e7, e8, np] at this
      cases this
    · intro q hq'
      rcases List.mem_append.mp hq' with z | z
      · exact h5.fr q z
      · have e8 : q = p := by simpa using z
        rw [e8]
        exact fresh_back e np
  · rintro H ys e h1 h2 ⟨ps, h3, h4, h5⟩
    exact hd H ps e (by rw [h1, h3]) (by rw [← h2, h3, List.length_map]) h5
/-- new pairs of a new list of candidates and a number -/
structure BalsN (H0 H : Hp) (D : Addr) (ts ls : List Addr) (bs : List (List Nat × Int)) : Prop where
  top : H D = some (.lst (ts.map V.ref))
  lt : ts.length = bs.length
  ll : ls.length = bs.length
  at_ : ∀ (i : Nat) (t l : Addr) (b : List Nat × Int), ts[i]? = some t → ls[i]? = some l → bs[i]? = some b → H t = some (.tup [.ref l, .int b.2]) ∧ H l = some (.lst (nv b.1))
  nd : ls.Nodup
  fl : ∀ l, l ∈ ls → H0 l = none
  ft : ∀ t, t ∈ ts → H0 t = none
  fD : H0 D = none
theorem BalsN.rd {K : PySem.W.Frag} {H0 H : Hp} {D : Addr} {ts ls : List Addr} {bs : List (List Nat × Int)} (B : BalsN H0 H D ts ls bs) : BalsR K H (.ref D) bs := by
  refine ⟨D, _, rfl, sq_of B.top, ?_⟩
  have gen : ∀ (ts ls : List Addr) (bs : List (List Nat × Int)), ts.length = bs.length → ls.length = bs.length → (∀ (i : Nat) (t l : Addr) (b : List Nat × Int), ts[i]? = some t → ls[i]? = some l → bs[i]? = some b → H t = some (.tup [.ref l, .int b.2]) ∧ H l = some (.lst (nv b.1))) → Paired (BalR K H) (ts.map V.ref) bs := by
    intro ts
    induction ts with
    | nil =>
      intro ls bs hl _ _
      cases bs with
      | nil => exact .nil
      | cons _ _ => simp at hl
    | cons t ts ih =>
      intro ls bs hl hl2 h
      cases bs with
      | nil => simp at hl
      | cons b bs =>
        cases ls with
        | nil => simp at hl2
        | cons l ls =>
          obtain ⟨q1, q2⟩ := h 0 t l b rfl rfl rfl
          refine .cons ⟨t, l, rfl, st_of q1, sq_of q2⟩ (ih ls bs (by simpa using hl) (by simpa using hl2) fun i t' l' b' a1 a2 a3 => h (i + 1) t' l' b' (by simpa using a1) (by simpa using a2) (by simpa using a3))
  exact gen ts ls bs B.lt B.ll B.at_
theorem lc_bals (w : Walk J n G Y) (hD : H1 D = none) (hn : n ≤ 100000) (hG : ∀ H, Ex H1 H → G H) (bs : List (List Nat × Int)) (hbs : bs.length = n)
    (hs : ∀ (i : Nat) (x : V) (H H' : Hp) (b : List Nat × Int), i < n → bs[i]? = some b → Ex H1 H → Y i H x H' → ∀ Qc : VK, (∀ p l H4, H p = none → H l = none → Ex H H4 → H4 p = some (.tup [.ref l, .int b.2]) → H4 l = some (.lst (nv b.1)) → Qc (.ref p) H4) → g x (wipe σ vs) H' fun σ2 H2 => wipe σ2 vs = wipe σ vs ∧ te σ2 H2 Qc)
    (hd : ∀ H ts ls, Ex H1 H → BalsN H1 H D ts ls bs → Qd H) :
    ∃ W : Nat → Nat → Hp → Prop, (∃ m, W 0 m (upd H1 D (.lst []))) ∧ ∀ i m H, W i m H → (J.stop i H ∧ Qd H) ∨ (J.go i H ∧ ∃ Nx : Hp → Prop, (∀ H', Nx H' → ∃ m', m' < m ∧ W (i + 1) m' H') ∧ ∀ x H', J.yld i H x H' → g x (wipe σ vs) H' fun σ2 H2 => wipe σ2 vs = wipe σ vs ∧ tYes σ2 H2 fun b H3 => if b = true then te σ2 H3 fun y H4 => ∃ acc, H4 D = some (.lst acc) ∧ acc.length < sizeLine ∧ Nx (upd H4 D (.lst (acc ++ [y]))) else Nx H3) := by
  refine lc_acc w hD hn hG (fun ys H => ∃ ts ls : List Addr, ys = ts.map V.ref ∧ ls.length = ts.length ∧ D ∉ ts ∧ D ∉ ls ∧ (∀ (i : Nat) (t l : Addr) (b : List Nat × Int), ts[i]? = some t → ls[i]? = some l → bs[i]? = some b → H t = some (.tup [.ref l, .int b.2]) ∧ H l = some (.lst (nv b.1))) ∧ ls.Nodup ∧ (∀ l, l ∈ ls → H1 l = none) ∧ (∀ l, l ∈ ts → H1 l = none) ∧ (∀ l, l ∈ ls → H l ≠ none)) ?_ ⟨[], [], rfl, rfl, by simp, by simp, fun _ _ _ _ h => by simp at h, List.nodup_nil, fun _ h => by simp at h, fun _ h => by simp at h, fun _ h => by simp at h⟩ ?_ ?_
  · rintro ys Ha Hb ⟨ts, ls, h1, h2, h3, h4, h5, h6, h7, h8, h9⟩ e
    refine ⟨ts, ls, h1, h2, h3, h4, fun i t l b ht hl hb => ?_, h6, h7, h8, fun l hl => ?_⟩
    · obtain ⟨q1, q2⟩ := h5 i t l b ht hl hb
      exact ⟨e _ _ (fun q => h3 (q ▸ List.mem_of_getElem? ht)) q1, e _ _ (fun q => h4 (q ▸ List.mem_of_getElem? hl)) q2⟩
    · have := h9 l hl
      cases q : Ha l with
      | none => exact absurd q this
      | some o =>
        rw [e _ _ (fun q => h4 (q ▸ hl)) q]
        simp
  · rintro i x H H' ys hi e h1 h2 ⟨ts, ls, h3, h4, h5, h6, h7, h8, h9, h10, h11⟩ hy Qc hq
    have hb : i < bs.length := by omega
    have eL : ts.length = i := by rw [← h2, h3, List.length_map]
    refine hs i x H H' bs[i] hi (List.getElem?_eq_getElem hb) e hy Qc fun p l H4 np nl e4 hp hl => hq _ H4 e4 ⟨ts ++ [p], ls ++ [l], ?_, ?_, ?_, ?_, ?_, ?_, ?_, ?_, ?_⟩
    · rw [h3, List.map_append]
      rfl
    · rw [List.length_append, List.length_append, h4]
      rfl
    · intro hm
      rcases List.mem_append.mp hm with q | q
      · exact h5 q
      · have e5 : D = p := by simpa using q
        rw [e5, np] at h1
        cases h1
    · intro hm
      rcases List.mem_append.mp hm with q | q
      · exact h6 q
      · have e5 : D = l := by simpa using q
        rw [e5, nl] at h1
        cases h1
    · intro k t l' b ht hl' hbk
      rw [List.getElem?_append] at ht hl'
      by_cases hk : k < ts.length
      · rw [if_pos hk] at ht
        rw [if_pos (by omega)] at hl'
        obtain ⟨q1, q2⟩ := h7 k t l' b ht hl' hbk
        exact ⟨e4 _ _ q1, e4 _ _ q2⟩
      · rw [if_neg hk] at ht
        rw [if_neg (by omega)] at hl'
        have ek : k - ts.length = 0 := by
          have := (List.getElem?_eq_some_iff.mp ht).1
          simp at this
          omega
        rw [ek] at ht
        rw [h4, ek] at hl'
        have e6 : t = p := by simpa using ht.symm
        have e7 : l' = l := by simpa using hl'.symm
        have e8 : k = i := by omega
        subst e8
        rw [List.getElem?_eq_getElem hb] at hbk
        cases hbk
        rw [e6, e7]
        exact ⟨hp, hl⟩
    · rw [List.nodup_append]
      refine ⟨h8, by simp, ?_⟩
      intro a ha b hb' e7
      have e8 : b = l := by simpa using hb'
      exact h11 a ha (by rw [e7, e8]; exact nl)
    · intro q hq'
      rcases List.mem_append.mp hq' with z | z
      · exact h9 q z
      · have e8 : q = l := by simpa using z
        rw [e8]
        exact fresh_back e nl
    · intro q hq'
      rcases List.mem_append.mp hq' with z | z
      · exact h10 q z
      · have e8 : q = p := by simpa using z
        rw [e8]
        exact fresh_back e np
    · intro q hq'
      rcases List.mem_append.mp hq' with z | z
      · have := h11 q z
        cases w : H q with
        | none => exact absurd w this
        | some o => rw [e4 _ _ w]; simp
      · have e8 : q = l := by simpa using z
        rw [e8, hl]
        simp
  · rintro H ys e h1 h2 ⟨ts, ls, h3, h4, h5, h6, h7, h8, h9, h10, h11⟩
    have eL : ts.length = n := by rw [← h2, h3, List.length_map]
    have hts : H D = some (.lst (ts.map V.ref)) := by rw [h1, h3]
    exact hd H ts ls e ⟨hts, by omega, by omega, h7, h8, h9, h10, hD⟩
end
end Hc
namespace Hc
open PySem PySem.Spec PyProof.Rows L2 Evl
theorem rgV_nv (n : Nat) : rgV 0 (n : Int) = nv (List.range n) := by
  unfold rgV nv
  rw [show ((n : Int) - 0).toNat = n by omega]
  refine List.map_congr_left fun i _ => ?_
  rw [Int.zero_add]
theorem eqvAll_ints : ∀ (ns ms : List Int), PyData.eqvAll (ns.map PyData.int) (ms.map PyData.int) = decide (ns = ms)
  | [], [] => by simp [PyData.eqvAll]
  | [], _ :: _ => by simp [PyData.eqvAll]
  | _ :: _, [] => by simp [PyData.eqvAll]
  | n :: ns, m :: ms => by
    rw [List.map_cons, List.map_cons, PyData.eqvAll, eqvAll_ints ns ms, PyData.eqv]
    by_cases h1 : n = m <;> by_cases h2 : ns = ms <;> simp [h1, h2]
theorem eqv_ints (ns ms : List Int) : PyData.eqv (.list (ns.map PyData.int)) (.list (ms.map PyData.int)) = decide (ns = ms) := by
  rw [PyData.eqv]
  exact eqvAll_ints ns ms
theorem map_const_bl (n : Nat) (b : Bool) : ((List.range n).map fun _ => V.bl b) = ((List.range n).map fun _ => b).map V.bl := by
  rw [List.map_map]
  rfl
theorem all_const_true (n : Nat) : ((List.range n).map fun _ => true).all id = true := by
  rw [List.all_map]
  exact List.all_eq_true.mpr fun _ _ => rfl
theorem itT {c : Bool} {A B : Prop} (h : c = true) (k : A) : if c = true then A else B := by rw [if_pos h]; exact k
theorem itF {c : Bool} {A B : Prop} (h : c = false) (k : B) : if c = true then A else B := by rw [if_neg (by rw [h]; decide)]; exact k
theorem it2 {c : Bool} {A B : Prop} (h1 : c = true → A) (h2 : c = false → B) : if c = true then A else B := by
  cases c with
  | true => rw [if_pos rfl]; exact h1 rfl
  | false => rw [if_neg (by decide)]; exact h2 rfl
theorem rep_row (n : Nat) : (List.replicate n [V.int 0]).flatten = rowV n (fun _ => 0) := by
  unfold rowV
  rw [List.map_const', List.length_range]
  induction n with
  | zero => rfl
  | succ n ih => rw [List.replicate_succ, List.flatten_cons, ih, List.replicate_succ]; rfl
theorem nv_drop (ks : List Nat) (k : Nat) : (nv ks).drop k = nv (ks.drop k) := by unfold nv; rw [List.map_drop]
theorem nv_take (ks : List Nat) (k : Nat) : (nv ks).take k = nv (ks.take k) := by unfold nv; rw [List.map_take]
theorem cut_nv_from (ks : List Nat) (k : Nat) : cutV (nv ks) (some ((k : Int) + 1)) none = nv (ks.drop (k + 1)) := by
  rw [show ((k : Int) + 1) = ((k + 1 : Nat) : Int) from rfl, cut_from, nv_drop]
theorem cut_nv_to (ks : List Nat) (k : Nat) : cutV (nv ks) none (some (k : Int)) = nv (ks.take k) := by rw [cut_to, nv_take]
theorem Rows.tab {H0 H : Hp} {D : Addr} {ps : List Addr} {n : Nat} {f : Nat → Nat → Int} (hD : H0 D = none) (h : H D = some (.lst (ps.map V.ref))) (hl : ps.length = n) (R : Rows H0 H ps (fun i => rowV n (f i))) : Tab H0 H D ps n f :=
  ⟨hl, h, R.at_, R.nd, hD, R.fr⟩
theorem rgOk_nat {n : Nat} (h : n ≤ 1000) : RgOk 0 (n : Int) := RgOk.of_le (by omega) (by omega) (by omega) (by omega)
end Hc
namespace Hc
open PySem PySem.Spec PyProof.Rows L2 Evl
/-! ### great numbers -/
def Big (B : Nat) (x : Int) : Prop := x.natAbs < 2 ^ B
theorem Big.mono {B C : Nat} {x : Int} (h : Big B x) (hc : B ≤ C) : Big C x := Nat.lt_of_lt_of_le h (Nat.pow_le_pow_right (by decide) hc)
theorem Big.mul {B C : Nat} {x y : Int} (h : Big B x) (k : Big C y) : Big (B + C) (x * y) := by
  unfold Big at *
  rw [Int.natAbs_mul, Nat.pow_add]
  exact Nat.mul_lt_mul'' h k
theorem Big.add {B : Nat} {x y : Int} (h : Big B x) (k : Big B y) : Big (B + 1) (x + y) := by
  unfold Big at *
  have := Int.natAbs_add_le x y
  rw [Nat.pow_succ]
  omega
theorem big_bits {B : Nat} {x : Int} (h0 : 0 < B) (h : Big B x) : Builtin.Int.intBits x ≤ B := by
  have h1 := PySem.Flt.log2_lt_of h0 h
  unfold Builtin.Int.intBits
  split
  · exact Nat.zero_le _
  · omega
theorem big_of_bits {x : Int} {B : Nat} (h : Builtin.Int.intBits x ≤ B) : Big B x := by
  unfold Builtin.Int.intBits at h
  unfold Big
  split at h
  · rename_i e
    have e0 : x = 0 := by simpa using e
    rw [e0]
    exact Nat.pow_pos (by decide)
  · exact Nat.lt_of_lt_of_le Nat.lt_log2_self (Nat.pow_le_pow_right (by decide) h)
theorem mulOk_big {B C : Nat} {x y : Int} (h : Big B x) (k : Big C y) (hB : 0 < B) (hC : 0 < C) (hs : B + C ≤ 100000000) : IntMulOk x y := by
  have h1 := big_bits hB h
  have h2 := big_bits hC k
  have e : bitsLine = 134217728 := by decide
  intro z
  rw [Bool.and_eq_true] at z
  have z2 := of_decide_eq_true z.2
  rw [e] at z2
  omega
theorem mulOk_small {x y : Int} (h1 : -(2 ^ 64) < x) (h2 : x < 2 ^ 64) : IntMulOk x y := PySem.IntMulOk.of_left (PySem.intBits_le_64 h1 h2)
theorem mulOk_smallR {x y : Int} (h1 : -(2 ^ 64) < y) (h2 : y < 2 ^ 64) : IntMulOk x y := PySem.IntMulOk.of_right (PySem.intBits_le_64 h1 h2)
theorem big_small {x : Int} {B : Nat} (hB : 64 ≤ B) (h1 : -(2 ^ 64) < x) (h2 : x < 2 ^ 64) : Big B x := Big.mono (B := 64) (by unfold Big; omega) hB
theorem divW_small {i j : Int} (h1 : 0 < j) (h2 : j < 1000000) : CDivW i j := by
  refine ⟨h1, ?_⟩
  have : j.natAbs < 2 ^ 20 := by omega
  exact Nat.lt_trans (PySem.Flt.log2_lt_of (by decide) this) (by decide)
theorem Big.div {B : Nat} {x j : Int} (h : Big B x) (hj : 0 < j) : Big B (x / j) := by
  unfold Big at *
  refine Nat.lt_of_le_of_lt ?_ h
  exact Int.natAbs_ediv_le_natAbs x j
theorem big_sum : ∀ (ns : List Int) (B : Nat), (∀ n ∈ ns, Big B n) → Big (B + ns.length) ns.sum
  | [], B, _ => by
    show (0 : Nat) < 2 ^ (B + 0)
    exact Nat.pow_pos (by decide)
  | n :: ns, B, h => by
    rw [List.sum_cons]
    have h1 := big_sum ns B fun m hm => h m (List.mem_cons_of_mem _ hm)
    exact Big.add ((h n (List.mem_cons_self ..)).mono (Nat.le_add_right _ _)) h1
end Hc
namespace Hc
open PySem PySem.Spec PyProof.Rows L2 Evl
/-! ### the heap without one object -/
def rem (H : Hp) (F : Addr) : Hp := fun a => if a = F then none else H a
theorem rem_ne {H : Hp} {F a : Addr} (h : a ≠ F) : rem H F a = H a := by unfold rem; rw [if_neg h]
theorem rem_ex {H : Hp} {F : Addr} : Ex (rem H F) H := fun a o h => by
  unfold rem at h
  split at h
  · cases h
  · exact h
theorem rem_mono {H H' : Hp} {F : Addr} (e : Ex H H') : Ex (rem H F) (rem H' F) := fun a o h => by
  unfold rem at h ⊢
  split at h
  · cases h
  · rename_i n
    rw [if_neg n]
    exact e a o h
theorem rem_upd {H : Hp} {F : Addr} {o : HO} : rem (upd H F o) F = rem H F := by
  funext a
  unfold rem
  split
  · rfl
  · rename_i n
    rw [upd_ne n]
theorem rem_exB {H H' : Hp} {F : Addr} (e : ExB F H H') : Ex (rem H F) (rem H' F) := fun a o h => by
  unfold rem at h ⊢
  split at h
  · cases h
  · rename_i n
    rw [if_neg n]
    exact e a o n h
theorem rem_none {H : Hp} {F : Addr} (h : H F = none) : rem H F = H := by
  funext a
  unfold rem
  split
  · rename_i e
    rw [e, h]
  · rfl
end Hc
namespace Hc
open PySem PySem.Spec PyProof.Rows L2 Evl
/-! ### the rules with the written part named -/
section
variable {X : Cx} {e l : Expr} {te tl : TE} {tg : Expr} {pos p : Pos}
theorem isiK (K : PySem.W.Frag) (h : X.K = K := by rfl) : CallR X (.builtin "isinstance") (rIsi K) := by cases h; exact call_isi
theorem ixLK (K : PySem.W.Frag) (h : X.K = K := by rfl) : IxR X (rIxL K) := by cases h; exact ix_list
theorem ixTK (K : PySem.W.Frag) (h : X.K = K := by rfl) : IxR X (rIxT K) := by cases h; exact ix_tup
theorem slLK (K : PySem.W.Frag) (h : X.K = K := by rfl) : SlR X (rSlL K) := by cases h; exact sl_list
theorem allK (K : PySem.W.Frag) (h : X.K = K := by rfl) (hc : X.calm = true := by rfl) : CallR X (.builtin "all") (rAll K) := by cases h; exact cr_all hc
theorem anyK (K : PySem.W.Frag) (h : X.K = K := by rfl) (hc : X.calm = true := by rfl) : CallR X (.builtin "any") (rAny K) := by cases h; exact cr_any hc
theorem sumK (K : PySem.W.Frag) (h : X.K = K := by rfl) (hc : X.calm = true := by rfl) : CallR X (.builtin "sum") (rSum K) := by cases h; exact cr_sum hc
theorem minK (K : PySem.W.Frag) (h : X.K = K := by rfl) (hc : X.calm = true := by rfl) : CallR X (.builtin "min") (rMin K) := by cases h; exact cr_min hc
theorem maxK (K : PySem.W.Frag) (h : X.K = K := by rfl) (hc : X.calm = true := by rfl) : CallR X (.builtin "max") (rMax K) := by cases h; exact cr_max hc
theorem sortK (K : PySem.W.Frag) (h : X.K = K := by rfl) : CallR X (.builtin "sorted") (rSorted K) := by cases h; exact cr_sorted
theorem lenK (K : PySem.W.Frag) (h : X.K = K := by rfl) : CallR X (.builtin "len") (rLenS K) := by cases h; exact call_len_seq
theorem listK (K : PySem.W.Frag) (h : X.K = K := by rfl) : CallR X (.type "list") (rListS K) := by cases h; exact call_list_of
theorem inK (K : PySem.W.Frag) (h : X.K = K := by rfl) : OpR X (compareOp .In) (rIn K false) := by cases h; exact op_in_seq
theorem notInK (K : PySem.W.Frag) (h : X.K = K := by rfl) : OpR X (compareOp .NotIn) (rIn K true) := by cases h; exact op_notIn_seq
theorem eqDK (K : PySem.W.Frag) (hu : X.A.units + 64 < cLine) (h : X.K = K := by rfl) : OpR X (compareOp .Eq) (rEqD K) := by cases h; exact op_eqD hu
theorem neDK (K : PySem.W.Frag) (hu : X.A.units + 64 < cLine) (h : X.K = K := by rfl) : OpR X (compareOp .NotEq) (rNeD K) := by cases h; exact op_neD hu
theorem piL (K : PySem.W.Frag) (hl : PE X l tl) (h : X.K = K := by rfl) : PI X tg l (iList K tl) := by cases h; exact pi_list hl
theorem piT (K : PySem.W.Frag) (hl : PE X l tl) (h : X.K = K := by rfl) : PI X tg l (iTup K tl) := by cases h; exact pi_tup hl
theorem piE (K : PySem.W.Frag) {ta : TA} {tpos : Pos} {elts : List Expr} {kk : Nat} (hg : Gl X "enumerate") (hm : X.mg "enumerate" = none) (ha : PA X [e] ta) (hs : starEach [e] X.env = [(false, eval e X.env)] := by rfl) (h : X.K = K := by rfl) : PI X (.Tuple elts kk tpos) (.Call (.Name "enumerate" p) [e] [] pos) (iEnum K ta) := by cases h; exact pi_enum hg hm ha hs
theorem piZ (K : PySem.W.Frag) {e2 : Expr} {ta : TA} {tpos : Pos} {elts : List Expr} {kk : Nat} (hg : Gl X "zip") (hm : X.mg "zip" = none) (ha : PA X [e, e2] ta) (hs : starEach [e, e2] X.env = (false, eval e X.env) :: starEach [e2] X.env := by rfl) (hpl : (backTo pos (starEach [e2] X.env)).any (·.1) = false := by rfl) (h : X.K = K := by rfl) : PI X (.Tuple elts kk tpos) (.Call (.Name "zip" p) [e, e2] [] pos) (iZip K ta) := by cases h; exact pi_zip hg hm ha hs hpl
theorem pgT (K : PySem.W.Frag) {es : List Expr} {k : Nat} {t : TGs} {n : Nat} (h : PGs X es t) (hn : (assignEach es X.env).length = n := by rfl) (hst : (assignEach es X.env).findIdx? (·.1) = none := by rfl) (hK : X.K = K := by rfl) (hc : X.calm = true := by rfl) : PG X (.Tuple es k pos) (gTup K n t) := by cases hK; exact pg_tup hc h hn hst
end
end Hc
namespace Hc
open PySem PySem.Spec PyProof.Rows L2 Evl
theorem revLK {X : Cx} {e : Expr} {te : TE} {k : Nat} {p1 p2 p3 pos : Pos} (K : PySem.W.Frag) (he : PE X e te) (h : X.K = K := by rfl) : PE X (.Subscript e (.Slice none none (some (.UnaryOp .USub (.Constant (.int 1) k p1) p2)) p3) pos) (tRevL K te) := by cases h; exact pe_revL he
end Hc
namespace Hc
open PySem PySem.Spec PyProof.Rows L2 Evl
/-! ### rows from a place on -/
def dRows (n k : Nat) (f : Nat → Nat → Int) : PyData := .list (((List.range n).drop k).map fun i => dRow n (f i))
theorem lay_rows (n k : Nat) (f : Nat → Nat → Int) : (dRows n k f).canLay0 = true := lay_list _ fun d hd => by
  obtain ⟨j, _, rfl⟩ := List.mem_map.mp hd
  exact lay_row _ _
theorem shaped_rows (n k : Nat) (f : Nat → Nat → Int) : SeqAt.shaped (dRows n k f) = true := shaped_of (lay_rows n k f) (depth_list fun d hd => by
  obtain ⟨j, _, rfl⟩ := List.mem_map.mp hd
  exact depth_row _ _) (by decide)
theorem dp_rows {K : PySem.W.Frag} {H : Hp} {a : Addr} {rs : List Addr} {n k : Nat} {f : Nat → Nat → Int} (hl : rs.length = n) (h : SqL K H a ((rs.drop k).map V.ref)) (hr : ∀ i r, k ≤ i → rs[i]? = some r → SqL K H r (rowV n (f i))) : Dp K H (.ref a) (dRows n k f) := by
  refine .lst h (dpAll_of (by rw [List.length_map, List.length_map, List.length_drop, List.length_drop, List.length_range, hl]) fun i x d hx hd => ?_)
  rw [List.getElem?_map, List.getElem?_drop] at hx hd
  cases e : rs[k + i]? with
  | none => rw [e] at hx; cases hx
  | some r =>
    rw [e] at hx
    have hi : k + i < n := by rw [← hl]; exact (List.getElem?_eq_some_iff.mp e).1
    rw [List.getElem?_range hi] at hd
    cases hx
    cases hd
    exact dp_row (hr (k + i) r (Nat.le_add_right _ _) e)
end Hc

/-! Plain laws of ballots that make a table: no program in sight. -/
namespace Hc
theorem cnt_cons (b : List Nat × Int) (bs : List (List Nat × Int)) (i j : Nat) : cnt (b :: bs) i j = b.2 * psum i j b.1 + cnt bs i j := by
  unfold cnt
  rw [List.map_cons, List.sum_cons]
def restOf (n a b : Nat) : List Nat := (List.range n).filter fun k => !(k == a || k == b)
def twoB (n a b : Nat) (m : Int) : List (List Nat × Int) := [(a :: b :: restOf n a b, m), ((restOf n a b).reverse ++ [a, b], m)]
theorem psum_two (i j a b : Nat) (r : List Nat) : psum i j (a :: b :: r) + psum i j (r.reverse ++ [a, b]) = 2 * dlt i j a b := by
  have e1 : psum i j (a :: b :: r) = dsum i j a (b :: r) + (dsum i j b r + psum i j r) := rfl
  have e2 : psum i j (r.reverse ++ [a, b]) = psum i j ((r.reverse ++ [a]) ++ [b]) := by rw [List.append_assoc]; rfl
  rw [e1, e2, psum_snoc, psum_snoc, esum_append, psum_reverse, esum_dsum, esum_dsum, dsum_reverse, dsum_reverse, dsum_cons, esum_cons, esum_nil]
  omega
theorem cnt_two (n a b : Nat) (m : Int) (i j : Nat) : cnt (twoB n a b m) i j = 2 * m * dlt i j a b := by
  unfold twoB
  rw [cnt_cons, cnt_cons, cnt_nil]
  have h := psum_two i j a b (restOf n a b)
  show m * psum i j (a :: b :: restOf n a b) + (m * psum i j ((restOf n a b).reverse ++ [a, b]) + 0) = 2 * m * dlt i j a b
  rw [Int.add_zero, ← Int.mul_add, h, ← Int.mul_assoc, Int.mul_comm m 2]
theorem mem_restOf {n a b k : Nat} : k ∈ restOf n a b ↔ k < n ∧ k ≠ a ∧ k ≠ b := by
  unfold restOf
  rw [List.mem_filter, List.mem_range]
  simp
theorem two_perm {n a b : Nat} (ha : a < n) (hb : b < n) (hab : a ≠ b) : (a :: b :: restOf n a b).Perm (List.range n) := by
  have hr : (restOf n a b).Nodup := List.nodup_range.filter _
  have h1 : (a :: b :: restOf n a b).Nodup := by
    rw [List.nodup_cons, List.nodup_cons]
    refine ⟨fun h => ?_, fun h => (mem_restOf.mp h).2.2 rfl, hr⟩
    rcases List.mem_cons.mp h with e | e
    · exact hab e
    · exact (mem_restOf.mp e).2.1 rfl
  rw [List.perm_ext_iff_of_nodup h1 List.nodup_range]
  intro k
  rw [List.mem_cons, List.mem_cons, mem_restOf, List.mem_range]
  constructor
  · rintro (rfl | rfl | h)
    · exact ha
    · exact hb
    · exact h.1
  · intro h
    by_cases h1 : k = a
    · exact .inl h1
    · by_cases h2 : k = b
      · exact .inr (.inl h2)
      · exact .inr (.inr ⟨h, h1, h2⟩)
theorem two_perm2 {n a b : Nat} (ha : a < n) (hb : b < n) (hab : a ≠ b) : ((restOf n a b).reverse ++ [a, b]).Perm (List.range n) := by
  have h : ((restOf n a b).reverse ++ [a, b]).Perm ([a, b] ++ restOf n a b) := List.perm_append_comm.trans (List.Perm.append_left _ (List.reverse_perm _))
  exact h.trans (two_perm ha hb hab)
theorem dlt_self (i a b : Nat) : dlt i i a b = 0 := by
  unfold dlt
  have e : (a = i ∧ b = i) ↔ (b = i ∧ a = i) := And.comm
  simp only [e]
  omega
theorem esum_range (i j y : Nat) : ∀ m : Nat, esum i j y (List.range m) = (if y = j ∧ i < m then 1 else 0) - (if y = i ∧ j < m then 1 else 0)
  | 0 => by simp [esum]
  | m + 1 => by
    rw [List.range_succ, esum_append, esum_range i j y m, esum_cons, esum_nil]
    unfold dlt
    by_cases h1 : y = j <;> by_cases h2 : y = i <;> by_cases h3 : m = i <;> by_cases h4 : m = j <;> by_cases h5 : i < m <;> by_cases h6 : j < m <;> simp_all <;> omega
theorem psum_range (i j : Nat) : ∀ n : Nat, psum i j (List.range n) = (if i < j ∧ j < n then 1 else 0) - (if j < i ∧ i < n then 1 else 0)
  | 0 => by simp [psum]
  | n + 1 => by
    rw [List.range_succ, psum_snoc, psum_range i j n, esum_range]
    by_cases h1 : n = j <;> by_cases h2 : n = i <;> by_cases h3 : i < j <;> by_cases h4 : j < i <;> by_cases h5 : i < n <;> by_cases h6 : j < n <;> simp_all <;> omega
/-- f is a table of n -/
def Anti (n : Nat) (f : Nat → Nat → Int) : Prop := ∀ i j, i < n → j < n → f i j = - f j i
theorem Anti.self {n : Nat} {f : Nat → Nat → Int} (h : Anti n f) {i : Nat} (hi : i < n) : f i i = 0 := by
  have := h i i hi hi
  omega
theorem anti_cnt (n : Nat) (bs : List (List Nat × Int)) : Anti n (cnt bs) := fun i j _ _ => cnt_swap bs j i
/-- two tables that are alike above are alike -/
theorem anti_ext {n : Nat} {f g : Nat → Nat → Int} (hf : Anti n f) (hg : Anti n g) (h : ∀ i j, i < j → j < n → f i j = g i j) : ∀ i j, i < n → j < n → f i j = g i j := fun i j hi hj => by
  by_cases h1 : i < j
  · exact h i j h1 hj
  · by_cases h2 : j < i
    · rw [hf i j hi hj, hg i j hi hj, h j i h2 hi]
    · have e : i = j := by omega
      subst e
      rw [hf.self hi, hg.self hi]
/-- what is told so far: all pairs ahead of (one, other) are done, o for the others -/
def Done (n : Nat) (f : Nat → Nat → Int) (o : Int) (a b : Nat) (bs : List (List Nat × Int)) : Prop := ∀ i j, i < j → j < n → cnt bs i j = if i < a ∨ (i = a ∧ j < b) then f i j else o
theorem done_start {n : Nat} {f : Nat → Nat → Int} {o : Int} {bs : List (List Nat × Int)} (h : ∀ i j, i < j → j < n → cnt bs i j = o) : Done n f o 0 1 bs := fun i j hi hj => by
  rw [h i j hi hj, if_neg (by omega)]
theorem dlt_lt {i j a b : Nat} (h1 : i < j) (h2 : a < b) : dlt i j a b = if i = a ∧ j = b then 1 else 0 := by
  unfold dlt
  by_cases h : i = a ∧ j = b
  · obtain ⟨rfl, rfl⟩ := h
    have : ¬ (j = i ∧ i = j) := by omega
    simp [this]
  · rw [if_neg h, if_neg (by omega), if_neg (by omega)]
    rfl
theorem done_step {n a b : Nat} {f : Nat → Nat → Int} {o m : Int} {bs : List (List Nat × Int)} (h : Done n f o a b bs) (hab : a < b) (hm : f a b - o = 2 * m) : Done n f o a (b + 1) (bs ++ twoB n a b m) := fun i j hi hj => by
  rw [cnt_append, h i j hi hj, cnt_two, dlt_lt hi hab]
  by_cases e : i = a ∧ j = b
  · obtain ⟨rfl, rfl⟩ := e
    rw [if_neg (by omega), if_pos ⟨rfl, rfl⟩, if_pos (by omega)]
    omega
  · rw [if_neg e, Int.mul_zero, Int.add_zero]
    by_cases e2 : i < a ∨ (i = a ∧ j < b)
    · rw [if_pos e2, if_pos (by omega)]
    · rw [if_neg e2, if_neg (by omega)]
theorem done_back {n a b : Nat} {f : Nat → Nat → Int} {o m : Int} {bs : List (List Nat × Int)} (h : Done n f o a b bs) (hab : a < b) (hm : f a b - o = - (2 * m)) : Done n f o a (b + 1) (bs ++ twoB n b a m) := fun i j hi hj => by
  rw [cnt_append, h i j hi hj, cnt_two, dlt_swap i j a b, dlt_lt hi hab]
  by_cases e : i = a ∧ j = b
  · obtain ⟨rfl, rfl⟩ := e
    rw [if_neg (by omega), if_pos ⟨rfl, rfl⟩, if_pos (by omega)]
    omega
  · rw [if_neg e, show (-0 : Int) = 0 from rfl, Int.mul_zero, Int.add_zero]
    by_cases e2 : i < a ∨ (i = a ∧ j < b)
    · rw [if_pos e2, if_pos (by omega)]
    · rw [if_neg e2, if_neg (by omega)]
theorem done_same {n a b : Nat} {f : Nat → Nat → Int} {o : Int} {bs : List (List Nat × Int)} (h : Done n f o a b bs) (hm : f a b = o) : Done n f o a (b + 1) bs := fun i j hi hj => by
  rw [h i j hi hj]
  by_cases e : i = a ∧ j = b
  · obtain ⟨rfl, rfl⟩ := e
    rw [if_neg (by omega), if_pos (by omega), hm]
  · by_cases e2 : i < a ∨ (i = a ∧ j < b)
    · rw [if_pos e2, if_pos (by omega)]
    · rw [if_neg e2, if_neg (by omega)]
theorem done_row {n a : Nat} {f : Nat → Nat → Int} {o : Int} {bs : List (List Nat × Int)} (h : Done n f o a n bs) : Done n f o (a + 1) (a + 2) bs := fun i j hi hj => by
  rw [h i j hi hj]
  by_cases e2 : i < a ∨ (i = a ∧ j < n)
  · rw [if_pos e2, if_pos (by omega)]
  · rw [if_neg e2, if_neg (by omega)]
theorem done_all {n b : Nat} {f : Nat → Nat → Int} {o : Int} {bs : List (List Nat × Int)} (hf : Anti n f) (h : Done n f o n b bs) : ∀ i j, i < n → j < n → cnt bs i j = f i j :=
  anti_ext (anti_cnt n bs) hf fun i j hi hj => by rw [h i j hi hj, if_pos (by omega)]
/-- all numbers above are like the first one -/
def Alike (n : Nat) (f : Nat → Nat → Int) : Prop := ∀ i j, i < j → j < n → f i j % 2 = f 0 1 % 2
end Hc

namespace Hc
open PySem PySem.Spec PyProof.Rows L2 Evl
/-! ### one of two rules -/
theorem pe_alt {X : Cx} {e : Expr} {t u : TE} (h1 : PE X e t) (h2 : PE X e u) : PE X e (fun σ H Q => t σ H Q ∨ u σ H Q) := ⟨fun pins s σ H Q I h => h.elim (h1.run pins s σ H Q I) (h2.run pins s σ H Q I)⟩
/-! ### max, min of a pair of numbers -/
/-- a pair's walk, for the two built-ins alike: the better of the two is handed on -/
theorem pair_walk {prog : Program} {w : World} {B : Around} {op : CmpOp} {sh : Shared} {q : Addr} {x y : Int} {tx ty : Tok} {bt : Nat → Nat → Bool} {R : Value → Shared → Prop} {F : Value → Shared → Prop} (hB : B.handled = none) (hp : sh.heap.IsTuple q #[.int x tx, .int y ty])
    (hc : CmpOf prog w B op (fun i v => (#[Value.int x tx, Value.int y ty] : Array Value)[i]? = some v) bt) (done : ∀ v hh tt, (v = .int x tx ∧ bt 1 0 = false ∨ v = .int y ty ∧ bt 1 0 = true) → (∀ c o, sh.heap.get? c = some o → hh.get? c = some o) → R v { sh with heap := hh, toks := tt }) :
    wpAny (model prog w) B (pyIter (.ref q)) (fun it s2 => ∃ I fp wr n P St bt', it = .ref I ∧ Walks prog w B I fp wr n P St ∧ St 0 s2.heap ∧ (∀ c ∈ fp, c < s2.heap.objs.size) ∧ 0 < n ∧ CmpOf prog w B op P bt' ∧
      ∀ v hh tt, P (argBest bt' (n - 1)) v → (∀ c o, c ∉ wr → s2.heap.get? c = some o → hh.get? c = some o) → R v { s2 with heap := hh, toks := tt }) F sh := by
  have lt : q < sh.heap.objs.size := hp.elim fun _ z => Heap.lt_size z.1
  apply wpAny_pyIter_tuple hp
  refine ⟨_, _, _, _, _, _, bt, rfl, Walks.tuple hB _ q (Nat.ne_of_lt lt) #[Value.int x tx, Value.int y ty], ⟨⟨_, Heap.get?_push_size _ rfl, rfl, rfl⟩, hp.push _⟩, ?_, by simp, hc, ?_⟩
  · intro c hc2
    rw [Heap.size_push]
    have : c = sh.heap.objs.size ∨ c = q := by simpa using hc2
    rcases this with e | e <;> rw [e]
    · exact Nat.lt_succ_self _
    · exact Nat.lt_succ_of_lt lt
  · intro v hh tt best keep
    refine done v hh tt ?_ fun c o ho => keep c o (fun z => ?_) (Heap.get?_push_of_some _ ho)
    · cases hb : bt 1 0 <;> simp [argBest, hb] at best
      · exact .inl ⟨best.symm, rfl⟩
      · exact .inr ⟨best.symm, rfl⟩
    · have z1 : c = sh.heap.objs.size := by simpa using z
      exact Nat.lt_irrefl _ (z1 ▸ Heap.lt_size ho)
def rMaxT (K : PySem.W.Frag) : List V → Hp → VK → Prop := fun vs H Q => ∃ (p : Addr) (x y : Int), vs = [V.ref p] ∧ SqT K H p [.int x, .int y] ∧ Q (.int (max x y)) H
def rMinT (K : PySem.W.Frag) : List V → Hp → VK → Prop := fun vs H Q => ∃ (p : Addr) (x y : Int), vs = [V.ref p] ∧ SqT K H p [.int x, .int y] ∧ Q (.int (min x y)) H
theorem maxTK {X : Cx} (K : PySem.W.Frag) (h : X.K = K := by rfl) (hc : X.calm = true := by rfl) : CallR X (.builtin "max") (rMaxT K) := by
  subst h
  rintro pins sh σ H _ us Q I rel ⟨p, x, y, rfl, hp, want⟩
  obtain ⟨its, rv, tup, _⟩ := I.tuple hp
  obtain ⟨_, _, rfl, ⟨tx, rfl⟩, ⟨ty, rfl⟩⟩ := vals2 rv
  rw [Vals.ref1 rel]
  refine call_max_walk (pair_walk (I.ok.hd hc) tup (CmpOf.ints_gt (fun i => if i = 0 then x else y) fun i v hv => ?_) fun v hh tt hv keep => ?_)
  · match i, hv with
    | 0, hv => exact ⟨tx, (Option.some.inj hv).symm⟩
    | 1, hv => exact ⟨ty, (Option.some.inj hv).symm⟩
    | _ + 2, hv => simp at hv
  · refine ⟨.int (max x y), H, I.kept keep, ?_, want⟩
    rcases hv with ⟨rfl, z⟩ | ⟨rfl, z⟩
    · have z2 : ¬ y > x := of_decide_eq_false z
      exact ⟨tx, by rw [show max x y = x by omega]⟩
    · have z2 : y > x := of_decide_eq_true z
      exact ⟨ty, by rw [show max x y = y by omega]⟩
theorem minTK {X : Cx} (K : PySem.W.Frag) (h : X.K = K := by rfl) (hc : X.calm = true := by rfl) : CallR X (.builtin "min") (rMinT K) := by
  subst h
  rintro pins sh σ H _ us Q I rel ⟨p, x, y, rfl, hp, want⟩
  obtain ⟨its, rv, tup, _⟩ := I.tuple hp
  obtain ⟨_, _, rfl, ⟨tx, rfl⟩, ⟨ty, rfl⟩⟩ := vals2 rv
  rw [Vals.ref1 rel]
  refine call_min_walk (pair_walk (I.ok.hd hc) tup (CmpOf.ints_lt (fun i => if i = 0 then x else y) fun i v hv => ?_) fun v hh tt hv keep => ?_)
  · match i, hv with
    | 0, hv => exact ⟨tx, (Option.some.inj hv).symm⟩
    | 1, hv => exact ⟨ty, (Option.some.inj hv).symm⟩
    | _ + 2, hv => simp at hv
  · refine ⟨.int (min x y), H, I.kept keep, ?_, want⟩
    rcases hv with ⟨rfl, z⟩ | ⟨rfl, z⟩
    · have z2 : ¬ y < x := of_decide_eq_false z
      exact ⟨tx, by rw [show min x y = x by omega]⟩
    · have z2 : y < x := of_decide_eq_true z
      exact ⟨ty, by rw [show min x y = y by omega]⟩
/-! ### how many unlike numbers -/
theorem firstMet_facts (val : Nat → Int) : ∀ i, (firstMet val i).Nodup ∧ ∀ x, x ∈ firstMet val i ↔ ∃ j, j < i ∧ val j = x
  | 0 => by
    rw [firstMet_zero]
    exact ⟨List.nodup_nil, fun x => ⟨fun h => by simp at h, fun ⟨j, h, _⟩ => by omega⟩⟩
  | i + 1 => by
    obtain ⟨h1, h2⟩ := firstMet_facts val i
    have e : firstMet val (i + 1) = if (firstMet val i).any (· == val i) then firstMet val i else firstMet val i ++ [val i] := by rw [firstMet_succ]; rfl
    rw [e]
    by_cases hb : (firstMet val i).any (· == val i) = true
    · rw [if_pos hb]
      refine ⟨h1, fun x => ⟨fun hx => ?_, fun ⟨j, hj, ej⟩ => ?_⟩⟩
      · obtain ⟨j, hj, ej⟩ := (h2 x).mp hx
        exact ⟨j, by omega, ej⟩
      · by_cases hji : j < i
        · exact (h2 x).mpr ⟨j, hji, ej⟩
        · have : j = i := by omega
          subst this
          obtain ⟨y, hy, ey⟩ := List.any_eq_true.mp hb
          have ey2 : y = val j := eq_of_beq ey
          rw [← ej, ← ey2]
          exact hy
    · rw [if_neg hb]
      have hni : val i ∉ firstMet val i := fun hm => hb (List.any_eq_true.mpr ⟨_, hm, beq_self_eq_true _⟩)
      refine ⟨?_, fun x => ⟨fun hx => ?_, fun ⟨j, hj, ej⟩ => ?_⟩⟩
      · rw [List.nodup_append]
        refine ⟨h1, by simp, fun a ha b hb' e2 => ?_⟩
        have e3 : b = val i := by simpa using hb'
        exact hni (by rw [← e3, ← e2]; exact ha)
      · rcases List.mem_append.mp hx with hx | hx
        · obtain ⟨j, hj, ej⟩ := (h2 x).mp hx
          exact ⟨j, by omega, ej⟩
        · have e3 : x = val i := by simpa using hx
          exact ⟨i, by omega, e3.symm⟩
      · by_cases hji : j < i
        · exact List.mem_append_left _ ((h2 x).mpr ⟨j, hji, ej⟩)
        · have : j = i := by omega
          subst this
          rw [← ej]
          exact List.mem_append_right _ (List.mem_singleton.mpr rfl)
theorem firstMet_list (ns : List Int) : (firstMet (fun i => ns.getD i 0) ns.length).Nodup ∧ ∀ x, x ∈ firstMet (fun i => ns.getD i 0) ns.length ↔ x ∈ ns := by
  obtain ⟨h1, h2⟩ := firstMet_facts (fun i => ns.getD i 0) ns.length
  refine ⟨h1, fun x => (h2 x).trans ⟨fun ⟨j, hj, ej⟩ => ?_, fun hx => ?_⟩⟩
  · rw [← ej]
    show ns.getD j 0 ∈ ns
    rw [List.getD_eq_getElem?_getD, List.getElem?_eq_getElem hj]
    exact List.getElem_mem hj
  · obtain ⟨j, hj, ej⟩ := List.mem_iff_getElem.mp hx
    refine ⟨j, hj, ?_⟩
    show ns.getD j 0 = x
    rw [List.getD_eq_getElem?_getD, List.getElem?_eq_getElem hj]
    exact ej
/-- set(xs): a new set of what is in xs -/
def rSetL (K : PySem.W.Frag) : List V → Hp → VK → Prop := fun vs H Q => ∃ (l : Addr) (ns : List Int), vs = [.ref l] ∧ SqL K H l (ns.map V.int) ∧ ns.length ≤ 4000 ∧ ∀ (p : Addr) (d : List Int), H p = none → d.Nodup → (∀ x, x ∈ d ↔ x ∈ ns) → d.length ≤ ns.length → Q (.ref p) (upd H p (.set (fun k => d.any (· == k)) d.length))
theorem setLK {X : Cx} (K : PySem.W.Frag) (h : X.K = K := by rfl) (hc : X.calm = true := by rfl) : CallR X (.type "set") (rSetL K) := by
  subst h
  rintro pins sh σ H _ us Q I rel ⟨l, ns, rfl, hl, small, want⟩
  obtain ⟨its, rv, pl, _⟩ := I.list hl
  have len : its.length = ns.length := by simpa using rv.length.symm
  obtain ⟨u1, u2⟩ := firstMet_list ns
  rw [Vals.ref1 rel]
  have size : its.toArray.size = ns.length := by simpa using len
  apply call_set_list (I.ok.hd hc) pl.isList (ns := ns) (by simpa using rv.ints) (by rw [size]; unfold scanBound; omega)
  intro hh tt new keep
  rw [size] at new
  exact ⟨.ref _, _, I.laid (o := .set _ _) (fun c o ho => keep c o (Heap.lt_size ho) ho) (Nat.le_refl _) new, rfl, want _ _ (I.hok.fresh (Nat.le_refl _)) u1 u2 (firstMet_length_le _ _)⟩
/-- len of such a set -/
def rLenZ : List V → Hp → VK → Prop := fun vs H Q => ∃ (p : Addr) (S : Int → Bool) (n : Nat), vs = [.ref p] ∧ H p = some (.set S n) ∧ n ≤ 4000 ∧ Q (.int (n : Nat)) H
theorem lenZ {X : Cx} : CallR X (.builtin "len") rLenZ := by
  rintro pins sh σ H _ us Q I rel ⟨p, S, n, rfl, hp, small, want⟩
  rw [Vals.ref1 rel]
  obtain ⟨ob, es, ep, tb, at1, ex, dat, _, _, _, fit, num⟩ := (show sh.heap.SetOf (intKind X.prog X.w) p S n from I.hok p _ hp)
  apply call_len_set at1 ex dat fit (by omega)
  exact ⟨.int (n : Nat), H, I.tok _, ⟨_, by rw [num]⟩, want⟩
end Hc
namespace Hc
open PySem PySem.Spec PyProof.Rows L2 Evl
/-! ### instances of own classes -/
/-- an instance of C has C as its type -/
def Typ (K : PySem.W.Frag) (C : Addr) : Prop := ∀ (H : Hp) (a dx : Addr) (fs : List (Str × V)), H a = some (.ins C dx fs) → TyX K H (.ref a) (.ref C)
theorem tyx_ins {K : PySem.W.Frag} {H : Hp} {a C dx : Addr} {fs : List (Str × V)} (e : H a = some (.ins C dx fs)) (_cl : Cls K C) (y : Typ K C) : TyX K H (.ref a) (.ref C) := y H a dx fs e
end Hc
namespace Hc
open PySem PySem.Spec PyProof.Rows L2 Evl
/-! ### ranges by counts -/
theorem walk_rg0 {n : Nat} : Walk (Itr 0 n) n (fun _ => True) (fun i H x H' => H' = H ∧ x = .int ((i : Nat) : Int)) :=
  walk_range.mono (fun _ h => h) fun i H x H' _ _ y => ⟨y.1, y.2.trans (by show V.int (0 + (i : Int)) = _; rw [Int.zero_add])⟩
theorem walk_rg {a n : Nat} : Walk (Itr (a : Int) n) n (fun _ => True) (fun i H x H' => H' = H ∧ x = .int ((a + i : Nat) : Int)) :=
  walk_range.mono (fun _ h => h) fun i H x H' _ _ y => ⟨y.1, y.2.trans (by show V.int ((a : Int) + (i : Int)) = _; rw [Int.natCast_add])⟩
end Hc
namespace Hc
open PySem PySem.Spec PyProof.Rows L2 Evl
/-! ### three comparisons in a row, as a value -/
/-- one link: the next thing, the comparison, and, if it holds, what is left of the row -/
def tLink (r : R2) (tb : TE) (Nx : V → Hp → Prop) (No : Hp → Prop) (x : V) : L2.St → Hp → Prop := fun σ H => tb σ H fun y H1 => r x y H1 fun z H2 => ∃ k, z = .bl k ∧ (if k = true then Nx y H2 else No H2)
theorem link_run {X : Cx} {b : Expr} {tb : TE} {pos : Pos} {op op' : CmpOp} {ops : List CmpOp} {r : R2} {more : Sem Value} {rest : List (Sem Value)} {Nx : V → Hp → Prop} {Q : VK} {pins : List (Addr × Obj)} {sh : Shared} {σ : L2.St} {H : Hp} {x : V} {u : Value}
    (ho : OpR X (compareOp op) r) (hb : PE X b tb) (I : Inv X pins σ H sh) (rx : RelV x u) (h : tLink r tb Nx (Q (.bl false)) x σ H)
    (go : ∀ y v s' H', Inv X pins σ H' s' → RelV y v → Nx y H' → wpAny (model X.prog X.w) X.A (compareChain pos v (op' :: ops) (more :: rest)) (EP X pins σ Q) X.xe s') :
    wpAny (model X.prog X.w) X.A (compareChain pos u (op :: op' :: ops) (eval b X.env :: more :: rest)) (EP X pins σ Q) X.xe sh := by
  apply chain_link
  refine thn (hb.run pins sh σ H _ I h) ?_
  rintro v s1 ⟨y, H1, I1, ry, q1⟩
  refine thn (ho pins s1 σ H1 x y u v _ I1 rx ry q1) ?_
  rintro c s2 ⟨_, H2, I2, rc, k, rfl, q2⟩
  cases rc
  apply wpAny_truthy_bool
  by_cases hk : k = true
  · subst hk
    exact go y v s2 H2 I2 ry q2
  · have : k = false := by simpa using hk
    subst this
    exact ⟨.bl false, H2, I2, rfl, q2⟩
def tChain3 (r r' r'' : R2) (ta tb tc td : TE) : TE := fun σ H Q => ta σ H fun x H1 => tLink r tb (fun y H2 => tLink r' tc (fun w' H3 => td σ H3 fun v' H4 => r'' w' v' H4 Q) (Q (.bl false)) y σ H2) (Q (.bl false)) x σ H1
theorem pe_chain3 {X : Cx} {a b c d : Expr} {ta tb tc td : TE} {pos : Pos} {op op' op'' : CmpOp} {r r' r'' : R2} (ho : OpR X (compareOp op) r) (ho' : OpR X (compareOp op') r') (ho'' : OpR X (compareOp op'') r'') (ha : PE X a ta) (hb : PE X b tb) (hc : PE X c tc) (hd : PE X d td)
    (hm : lastMarks [op, op', op''] [b, c, d] = false := by with_unfolding_all rfl) : PE X (.Compare a [op, op', op''] [b, c, d] pos) (tChain3 r r' r'' ta tb tc td) := by
  constructor
  intro pins sh σ H Q I h
  apply Compare_chain (hm := hm)
  refine thn (ha.run pins sh σ H _ I h) ?_
  rintro u s1 ⟨x, H1, I1, rx, q1⟩
  refine link_run ho hb I1 rx q1 fun y v s2 H2 I2 ry q2 => link_run ho' hc I2 ry q2 fun w' z s3 H3 I3 rz q3 => chain_last ?_
  exact thn (hd.run pins s3 σ H3 _ I3 q3) fun e s4 ⟨v', H4, I4, rv, q4⟩ => ho'' pins s4 σ H4 w' v' z e Q I4 rz rv q4
end Hc
namespace Hc
open PySem PySem.Spec PyProof.Rows L2 Evl
theorem BalsN.exB {H0 H H' : Hp} {x D : Addr} {ts ls : List Addr} {bs : List (List Nat × Int)} (B : BalsN H0 H D ts ls bs) (hx : H0 x ≠ none) (e : ExB x H H') : BalsN H0 H' D ts ls bs := by
  have nD : D ≠ x := fun q => hx (q ▸ B.fD)
  refine ⟨e _ _ nD B.top, B.lt, B.ll, fun i t l b ht hl hb => ?_, B.nd, B.fl, B.ft, B.fD⟩
  obtain ⟨h1, h2⟩ := B.at_ i t l b ht hl hb
  exact ⟨e _ _ (fun q => hx (q ▸ B.ft t (List.mem_of_getElem? ht))) h1, e _ _ (fun q => hx (q ▸ B.fl l (List.mem_of_getElem? hl))) h2⟩
theorem BalsN.mono {H0 H H' : Hp} {D : Addr} {ts ls : List Addr} {bs : List (List Nat × Int)} (B : BalsN H0 H D ts ls bs) (e : Ex H H') : BalsN H0 H' D ts ls bs :=
  ⟨e _ _ B.top, B.lt, B.ll, fun i t l b ht hl hb => ⟨e _ _ (B.at_ i t l b ht hl hb).1, e _ _ (B.at_ i t l b ht hl hb).2⟩, B.nd, B.fl, B.ft, B.fD⟩
theorem BalsN.base {Hb H0 H : Hp} {D : Addr} {ts ls : List Addr} {bs : List (List Nat × Int)} (B : BalsN H0 H D ts ls bs) (e : Ex Hb H0) : BalsN Hb H D ts ls bs :=
  ⟨B.top, B.lt, B.ll, B.at_, B.nd, fun l h => fresh_back e (B.fl l h), fun t h => fresh_back e (B.ft t h), fresh_back e B.fD⟩
end Hc
namespace Hc
open PySem PySem.Spec PyProof.Rows L2 Evl
section
variable {J : It} {n : Nat} {G : Hp → Prop} {Y : Nat → Hp → V → Hp → Prop} {g : TG} {tt : TT} {te : TE} {vs : List Nat} {σ : L2.St} {H1 : Hp} {D : Addr} {Qd : Hp → Prop}
/-- some of the items, by value -/
theorem lc_filt (w : Walk J n G Y) (hD : H1 D = none) (hn : n ≤ 90000) (hG : ∀ H, Ex H1 H → G H) (p : Nat → Bool) (v : Nat → V)
    (hs : ∀ (i : Nat) (x : V) (H H' : Hp), i < n → Ex H1 H → Y i H x H' → ∀ (A : Hp → Prop) (Qc : VK), (∀ H3, Ex H H3 → p i = false → A H3) → (∀ H4, Ex H H4 → p i = true → Qc (v i) H4) → g x (wipe σ vs) H' fun σ2 H2 => wipe σ2 vs = wipe σ vs ∧ tt σ2 H2 fun b H3 => if b = true then te σ2 H3 Qc else A H3)
    (hd : ∀ H, Ex H1 H → H D = some (.lst (((List.range n).filter p).map v)) → Qd H) :
    ∃ W : Nat → Nat → Hp → Prop, (∃ m, W 0 m (upd H1 D (.lst []))) ∧ ∀ i m H, W i m H → (J.stop i H ∧ Qd H) ∨ (J.go i H ∧ ∃ Nx : Hp → Prop, (∀ H', Nx H' → ∃ m', m' < m ∧ W (i + 1) m' H') ∧ ∀ x H', J.yld i H x H' → g x (wipe σ vs) H' fun σ2 H2 => wipe σ2 vs = wipe σ vs ∧ tt σ2 H2 fun b H3 => if b = true then te σ2 H3 fun y H4 => ∃ acc, H4 D = some (.lst acc) ∧ acc.length < sizeLine ∧ Nx (upd H4 D (.lst (acc ++ [y]))) else Nx H3) := by
  refine lc_it w (fun i H => i ≤ n ∧ Ex H1 H ∧ H D = some (.lst (((List.range i).filter p).map v))) ⟨Nat.zero_le _, Ex.new hD, upd_same⟩ (fun i H _ ⟨_, e, _⟩ => hG H e) ?_ (fun H ⟨_, e, h1⟩ => hd H e h1)
  rintro i x H H' hi ⟨_, e, h1⟩ hy
  refine hs i x H H' hi e hy _ _ (fun H3 e3 hp => ⟨hi, e.trans e3, ?_⟩) (fun H4 e4 hp => ⟨_, e4 _ _ h1, ?_, hi, (e.trans e4).mut hD, ?_⟩)
  · rw [e3 _ _ h1, List.range_succ, List.filter_append]
    simp [hp]
  · refine sz_lt ?_
    rw [List.length_map]
    have := List.length_filter_le p (List.range i)
    rw [List.length_range] at this
    omega
  · rw [upd_same, List.range_succ, List.filter_append]
    simp [hp]
end
theorem eqV_int (i j : Int) : eqV (.int i) (.int j) = (i == j) := rfl
theorem dec_int (i j : Int) : decide (V.int i = V.int j) = decide (i = j) := by
  by_cases h : i = j
  · rw [decide_eq_true h, decide_eq_true (by rw [h])]
  · rw [decide_eq_false h, decide_eq_false (fun e => h (by injection e))]
theorem dec_bl (i j : Bool) : decide (V.bl i = V.bl j) = (i == j) := by
  cases i <;> cases j <;> rfl
/-- two new ballots -/
theorem balsN_two {H0 H : Hp} {D t1 t2 l1 l2 : Addr} {b1 b2 : List Nat × Int} (top : H D = some (.lst [.ref t1, .ref t2])) (h1 : H t1 = some (.tup [.ref l1, .int b1.2])) (h2 : H l1 = some (.lst (nv b1.1))) (h3 : H t2 = some (.tup [.ref l2, .int b2.2])) (h4 : H l2 = some (.lst (nv b2.1)))
    (ne : l1 ≠ l2) (f1 : H0 l1 = none) (f2 : H0 l2 = none) (f3 : H0 t1 = none) (f4 : H0 t2 = none) (f5 : H0 D = none) : BalsN H0 H D [t1, t2] [l1, l2] [b1, b2] := by
  refine ⟨top, rfl, rfl, fun i t l b ht hl hb => ?_, ?_, fun l hl => ?_, fun t ht => ?_, f5⟩
  · match i with
    | 0 =>
      cases (show some t1 = some t from ht)
      cases (show some l1 = some l from hl)
      cases (show some b1 = some b from hb)
      exact ⟨h1, h2⟩
    | 1 =>
      cases (show some t2 = some t from ht)
      cases (show some l2 = some l from hl)
      cases (show some b2 = some b from hb)
      exact ⟨h3, h4⟩
    | k + 2 => simp at ht
  · simp [ne]
  · rcases List.mem_cons.mp hl with rfl | hl
    · exact f1
    · have e : l = l2 := by simpa using hl
      rw [e]
      exact f2
  · rcases List.mem_cons.mp ht with rfl | ht
    · exact f3
    · have e : t = t2 := by simpa using ht
      rw [e]
      exact f4
theorem ne_of_fresh {H : Hp} {a b : Addr} {o : HO} (h : H a = some o) (hb : H b = none) : a ≠ b := fun e => by
  rw [e, hb] at h
  cases h
theorem paired_of {K : PySem.W.Frag} {H : Hp} : ∀ (ts ls : List Addr) (bs : List (List Nat × Int)), ts.length = bs.length → ls.length = bs.length → (∀ (i : Nat) (t l : Addr) (b : List Nat × Int), ts[i]? = some t → ls[i]? = some l → bs[i]? = some b → H t = some (.tup [.ref l, .int b.2]) ∧ H l = some (.lst (nv b.1))) → Paired (BalR K H) (ts.map V.ref) bs
  | [], _, [], _, _, _ => .nil
  | [], _, _ :: _, hl, _, _ => by simp at hl
  | _ :: _, _, [], hl, _, _ => by simp at hl
  | _ :: _, [], _ :: _, _, hl, _ => by simp at hl
  | t :: ts, l :: ls, b :: bs, hl, hl2, h => by
    obtain ⟨q1, q2⟩ := h 0 t l b rfl rfl rfl
    exact .cons ⟨t, l, rfl, st_of q1, sq_of q2⟩ (paired_of ts ls bs (by simpa using hl) (by simpa using hl2) fun i t' l' b' a1 a2 a3 => h (i + 1) t' l' b' (by simpa using a1) (by simpa using a2) (by simpa using a3))
theorem BalsN.paired {K : PySem.W.Frag} {H0 H : Hp} {D : Addr} {ts ls : List Addr} {bs : List (List Nat × Int)} (B : BalsN H0 H D ts ls bs) : Paired (BalR K H) (ts.map V.ref) bs := paired_of ts ls bs B.lt B.ll B.at_
/-- new ballots without F -/
theorem BalsN.rem {K : PySem.W.Frag} {H0 H : Hp} {F D : Addr} {ts ls : List Addr} {bs : List (List Nat × Int)} (B : BalsN H0 H D ts ls bs) (hF : H0 F ≠ none) : Paired (BalR K (Hc.rem H F)) (ts.map V.ref) bs := by
  have ne : ∀ a, H0 a = none → a ≠ F := fun a h e => hF (by rw [← e]; exact h)
  refine paired_of ts ls bs B.lt B.ll fun i t l b ht hl hb => ?_
  rw [rem_ne (ne _ (B.ft t (List.mem_of_getElem? ht))), rem_ne (ne _ (B.fl l (List.mem_of_getElem? hl)))]
  exact B.at_ i t l b ht hl hb
end Hc
namespace Hc
open PySem PySem.Spec PyProof.Rows L2 Evl
theorem ex_made {H : Hp} {x dx C : Addr} (nx : H x = none) (ndx : H dx = none) (ne : dx ≠ x) : Ex H (upd (upd H dx (.own x)) x (.ins C dx [])) := (Ex.new ndx).trans (Ex.new (by rw [upd_ne ne.symm]; exact nx))
theorem ex_after {H H3 : Hp} {x dx C : Addr} (nx : H x = none) (ndx : H dx = none) (ne : dx ≠ x) (eB : ExB x (upd (upd H dx (.own x)) x (.ins C dx [])) H3) : Ex H H3 := fun a o ha => eB a o (ne_of_fresh ha nx) (ex_made nx ndx ne a o ha)
end Hc
namespace Hc
open PySem PySem.Spec PyProof.Rows L2 Evl
/-! ### ballots whose lists are the program's own -/
def BalW (H : Hp) (x : V) (b : List Nat × Int) : Prop := ∃ (t l : Addr), x = .ref t ∧ H t = some (.tup [.ref l, .int b.2]) ∧ H l = some (.lst (nv b.1))
def BalsW (H : Hp) (v : V) (bs : List (List Nat × Int)) : Prop := ∃ (a : Addr) (xs : List V), v = .ref a ∧ H a = some (.lst xs) ∧ Paired (BalW H) xs bs
section
variable {K : PySem.W.Frag} {H H' : Hp} {v x : V} {bs : List (List Nat × Int)} {b : List Nat × Int}
theorem BalW.mono (h : BalW H x b) (e : Ex H H') : BalW H' x b := by
  obtain ⟨t, l, h1, h2, h3⟩ := h
  exact ⟨t, l, h1, e _ _ h2, e _ _ h3⟩
theorem BalsW.mono (h : BalsW H v bs) (e : Ex H H') : BalsW H' v bs := by
  obtain ⟨a, xs, h1, h2, h3⟩ := h
  exact ⟨a, xs, h1, e _ _ h2, Paired.mapP h3 fun _ _ q => q.mono e⟩
theorem BalW.rd (h : BalW H x b) : BalR K H x b := by
  obtain ⟨t, l, h1, h2, h3⟩ := h
  exact ⟨t, l, h1, st_of h2, sq_of h3⟩
theorem BalsW.rd (h : BalsW H v bs) : BalsR K H v bs := by
  obtain ⟨a, xs, h1, h2, h3⟩ := h
  exact ⟨a, xs, h1, sq_of h2, Paired.mapP h3 fun _ _ q => q.rd⟩
end
theorem pairedW_of {H : Hp} : ∀ (ts ls : List Addr) (bs : List (List Nat × Int)), ts.length = bs.length → ls.length = bs.length → (∀ (i : Nat) (t l : Addr) (b : List Nat × Int), ts[i]? = some t → ls[i]? = some l → bs[i]? = some b → H t = some (.tup [.ref l, .int b.2]) ∧ H l = some (.lst (nv b.1))) → Paired (BalW H) (ts.map V.ref) bs
  | [], _, [], _, _, _ => .nil
  | [], _, _ :: _, hl, _, _ => by simp at hl
  | _ :: _, _, [], hl, _, _ => by simp at hl
  | _ :: _, [], _ :: _, _, hl, _ => by simp at hl
  | t :: ts, l :: ls, b :: bs, hl, hl2, h => by
    obtain ⟨q1, q2⟩ := h 0 t l b rfl rfl rfl
    exact .cons ⟨t, l, rfl, q1, q2⟩ (pairedW_of ts ls bs (by simpa using hl) (by simpa using hl2) fun i t' l' b' a1 a2 a3 => h (i + 1) t' l' b' (by simpa using a1) (by simpa using a2) (by simpa using a3))
theorem BalsN.w {H0 H : Hp} {D : Addr} {ts ls : List Addr} {bs : List (List Nat × Int)} (B : BalsN H0 H D ts ls bs) : BalsW H (.ref D) bs := ⟨D, _, rfl, B.top, pairedW_of ts ls bs B.lt B.ll B.at_⟩
end Hc
namespace Hc
open PySem PySem.Spec PyProof.Rows L2 Evl
theorem rowV_take {n i : Nat} {g : Nat → Int} (h : i ≤ n) : (rowV n g).take i = rowV i g := by
  unfold rowV
  rw [← List.map_take, List.take_range, Nat.min_eq_left h]
end Hc
namespace Hc
open PySem PySem.Spec PyProof.Rows L2 Evl
/-! ### told ballots, the first one's line made longer, one more behind -/
theorem balsN_neB {H0 H : Hp} {B : Addr} {ts ls : List Addr} {bs : List (List Nat × Int)} (BN : BalsN H0 H B ts ls bs) {i : Nat} {l : Addr} (hl : ls[i]? = some l) : l ≠ B := fun e => by
  subst e
  have hi : i < ls.length := (List.getElem?_eq_some_iff.mp hl).1
  have hb : i < bs.length := by rw [← BN.ll]; exact hi
  have ht : i < ts.length := by rw [BN.lt]; exact hb
  obtain ⟨_, h2⟩ := BN.at_ i _ l _ (List.getElem?_eq_getElem ht) hl (List.getElem?_eq_getElem hb)
  rw [BN.top] at h2
  have h3 : ts.map V.ref = nv bs[i].1 := by injection Option.some.inj h2
  cases hts : ts with
  | nil => rw [hts] at ht; simp at ht
  | cons t0 ts' =>
    rw [hts] at h3
    unfold nv at h3
    cases hb1 : bs[i].1 with
    | nil => rw [hb1] at h3; simp at h3
    | cons k ks =>
      rw [hb1] at h3
      simp at h3
theorem balsW_bent {H0 H H' : Hp} {B tp p : Addr} {ts ls : List Addr} {bs : List (List Nat × Int)} (BN : BalsN H0 H B ts ls bs) (hB : H' B = some (.lst (ts.map V.ref ++ [.ref tp]))) (htp : H' tp = some (.tup [.ref p, .int 1])) (hp : H' p = some (.lst (nv [0])))
    (hl : ∀ l b, ls[0]? = some l → bs[0]? = some b → H' l = some (.lst (nv (b.1 ++ [0])))) (hk : ∀ a o, a ≠ B → ls[0]? ≠ some a → H a = some o → H' a = some o) :
    BalsW H' (.ref B) ((bs.take 1).map (fun b => (b.1 ++ [0], b.2)) ++ bs.drop 1 ++ [([0], 1)]) := by
  refine ⟨B, _, rfl, hB, Paired.append ?_ (.cons ⟨tp, p, rfl, htp, hp⟩ .nil)⟩
  cases hbs : bs with
  | nil =>
    have h1 := BN.lt
    rw [hbs] at h1
    have h2 : ts = [] := List.length_eq_zero_iff.mp h1
    rw [h2]
    exact .nil
  | cons b0 bs' =>
    subst hbs
    have h1 := BN.lt
    have h2 := BN.ll
    cases hts : ts with
    | nil => rw [hts] at h1; simp at h1
    | cons t0 ts' =>
      cases hls : ls with
      | nil => rw [hls] at h2; simp at h2
      | cons l0 ls' =>
        subst hts hls
        have ne0 : ∀ {i : Nat} {t : Addr}, (t0 :: ts')[i]? = some t → t ≠ B ∧ (l0 :: ls')[0]? ≠ some t := fun {i t} ht => by
          have hi : i < (t0 :: ts').length := (List.getElem?_eq_some_iff.mp ht).1
          obtain ⟨q1, q2⟩ := BN.at_ i t _ _ ht (List.getElem?_eq_getElem (by omega : i < (l0 :: ls').length)) (List.getElem?_eq_getElem (by omega : i < (b0 :: bs').length))
          refine ⟨fun e => ?_, fun e => ?_⟩
          · rw [e, BN.top] at q1
            cases q1
          · have e2 : l0 = t := by simpa using e
            obtain ⟨_, q4⟩ := BN.at_ 0 t0 l0 b0 rfl rfl rfl
            rw [e2, q1] at q4
            cases q4
        refine .cons ⟨t0, l0, rfl, ?_, hl l0 b0 rfl rfl⟩ (pairedW_of ts' ls' bs' (by simpa using h1) (by simpa using h2) fun i t l b a1 a2 a3 => ?_)
        · obtain ⟨q1, q2⟩ := BN.at_ 0 t0 l0 b0 rfl rfl rfl
          exact hk _ _ (ne0 (i := 0) rfl).1 (ne0 (i := 0) rfl).2 q1
        · obtain ⟨q1, q2⟩ := BN.at_ (i + 1) t l b (by simpa using a1) (by simpa using a2) (by simpa using a3)
          have n1 := ne0 (i := i + 1) (t := t) (by simpa using a1)
          refine ⟨hk _ _ n1.1 n1.2 q1, hk _ _ (balsN_neB BN (i := i + 1) (by simpa using a2)) (fun e => ?_) q2⟩
          have e2 : l0 = l := by simpa using e
          have := nd_ix BN.nd (i := 0) (j := i + 1) (x := l) (by simpa using e) (by simpa using a2)
          omega
def dLines (bs : List (List Nat × Int)) : PyData := .list (bs.map fun b => .list (b.1.map fun (k : Nat) => .int (k : Int)))
theorem lay_line (ks : List Nat) : (PyData.list (ks.map fun (k : Nat) => .int (k : Int))).canLay0 = true := lay_list _ fun d hd => by
  obtain ⟨j, _, rfl⟩ := List.mem_map.mp hd
  exact lay_int _
theorem lay_lines (bs : List (List Nat × Int)) : (dLines bs).canLay0 = true := lay_list _ fun d hd => by
  obtain ⟨j, _, rfl⟩ := List.mem_map.mp hd
  exact lay_line _
theorem shaped_lines (bs : List (List Nat × Int)) : SeqAt.shaped (dLines bs) = true := shaped_of (lay_lines bs) (depth_list (k := 1) fun d hd => by
  obtain ⟨j, _, rfl⟩ := List.mem_map.mp hd
  refine depth_list (k := 0) fun e he => ?_
  obtain ⟨i, _, rfl⟩ := List.mem_map.mp he
  exact depth_int _) (by decide)
theorem dp_nv {K : PySem.W.Frag} {H : Hp} {a : Addr} {ks : List Nat} (h : SqL K H a (nv ks)) : Dp K H (.ref a) (.list (ks.map fun (k : Nat) => .int (k : Int))) := by
  rw [nv_iv] at h
  have e := dp_ints h
  rw [List.map_map] at e
  exact e
theorem dp_lines {K : PySem.W.Frag} {H : Hp} {a : Addr} {ps : List Addr} {bs : List (List Nat × Int)} (h : H a = some (.lst (ps.map V.ref))) (hl : ps.length = bs.length) (hp : ∀ (i : Nat) (p : Addr) (b : List Nat × Int), ps[i]? = some p → bs[i]? = some b → H p = some (.lst (nv b.1))) : Dp K H (.ref a) (dLines bs) := by
  refine .lst (sq_of h) (dpAll_of (by rw [List.length_map, List.length_map, hl]) fun i x d hx hd => ?_)
  rw [List.getElem?_map] at hx hd
  cases e : ps[i]? with
  | none => rw [e] at hx; cases hx
  | some p =>
    rw [e] at hx
    cases hx
    cases e2 : bs[i]? with
    | none => rw [e2] at hd; cases hd
    | some b =>
      rw [e2] at hd
      cases hd
      exact dp_nv (sq_of (hp i p b e e2))
theorem ecut1 (l : List Addr) : cutV (l.map V.ref) (some 1) none = (l.drop 1).map V.ref := by
  rw [show (1 : Int) = ((1 : Nat) : Int) from rfl, cut_from, List.map_drop]
theorem ecut0 (l : List Addr) : cutV (l.map V.ref) none (some 1) = (l.take 1).map V.ref := by
  rw [show (1 : Int) = ((1 : Nat) : Int) from rfl, cut_to, List.map_take]
end Hc
namespace Hc
open PySem PySem.Spec PyProof.Rows L2 Evl
theorem fldK {X : Cx} {e : Expr} {ta : TE} {f : Str} {pos : Pos} (K : PySem.W.Frag) (he : PE X e ta) (hb : attributeBase e f X.env (eval e X.env) = eval e X.env := by rfl) (h : X.K = K := by rfl) : PE X (.Attribute e f pos) (tFld K ta f) := by
  cases h
  exact pe_fld he hb
end Hc
namespace Hc
open PySem PySem.Spec PyProof.Rows L2 Evl
theorem rowV_reverse {n : Nat} {g : Nat → Int} : (rowV n g).reverse = rowV n (fun j => g (n - 1 - j)) := by
  apply List.ext_getElem?
  intro j
  by_cases hj : j < n
  · rw [List.getElem?_reverse (by rw [rowV_length]; exact hj), rowV_length, rowV_get (by omega), rowV_get hj]
  · rw [List.getElem?_eq_none (by rw [List.length_reverse, rowV_length]; omega), List.getElem?_eq_none (by rw [rowV_length]; omega)]
/-! ### written tables -/
def litF (ls : List (List Int)) (i j : Nat) : Int := (ls.getD i []).getD j 0
theorem rowV_lit {n : Nat} {l : List Int} (h : l.length = n) : rowV n (fun j => l.getD j 0) = iv l := by
  apply List.ext_getElem?
  intro j
  by_cases hj : j < n
  · unfold iv
    rw [rowV_get hj, List.getElem?_map, List.getElem?_eq_getElem (by omega), List.getD_eq_getElem?_getD, List.getElem?_eq_getElem (by omega)]
    rfl
  · rw [List.getElem?_eq_none (by rw [rowV_length]; omega), List.getElem?_eq_none (by rw [iv_length]; omega)]
theorem tabR_lit {K : PySem.W.Frag} {H : Hp} {t : Addr} {rs : List Addr} (ls : List (List Int)) (top : H t = some (.lst (rs.map V.ref))) (hsq : ∀ l ∈ ls, l.length = ls.length) (hr : Paired (fun r l => H r = some (.lst (iv l))) rs ls) : TabR K H (.ref t) ls.length (litF ls) := by
  refine ⟨t, rs, rfl, Paired.len hr, sq_of top, fun i r h => ?_⟩
  obtain ⟨l, h1, h2⟩ := Paired.get hr h
  have e : rowV ls.length (litF ls i) = iv l := by
    rw [← rowV_lit (hsq l (List.mem_of_getElem? h1))]
    refine rowV_congr fun j _ => ?_
    unfold litF
    rw [show ls.getD i [] = l by rw [List.getD_eq_getElem?_getD, h1]; rfl]
  rw [e]
  exact sq_of h2
end Hc
namespace Hc
open PySem PySem.Spec PyProof.Rows L2 Evl
theorem catTK {X : Cx} (K : PySem.W.Frag) (h : X.K = K := by rfl) : OpR X (binaryOp .Add) (rCatT K) := by cases h; exact op_catT
theorem ex_rem {H H' : Hp} {F : Addr} (e : Ex H H') (hF : H F = none) : Ex H (rem H' F) := fun a o ha => by
  rw [rem_ne (ne_of_fresh ha hF)]
  exact e a o ha
end Hc
namespace Hc
open PySem PySem.Spec PyProof.Rows L2 Evl
/-! ### a list of lists of ballots that grows -/
def GoodB (H : Hp) (x : V) : Prop := ∃ bs, BalsW H x bs ∧ bs.length ≤ 100 ∧ ∀ b ∈ bs, b.1.length < 60
theorem GoodB.mono {H H' : Hp} {x : V} (h : GoodB H x) (e : Ex H H') : GoodB H' x := by
  obtain ⟨bs, h1, h2, h3⟩ := h
  exact ⟨bs, h1.mono e, h2, h3⟩
def Tried (H : Hp) (F : Addr) (k : Nat) : Prop := ∃ xs, H F = some (.lst xs) ∧ xs.length ≤ k ∧ ∀ x ∈ xs, GoodB (rem H F) x
theorem Tried.push {H' H'' : Hp} {F : Addr} {k : Nat} {xs : List V} {p : V} (hl : xs.length ≤ k) (h : ∀ x ∈ xs, GoodB (rem H' F) x) (e : Ex H' H'') (hp : GoodB (rem H'' F) p) : Tried (upd H'' F (.lst (xs ++ [p]))) F (k + 1) := by
  refine ⟨_, upd_same, by rw [List.length_append]; show _ + 1 ≤ _; omega, fun x hx => ?_⟩
  rw [rem_upd]
  rcases List.mem_append.mp hx with hx | hx
  · exact (h x hx).mono (rem_mono e)
  · have : x = p := by simpa using hx
    rw [this]
    exact hp
theorem BalsN.remW {H0 H : Hp} {F D : Addr} {ts ls : List Addr} {bs : List (List Nat × Int)} (B : BalsN H0 H D ts ls bs) (hF : H0 F ≠ none) : BalsW (Hc.rem H F) (.ref D) bs := by
  have ne : ∀ a, H0 a = none → a ≠ F := fun a h e => hF (by rw [← e]; exact h)
  refine ⟨D, _, rfl, by rw [rem_ne (ne _ B.fD)]; exact B.top, pairedW_of ts ls bs B.lt B.ll fun i t l b ht hl hb => ?_⟩
  rw [rem_ne (ne _ (B.ft t (List.mem_of_getElem? ht))), rem_ne (ne _ (B.fl l (List.mem_of_getElem? hl)))]
  exact B.at_ i t l b ht hl hb
/-- ballots and more behind -/
theorem goodB_cat {H : Hp} {a : Addr} {xs ys : List V} {bs cs : List (List Nat × Int)} (h : H a = some (.lst (xs ++ ys))) (h1 : Paired (BalW H) xs bs) (h2 : Paired (BalW H) ys cs) (hl : bs.length + cs.length ≤ 100) (k1 : ∀ b ∈ bs, b.1.length < 60) (k2 : ∀ b ∈ cs, b.1.length < 60) : GoodB H (.ref a) :=
  ⟨bs ++ cs, ⟨a, _, rfl, h, Paired.append h1 h2⟩, by rw [List.length_append]; exact hl, fun b hb => (List.mem_append.mp hb).elim (k1 b) (k2 b)⟩
theorem rep_nv (n : Nat) : (List.replicate n [V.int 0]).flatten = nv (List.replicate n 0) := by
  unfold nv
  rw [List.map_replicate]
  induction n with
  | zero => rfl
  | succ n ih => rw [List.replicate_succ, List.flatten_cons, ih, List.replicate_succ]; rfl
end Hc
namespace Hc
open PySem PySem.Spec PyProof.Rows L2 Evl
theorem named {H H' : Hp} (e : Ex H H') : ∃ H5, H5 = H' := ⟨_, rfl⟩
end Hc

namespace Hc
open PySem PySem.Spec PyProof.Rows L2 Evl
def topS (i : Nat) : Stmt := PySem.Challenge.pw_headcounts_k02_whole_told.main.body.getD i (.Pass ⟨0, 0, 0, 0⟩)
abbrev s_is_number : Stmt := topS 5
theorem sc_is_number : FnScope ["thing"] ["thing"] (defScope s_is_number) := ⟨rfl, rfl, rfl, by decide +kernel, rfl, by decide +kernel, by decide +kernel⟩
abbrev s_are_ballots : Stmt := topS 6
theorem sc_are_ballots : FnScope ["candidates", "ballots", "ballot", "one"] ["candidates", "ballots"] (defScope s_are_ballots) := ⟨rfl, rfl, rfl, by decide +kernel, rfl, by decide +kernel, by decide +kernel⟩
abbrev s_asked_table : Stmt := topS 7
theorem sc_asked_table : FnScope ["table", "row", "one", "other"] ["table"] (defScope s_asked_table) := ⟨rfl, rfl, rfl, by decide +kernel, rfl, by decide +kernel, by decide +kernel⟩
abbrev s_count_of : Stmt := topS 8
theorem sc_count_of : FnScope ["candidates", "ballots", "table", "order", "many", "at", "one", "other"] ["candidates", "ballots"] (defScope s_count_of) := ⟨rfl, rfl, rfl, by decide +kernel, rfl, by decide +kernel, by decide +kernel⟩
abbrev s_is_pair : Stmt := topS 11
theorem sc_is_pair : FnScope ["pair", "size"] ["pair", "size"] (defScope s_is_pair) := ⟨rfl, rfl, rfl, by decide +kernel, rfl, by decide +kernel, by decide +kernel⟩
abbrev s_Ballots__init : Stmt := inClass (topS 12) 0
theorem sc_Ballots__init : FnScope ["self", "ballots", "order", "many"] ["self", "ballots"] (defScope s_Ballots__init) := ⟨rfl, rfl, rfl, by decide +kernel, rfl, by decide +kernel, by decide +kernel⟩
abbrev s_Ballots_shows : Stmt := inClass (topS 12) 1
theorem sc_Ballots_shows : FnScope ["self", "table"] ["self", "table"] (defScope s_Ballots_shows) := ⟨rfl, rfl, rfl, by decide +kernel, rfl, by decide +kernel, by decide +kernel⟩
abbrev s_Uneven__init : Stmt := inClass (topS 13) 0
theorem sc_Uneven__init : FnScope ["self", "one", "other"] ["self", "one", "other"] (defScope s_Uneven__init) := ⟨rfl, rfl, rfl, by decide +kernel, rfl, by decide +kernel, by decide +kernel⟩
abbrev s_Uneven_shows : Stmt := inClass (topS 13) 1
theorem sc_Uneven_shows : FnScope ["self", "table", "mine"] ["self", "table"] (defScope s_Uneven_shows) := ⟨rfl, rfl, rfl, by decide +kernel, rfl, by decide +kernel, by decide +kernel⟩
abbrev s_Unbeaten__init : Stmt := inClass (topS 14) 0
theorem sc_Unbeaten__init : FnScope ["self", "who"] ["self", "who"] (defScope s_Unbeaten__init) := ⟨rfl, rfl, rfl, by decide +kernel, rfl, by decide +kernel, by decide +kernel⟩
abbrev s_Unbeaten_shows : Stmt := inClass (topS 14) 1
theorem sc_Unbeaten_shows : FnScope ["self", "table"] ["self", "table"] (defScope s_Unbeaten_shows) := ⟨rfl, rfl, rfl, by decide +kernel, rfl, by decide +kernel, by decide +kernel⟩
abbrev s_Ring__init : Stmt := inClass (topS 15) 0
theorem sc_Ring__init : FnScope ["self", "way"] ["self", "way"] (defScope s_Ring__init) := ⟨rfl, rfl, rfl, by decide +kernel, rfl, by decide +kernel, by decide +kernel⟩
abbrev s_Ring_shows : Stmt := inClass (topS 15) 1
theorem sc_Ring_shows : FnScope ["self", "table", "one", "at"] ["self", "table"] (defScope s_Ring_shows) := ⟨rfl, rfl, rfl, by decide +kernel, rfl, by decide +kernel, by decide +kernel⟩
abbrev s_two_ballots : Stmt := topS 17
theorem sc_two_ballots : FnScope ["size", "ahead", "behind", "many", "rest", "one"] ["size", "ahead", "behind", "many"] (defScope s_two_ballots) := ⟨rfl, rfl, rfl, by decide +kernel, rfl, by decide +kernel, by decide +kernel⟩
abbrev s_told : Stmt := topS 18
theorem sc_told : FnScope ["table", "size", "odd", "found", "one", "other", "left"] ["table"] (defScope s_told) := ⟨rfl, rfl, rfl, by decide +kernel, rfl, by decide +kernel, by decide +kernel⟩
abbrev s_law_number : Stmt := topS 20
theorem sc_law_number : FnScope ["_law_cell", "_law_at", "_law_whole", "_law_mixed", "_law_more"] ["_law_cell", "_law_at", "_law_whole"] (defScope s_law_number) := ⟨rfl, rfl, rfl, by decide +kernel, rfl, by decide +kernel, by decide +kernel⟩
abbrev s_law_table : Stmt := topS 21
theorem sc_law_table : FnScope ["_law_script", "_law_size", "_law_cells", "_law_whole", "_law_most", "_law_kind", "_law_found", "_law_spot", "_law_one", "_law_other", "_law_cell", "_law_number_here", "_law_bent"] ["_law_script", "_law_size"] (defScope s_law_table) := ⟨rfl, rfl, rfl, by decide +kernel, rfl, by decide +kernel, by decide +kernel⟩
abbrev s_law_ballots : Stmt := topS 22
theorem sc_law_ballots : FnScope ["_law_script", "_law_size", "_law_found", "_law_whole", "_law_at", "_law_cell", "_law_number_here", "_law_left", "_law_line"] ["_law_script", "_law_size"] (defScope s_law_ballots) := ⟨rfl, rfl, rfl, by decide +kernel, rfl, by decide +kernel, by decide +kernel⟩
abbrev s_law_count : Stmt := topS 23
theorem sc_law_count : FnScope ["_law_size", "_law_ballots_here", "_law_found", "_law_line", "_law_many", "_law_at", "_law_one", "_law_other"] ["_law_size", "_law_ballots_here"] (defScope s_law_count) := ⟨rfl, rfl, rfl, by decide +kernel, rfl, by decide +kernel, by decide +kernel⟩
abbrev s_law_are_ballots : Stmt := topS 25
theorem sc_law_are_ballots : FnScope ["_law_found", "_law_size", "_law_ballot", "_law_one"] ["_law_found", "_law_size"] (defScope s_law_are_ballots) := ⟨rfl, rfl, rfl, by decide +kernel, rfl, by decide +kernel, by decide +kernel⟩
abbrev s_law_pair : Stmt := topS 26
theorem sc_law_pair : FnScope ["_law_pair_here", "_law_size", "_law_one"] ["_law_pair_here", "_law_size"] (defScope s_law_pair) := ⟨rfl, rfl, rfl, by decide +kernel, rfl, by decide +kernel, by decide +kernel⟩
abbrev s_law_due : Stmt := topS 27
theorem sc_law_due : FnScope ["_law_table_here", "_law_found", "_law_size", "_law_mine", "_law_theirs"] ["_law_table_here", "_law_found"] (defScope s_law_due) := ⟨rfl, rfl, rfl, by decide +kernel, rfl, by decide +kernel, by decide +kernel⟩
abbrev s_law_right : Stmt := topS 28
theorem sc_law_right : FnScope ["_law_table_here", "_law_others", "_law_handed", "_law_found", "_law_rests", "_law_one", "_law_row", "_law_other", "_law_kept", "_law_line", "_law_many", "_law_number_here"] ["_law_table_here", "_law_others"] (defScope s_law_right) := ⟨rfl, rfl, rfl, by decide +kernel, rfl, by decide +kernel, by decide +kernel⟩
abbrev s_law : Stmt := topS 29
theorem sc_law : FnScope ["_law_script", "_law_whole", "_law_size", "_law_table_here", "_law_made", "_law_bent", "_law_one", "_law_other", "_law_some", "_law_row"] ["_law_script"] (defScope s_law) := ⟨rfl, rfl, rfl, by decide +kernel, rfl, by decide +kernel, by decide +kernel⟩
structure Tx (K : PySem.W.Frag) (mg : Str → Option Value) : Type where
  c_Answer : Addr
  g_Answer : mg "Answer" = some (.ref c_Answer)
  c_Ballots : Addr
  g_Ballots : mg "Ballots" = some (.ref c_Ballots)
  c_Uneven : Addr
  g_Uneven : mg "Uneven" = some (.ref c_Uneven)
  c_Unbeaten : Addr
  g_Unbeaten : mg "Unbeaten" = some (.ref c_Unbeaten)
  c_Ring : Addr
  g_Ring : mg "Ring" = some (.ref c_Ring)
  f_is_number : Addr
  d_is_number : FuncData
  F_is_number : Fun K "is_number" "is_number" s_is_number f_is_number d_is_number
  g_is_number : mg "is_number" = some (.ref f_is_number)
  f_are_ballots : Addr
  d_are_ballots : FuncData
  F_are_ballots : Fun K "are_ballots" "are_ballots" s_are_ballots f_are_ballots d_are_ballots
  g_are_ballots : mg "are_ballots" = some (.ref f_are_ballots)
  f_asked_table : Addr
  d_asked_table : FuncData
  F_asked_table : Fun K "asked_table" "asked_table" s_asked_table f_asked_table d_asked_table
  g_asked_table : mg "asked_table" = some (.ref f_asked_table)
  f_count_of : Addr
  d_count_of : FuncData
  F_count_of : Fun K "count_of" "count_of" s_count_of f_count_of d_count_of
  g_count_of : mg "count_of" = some (.ref f_count_of)
  f_is_pair : Addr
  d_is_pair : FuncData
  F_is_pair : Fun K "is_pair" "is_pair" s_is_pair f_is_pair d_is_pair
  g_is_pair : mg "is_pair" = some (.ref f_is_pair)
  f_Ballots__init : Addr
  d_Ballots__init : FuncData
  F_Ballots__init : Fun K "__init__" "Ballots.__init__" s_Ballots__init f_Ballots__init d_Ballots__init
  f_Ballots_shows : Addr
  d_Ballots_shows : FuncData
  F_Ballots_shows : Fun K "shows" "Ballots.shows" s_Ballots_shows f_Ballots_shows d_Ballots_shows
  f_Uneven__init : Addr
  d_Uneven__init : FuncData
  F_Uneven__init : Fun K "__init__" "Uneven.__init__" s_Uneven__init f_Uneven__init d_Uneven__init
  f_Uneven_shows : Addr
  d_Uneven_shows : FuncData
  F_Uneven_shows : Fun K "shows" "Uneven.shows" s_Uneven_shows f_Uneven_shows d_Uneven_shows
  f_Unbeaten__init : Addr
  d_Unbeaten__init : FuncData
  F_Unbeaten__init : Fun K "__init__" "Unbeaten.__init__" s_Unbeaten__init f_Unbeaten__init d_Unbeaten__init
  f_Unbeaten_shows : Addr
  d_Unbeaten_shows : FuncData
  F_Unbeaten_shows : Fun K "shows" "Unbeaten.shows" s_Unbeaten_shows f_Unbeaten_shows d_Unbeaten_shows
  f_Ring__init : Addr
  d_Ring__init : FuncData
  F_Ring__init : Fun K "__init__" "Ring.__init__" s_Ring__init f_Ring__init d_Ring__init
  f_Ring_shows : Addr
  d_Ring_shows : FuncData
  F_Ring_shows : Fun K "shows" "Ring.shows" s_Ring_shows f_Ring_shows d_Ring_shows
  f_two_ballots : Addr
  d_two_ballots : FuncData
  F_two_ballots : Fun K "two_ballots" "two_ballots" s_two_ballots f_two_ballots d_two_ballots
  g_two_ballots : mg "two_ballots" = some (.ref f_two_ballots)
  f_told : Addr
  d_told : FuncData
  F_told : Fun K "told" "told" s_told f_told d_told
  g_told : mg "told" = some (.ref f_told)
  f_law_number : Addr
  d_law_number : FuncData
  F_law_number : Fun K "_law_number" "_law_number" s_law_number f_law_number d_law_number
  g_law_number : mg "_law_number" = some (.ref f_law_number)
  f_law_table : Addr
  d_law_table : FuncData
  F_law_table : Fun K "_law_table" "_law_table" s_law_table f_law_table d_law_table
  g_law_table : mg "_law_table" = some (.ref f_law_table)
  f_law_ballots : Addr
  d_law_ballots : FuncData
  F_law_ballots : Fun K "_law_ballots" "_law_ballots" s_law_ballots f_law_ballots d_law_ballots
  g_law_ballots : mg "_law_ballots" = some (.ref f_law_ballots)
  f_law_count : Addr
  d_law_count : FuncData
  F_law_count : Fun K "_law_count" "_law_count" s_law_count f_law_count d_law_count
  g_law_count : mg "_law_count" = some (.ref f_law_count)
  f_law_are_ballots : Addr
  d_law_are_ballots : FuncData
  F_law_are_ballots : Fun K "_law_are_ballots" "_law_are_ballots" s_law_are_ballots f_law_are_ballots d_law_are_ballots
  g_law_are_ballots : mg "_law_are_ballots" = some (.ref f_law_are_ballots)
  f_law_pair : Addr
  d_law_pair : FuncData
  F_law_pair : Fun K "_law_pair" "_law_pair" s_law_pair f_law_pair d_law_pair
  g_law_pair : mg "_law_pair" = some (.ref f_law_pair)
  f_law_due : Addr
  d_law_due : FuncData
  F_law_due : Fun K "_law_due" "_law_due" s_law_due f_law_due d_law_due
  g_law_due : mg "_law_due" = some (.ref f_law_due)
  f_law_right : Addr
  d_law_right : FuncData
  F_law_right : Fun K "_law_right" "_law_right" s_law_right f_law_right d_law_right
  g_law_right : mg "_law_right" = some (.ref f_law_right)
  f_law : Addr
  d_law : FuncData
  F_law : Fun K "law" "law" s_law f_law d_law
  g_law : mg "law" = some (.ref f_law)
  C_Ballots : Cls K c_Ballots
  y_Ballots : Typ K c_Ballots
  M_Ballots : Mk K c_Ballots f_Ballots__init
  S_Ballots : Meth K c_Ballots "shows" f_Ballots_shows
  a_Ballots_ballots : NoAttr K c_Ballots "ballots"
  k_Ballots_Answer : PySem.W.kitOne K (.ref c_Ballots) (.ref c_Answer) = some true
  k_Ballots_Ballots : PySem.W.kitOne K (.ref c_Ballots) (.ref c_Ballots) = some true
  k_Ballots_Uneven : PySem.W.kitOne K (.ref c_Ballots) (.ref c_Uneven) = some false
  k_Ballots_Unbeaten : PySem.W.kitOne K (.ref c_Ballots) (.ref c_Unbeaten) = some false
  k_Ballots_Ring : PySem.W.kitOne K (.ref c_Ballots) (.ref c_Ring) = some false
  C_Uneven : Cls K c_Uneven
  y_Uneven : Typ K c_Uneven
  M_Uneven : Mk K c_Uneven f_Uneven__init
  S_Uneven : Meth K c_Uneven "shows" f_Uneven_shows
  a_Uneven_one : NoAttr K c_Uneven "one"
  a_Uneven_other : NoAttr K c_Uneven "other"
  k_Uneven_Answer : PySem.W.kitOne K (.ref c_Uneven) (.ref c_Answer) = some true
  k_Uneven_Ballots : PySem.W.kitOne K (.ref c_Uneven) (.ref c_Ballots) = some false
  k_Uneven_Uneven : PySem.W.kitOne K (.ref c_Uneven) (.ref c_Uneven) = some true
  k_Uneven_Unbeaten : PySem.W.kitOne K (.ref c_Uneven) (.ref c_Unbeaten) = some false
  k_Uneven_Ring : PySem.W.kitOne K (.ref c_Uneven) (.ref c_Ring) = some false
  C_Unbeaten : Cls K c_Unbeaten
  y_Unbeaten : Typ K c_Unbeaten
  M_Unbeaten : Mk K c_Unbeaten f_Unbeaten__init
  S_Unbeaten : Meth K c_Unbeaten "shows" f_Unbeaten_shows
  a_Unbeaten_who : NoAttr K c_Unbeaten "who"
  k_Unbeaten_Answer : PySem.W.kitOne K (.ref c_Unbeaten) (.ref c_Answer) = some true
  k_Unbeaten_Ballots : PySem.W.kitOne K (.ref c_Unbeaten) (.ref c_Ballots) = some false
  k_Unbeaten_Uneven : PySem.W.kitOne K (.ref c_Unbeaten) (.ref c_Uneven) = some false
  k_Unbeaten_Unbeaten : PySem.W.kitOne K (.ref c_Unbeaten) (.ref c_Unbeaten) = some true
  k_Unbeaten_Ring : PySem.W.kitOne K (.ref c_Unbeaten) (.ref c_Ring) = some false
  C_Ring : Cls K c_Ring
  y_Ring : Typ K c_Ring
  M_Ring : Mk K c_Ring f_Ring__init
  S_Ring : Meth K c_Ring "shows" f_Ring_shows
  a_Ring_way : NoAttr K c_Ring "way"
  k_Ring_Answer : PySem.W.kitOne K (.ref c_Ring) (.ref c_Answer) = some true
  k_Ring_Ballots : PySem.W.kitOne K (.ref c_Ring) (.ref c_Ballots) = some false
  k_Ring_Uneven : PySem.W.kitOne K (.ref c_Ring) (.ref c_Uneven) = some false
  k_Ring_Unbeaten : PySem.W.kitOne K (.ref c_Ring) (.ref c_Unbeaten) = some false
  k_Ring_Ring : PySem.W.kitOne K (.ref c_Ring) (.ref c_Ring) = some true
  g_MOST : ∃ t, mg "MOST" = some (.int 20 t)
  n_all : mg "all" = none
  n_any : mg "any" = none
  n_bool : mg "bool" = none
  n_enumerate : mg "enumerate" = none
  n_int : mg "int" = none
  n_isinstance : mg "isinstance" = none
  n_len : mg "len" = none
  n_list : mg "list" = none
  n_max : mg "max" = none
  n_min : mg "min" = none
  n_range : mg "range" = none
  n_set : mg "set" = none
  n_sorted : mg "sorted" = none
  n_sum : mg "sum" = none
  n_tuple : mg "tuple" = none
section
variable {K : PySem.W.Frag} {mg : Str → Option Value}
theorem b_is_number (T : Tx K mg) : Binds K T.d_is_number ["thing"] [] := T.F_is_number.binds fun _ _ _ _ _ _ us hl => match us, hl with | [_], _ => rfl
theorem b_are_ballots (T : Tx K mg) : Binds K T.d_are_ballots ["candidates", "ballots"] [] := T.F_are_ballots.binds fun _ _ _ _ _ _ us hl => match us, hl with | [_, _], _ => rfl
theorem b_asked_table (T : Tx K mg) : Binds K T.d_asked_table ["table"] [] := T.F_asked_table.binds fun _ _ _ _ _ _ us hl => match us, hl with | [_], _ => rfl
theorem b_count_of (T : Tx K mg) : Binds K T.d_count_of ["candidates", "ballots"] [] := T.F_count_of.binds fun _ _ _ _ _ _ us hl => match us, hl with | [_, _], _ => rfl
theorem b_is_pair (T : Tx K mg) : Binds K T.d_is_pair ["pair", "size"] [] := T.F_is_pair.binds fun _ _ _ _ _ _ us hl => match us, hl with | [_, _], _ => rfl
theorem b_Ballots__init (T : Tx K mg) : Binds K T.d_Ballots__init ["self", "ballots"] [] := T.F_Ballots__init.binds fun _ _ _ _ _ _ us hl => match us, hl with | [_, _], _ => rfl
theorem b_Ballots_shows (T : Tx K mg) : Binds K T.d_Ballots_shows ["self", "table"] [] := T.F_Ballots_shows.binds fun _ _ _ _ _ _ us hl => match us, hl with | [_, _], _ => rfl
theorem b_Uneven__init (T : Tx K mg) : Binds K T.d_Uneven__init ["self", "one", "other"] [] := T.F_Uneven__init.binds fun _ _ _ _ _ _ us hl => match us, hl with | [_, _, _], _ => rfl
theorem b_Uneven_shows (T : Tx K mg) : Binds K T.d_Uneven_shows ["self", "table"] [] := T.F_Uneven_shows.binds fun _ _ _ _ _ _ us hl => match us, hl with | [_, _], _ => rfl
theorem b_Unbeaten__init (T : Tx K mg) : Binds K T.d_Unbeaten__init ["self", "who"] [] := T.F_Unbeaten__init.binds fun _ _ _ _ _ _ us hl => match us, hl with | [_, _], _ => rfl
theorem b_Unbeaten_shows (T : Tx K mg) : Binds K T.d_Unbeaten_shows ["self", "table"] [] := T.F_Unbeaten_shows.binds fun _ _ _ _ _ _ us hl => match us, hl with | [_, _], _ => rfl
theorem b_Ring__init (T : Tx K mg) : Binds K T.d_Ring__init ["self", "way"] [] := T.F_Ring__init.binds fun _ _ _ _ _ _ us hl => match us, hl with | [_, _], _ => rfl
theorem b_Ring_shows (T : Tx K mg) : Binds K T.d_Ring_shows ["self", "table"] [] := T.F_Ring_shows.binds fun _ _ _ _ _ _ us hl => match us, hl with | [_, _], _ => rfl
theorem b_two_ballots (T : Tx K mg) : Binds K T.d_two_ballots ["size", "ahead", "behind", "many"] [] := T.F_two_ballots.binds fun _ _ _ _ _ _ us hl => match us, hl with | [_, _, _, _], _ => rfl
theorem b_told (T : Tx K mg) : Binds K T.d_told ["table"] [] := T.F_told.binds fun _ _ _ _ _ _ us hl => match us, hl with | [_], _ => rfl
theorem b_law_number (T : Tx K mg) : Binds K T.d_law_number ["_law_cell", "_law_at", "_law_whole"] [] := T.F_law_number.binds fun _ _ _ _ _ _ us hl => match us, hl with | [_, _, _], _ => rfl
theorem b_law_table (T : Tx K mg) : Binds K T.d_law_table ["_law_script", "_law_size"] [] := T.F_law_table.binds fun _ _ _ _ _ _ us hl => match us, hl with | [_, _], _ => rfl
theorem b_law_ballots (T : Tx K mg) : Binds K T.d_law_ballots ["_law_script", "_law_size"] [] := T.F_law_ballots.binds fun _ _ _ _ _ _ us hl => match us, hl with | [_, _], _ => rfl
theorem b_law_count (T : Tx K mg) : Binds K T.d_law_count ["_law_size", "_law_ballots_here"] [] := T.F_law_count.binds fun _ _ _ _ _ _ us hl => match us, hl with | [_, _], _ => rfl
theorem b_law_are_ballots (T : Tx K mg) : Binds K T.d_law_are_ballots ["_law_found", "_law_size"] [] := T.F_law_are_ballots.binds fun _ _ _ _ _ _ us hl => match us, hl with | [_, _], _ => rfl
theorem b_law_pair (T : Tx K mg) : Binds K T.d_law_pair ["_law_pair_here", "_law_size"] [] := T.F_law_pair.binds fun _ _ _ _ _ _ us hl => match us, hl with | [_, _], _ => rfl
theorem b_law_due (T : Tx K mg) : Binds K T.d_law_due ["_law_table_here", "_law_found"] [] := T.F_law_due.binds fun _ _ _ _ _ _ us hl => match us, hl with | [_, _], _ => rfl
theorem b_law_right (T : Tx K mg) : Binds K T.d_law_right ["_law_table_here", "_law_others"] [] := T.F_law_right.binds fun _ _ _ _ _ _ us hl => match us, hl with | [_, _], _ => rfl
theorem b_law (T : Tx K mg) : Binds K T.d_law ["_law_script"] [] := T.F_law.binds fun _ _ _ _ _ _ us hl => match us, hl with | [_], _ => rfl
end
end Hc
namespace Hc
open PySem PySem.Spec PyProof.Rows L2 Evl
section
variable {P : Program} {w : World} {K : PySem.W.Frag} {mg : Str → Option Value} {base : Heap}
/-! ### types of things -/
section
variable {K : PySem.W.Frag} {H H' : Hp}
theorem tyx_L {a : Addr} {xs : List V} (h : SqL K H a xs) : TyX K H (.ref a) (.type "list") := by
  rcases h with (h | ⟨o, h⟩) | ⟨o, its, n, h1, h2, _⟩
  · exact .base (.lst h)
  · exact .base (.frz h)
  · exact .kList h1 h2
theorem tyx_T {a : Addr} {xs : List V} (h : SqT K H a xs) : TyX K H (.ref a) (.type "tuple") := by
  rcases h with (h | ⟨o, h⟩) | ⟨o, its, n, h1, h2, _⟩
  · exact .base (.tup h)
  · exact .fTuple h
  · exact .kTuple h1 h2
/-- what is_number says of a thing -/
def IsNum (K : PySem.W.Frag) (H : Hp) (x : V) (b : Bool) : Prop := ∃ (t : String) (b1 b2 : Bool), TyX K H x (.type t) ∧ kitB t "int" = some b1 ∧ kitB t "bool" = some b2 ∧ b = (b1 && !b2)
theorem isNum_int (i : Int) : IsNum K H (.int i) true := ⟨"int", true, false, .base (.int i), by decide +kernel, by decide +kernel, rfl⟩
def spIsNum (K : PySem.W.Frag) : Sp := fun vs H Q _ => ∃ (x : V) (b : Bool), vs = [x] ∧ IsNum K H x b ∧ Q (.bl b) H
def okB (n : Nat) (b : List Nat × Int) : Bool := decide (1 ≤ b.2) && b.1.isPerm (List.range n)
def spAskC : Sp := fun vs H Q _ => ∃ c : Int, vs = [.int c] ∧ 1 ≤ c ∧ c ≤ 20 ∧ Q .non H
def spAreB (K : PySem.W.Frag) : Sp := fun vs H Q _ => ∃ (n : Nat) (v : V) (bs : List (List Nat × Int)), vs = [.int (n : Int), v] ∧ n ≤ 20 ∧ BalsR K H v bs ∧ (∀ b ∈ bs, b.1.length < 60) ∧ ∀ H2, Ex H H2 → Q (.bl (bs.all (okB n))) H2
def spAskB (K : PySem.W.Frag) : Sp := fun vs H Q _ => ∃ (n : Nat) (v : V) (bs : List (List Nat × Int)), vs = [.int (n : Int), v] ∧ 1 ≤ n ∧ n ≤ 20 ∧ BalsR K H v bs ∧ bs.all (okB n) = true ∧ ∀ H2, Ex H H2 → Q .non H2
def spCount (K : PySem.W.Frag) : Sp := fun vs H Q _ => ∃ (n : Nat) (v : V) (bs : List (List Nat × Int)), vs = [.int (n : Int), v] ∧ n ≤ 20 ∧ BalsR K H v bs ∧ (∀ b ∈ bs, ∀ k ∈ b.1, k < n) ∧ ∀ H2 t rs, Ex H H2 → Tab H H2 t rs n (cnt bs) → Q (.ref t) H2
def spCounted (K : PySem.W.Frag) : Sp := fun vs H Q _ => ∃ (n : Nat) (v : V) (bs : List (List Nat × Int)), vs = [.int (n : Int), v] ∧ 1 ≤ n ∧ n ≤ 20 ∧ BalsR K H v bs ∧ bs.all (okB n) = true ∧ ∀ H2 t rs, Ex H H2 → Tab H H2 t rs n (cnt bs) → Q (.ref t) H2
end
theorem okB_len {n : Nat} {b : List Nat × Int} (h : okB n b = true) : b.1.length = n := by
  unfold okB at h
  rw [Bool.and_eq_true] at h
  have := (List.isPerm_iff.mp h.2).length_eq
  rw [List.length_range] at this
  exact this
theorem okB_lt {n : Nat} {b : List Nat × Int} (h : okB n b = true) : ∀ k ∈ b.1, k < n := fun k hk => by
  unfold okB at h
  rw [Bool.and_eq_true] at h
  exact List.mem_range.mp ((List.isPerm_iff.mp h.2).mem_iff.mp hk)
/-- a sorted list that is an arrangement of another one -/
theorem sorted_is_range {ns : List Int} {ks : List Nat} {n : Nat} (hp : ns.Perm (ks.map fun (k : Nat) => (k : Int))) (hs : ns.Pairwise (· ≤ ·)) : (ns = (List.range n).map fun (k : Nat) => (k : Int)) ↔ ks.Perm (List.range n) := by
  constructor
  · intro e
    rw [e] at hp
    have h2 := hp.map Int.toNat
    rw [List.map_map, List.map_map] at h2
    have e1 : ∀ l : List Nat, l.map (Int.toNat ∘ fun (k : Nat) => (k : Int)) = l := fun l => by
      have : (Int.toNat ∘ fun (k : Nat) => (k : Int)) = id := by
        funext k
        simp
      rw [this, List.map_id]
    rw [e1, e1] at h2
    exact h2.symm
  · intro h
    have h1 : ns.Perm ((List.range n).map fun (k : Nat) => (k : Int)) := hp.trans (h.map _)
    have h2 : ((List.range n).map fun (k : Nat) => (k : Int)).Pairwise (· ≤ ·) := by
      rw [List.pairwise_map]
      exact List.Pairwise.imp (fun {a b} h => by omega) (List.pairwise_lt_range (n := n))
    exact h1.eq_of_pairwise (le := (· ≤ ·)) (fun a b _ _ h1 h2 => by omega) hs h2
theorem ok_is_number (T : Tx K mg) : FnOk P w K mg base CX0 1 T.f_is_number T.d_is_number ["thing"] (spIsNum K) := by
  refine T.F_is_number.ok sc_is_number (fun vs H Q E h => ?_) (fun cdv A outer s H vs Q E hr h => ?_)
  · obtain ⟨x, b, rfl, _⟩ := h
    rfl
  · obtain ⟨x, b, rfl, ⟨t, b1, b2, hT, k1, k2, rfl⟩, q⟩ := h
    refine ⟨_, pss_one (ps_ret (pe_and (pe_callB (isiK K) (by rfl) T.n_isinstance PyProof.Rows.boot_isinstance (pa_cons (pv 0) (pa_cons (pe_bltn (v := .ty "int") (by rfl) T.n_int bt_int rfl) pa_nil))) (pe_one (pe_not (pe_callB (isiK K) (by rfl) T.n_isinstance PyProof.Rows.boot_isinstance (pa_cons (pv 0) (pa_cons (pe_bltn (v := .ty "bool") (by rfl) T.n_bool bt_bool rfl) pa_nil))))))), ?_⟩
    refine ⟨x, rfl, x, .ty "int", _, _, b1, rfl, .ty _, hT, kit_ty k1, b1, rfl, ?_⟩
    cases b1 with
    | false => exact q
    | true => exact ⟨x, rfl, x, .ty "bool", _, _, b2, rfl, .ty _, hT, kit_ty k2, b2, rfl, q⟩
theorem ok_are_ballots (T : Tx K mg) : FnOk P w K mg base CX0 2 T.f_are_ballots T.d_are_ballots ["candidates", "ballots"] (spAreB K) := by
  refine T.F_are_ballots.ok sc_are_ballots (fun vs H Q E h => ?_) (fun cdv A outer s H vs Q E hr h => ?_)
  · obtain ⟨n, v, bs, rfl, _⟩ := h
    rfl
  · obtain ⟨n, v, bs, rfl, hn, ⟨a, xs, rfl, hS, hP⟩, h60, q⟩ := h
    refine ⟨_, pss_cons (ps_for PassesOwn.never rfl (piL K (pv 1)) (pg_name (i := 2) sc_are_ballots.nd rfl (by first | exact Or.inl rfl | exact Or.inr rfl))
        (pss_cons (ps_if (PW.pt (pw_or (pt_not (pt_val (pe_callB (isiK K) (by rfl) T.n_isinstance PyProof.Rows.boot_isinstance (pa_cons (pv 2) (pa_cons (pe_bltn (v := .ty "tuple") (by rfl) T.n_tuple bt_tuple rfl) pa_nil))))) (pw_or (pt_cmpR op_ne (pe_callB (lenK K) (by rfl) T.n_len PySem.boot_len (pa_cons (pv 2) pa_nil)) pe_int (nomark _)) (pw_or1 (pt_not (pt_val (pe_callB (isiK K) (by rfl) T.n_isinstance PyProof.Rows.boot_isinstance (pa_cons (pe_ix (ixTK K) (pv 2) pe_int (fun _ _ => rfl)) (pa_cons (pe_bltn (v := .ty "list") (by rfl) T.n_list bt_list rfl) pa_nil))))))))) (pss_one (ps_ret pe_bl)) (pss_nil))
      (pss_cons (ps_if (PW.pt (pw_or (pt_not (pt_val (pe_call (ok_is_number T) (hr.mono (by decide)) (by rfl) T.g_is_number T.F_is_number.kp (b_is_number T) .nil pass0 (pa_cons (pe_ix (ixTK K) (pv 2) pe_int (fun _ _ => rfl)) pa_nil)))) (pw_or (pt_cmpR op_lt (pe_ix (ixTK K) (pv 2) pe_int (fun _ _ => rfl)) pe_int (nomark _)) (pw_or1 (pt_not (pt_val (pe_callB (allK K) (by rfl) T.n_all PyProof.Rows.boot_all (pa_cons (pe_lc (own := [("one", 3)]) rfl sc_are_ballots.nd (piL K (pe_ix (ixTK K) (pv 2) pe_int (fun _ _ => rfl))) (blkOk_by (own := [("one", 3)]) (N := ["candidates", "ballots", "ballot", "one"]) (sc := defScope s_are_ballots) (by decide +kernel)) (fun _ _ _ _ _ => (pg_name (i := 3) sc_are_ballots.nd rfl (by first | exact Or.inl rfl | exact Or.inr rfl))) (fun _ _ _ _ _ => pts_nil) (fun _ _ _ _ _ => (pe_call (ok_is_number T) (hr.mono (by decide)) (by rfl) T.g_is_number T.F_is_number.kp (b_is_number T) .nil pass0 (pa_cons (pv 3) pa_nil)))) pa_nil)))))))) (pss_one (ps_ret pe_bl)) (pss_nil))
      (pss_one (ps_if (pt_cmpR (neDK K hr.units) (pe_callB (sortK K) (by rfl) T.n_sorted PyProof.Rows.boot_sorted (pa_cons (pe_ix (ixTK K) (pv 2) pe_int (fun _ _ => rfl)) pa_nil)) (pe_listRg rfl (by rfl) T.n_list (prg_1 (by rfl) T.n_range (pv 0))) (nomark _)) (pss_one (ps_ret pe_bl)) (pss_nil))))))
      (pss_one (ps_ret pe_bl)), ?_⟩
    refine ⟨.ref a, rfl, a, rfl, ⟨xs, hS⟩, for_list (K := K) (a := a) (xs := xs) (fun i σ' H' => ∃ y, σ' = [some (.int n), some (.ref a), y, none] ∧ Ex H H' ∧ (bs.take i).all (okB n) = true)
      ⟨none, rfl, Ex.refl H, rfl⟩ (fun i σ' H' _ ⟨_, _, e, _⟩ => ex_l e hS) ?_ ?_⟩
    · rintro i x σ' H' hi ⟨y, rfl, e, hall⟩
      obtain ⟨b, hb, t, l, rfl, hT, hL⟩ := Paired.get hP hi
      have hbm : b ∈ bs := List.mem_of_getElem? hb
      have hT1 := ex_t e hT
      have hL1 := ex_l e hL
      have bad : okB n b = false → ∀ H2, Ex H H2 → Q (.bl false) H2 := fun hx H2 e2 => by
        have : bs.all (okB n) = false := by
          rw [List.all_eq_false]
          exact ⟨b, hbm, by rw [hx]; decide⟩
        rw [← this]
        exact q H2 e2
      refine ⟨.ref t, rfl, .ref t, .ty "tuple", _, _, true, rfl, .ty _, tyx_T hT1, kit_ty (by decide +kernel), true, rfl, ?_⟩
      refine ⟨.ref t, rfl, t, _, rfl, .inr hT1, rfl, _, rfl, ?_⟩
      refine ⟨.ref t, rfl, t, _, 0, .ref l, rfl, rfl, hT1, rfl, .ref l, .ty "list", _, _, true, rfl, .ty _, tyx_L hL1, kit_ty (by decide +kernel), true, rfl, ?_⟩
      refine ⟨.ref t, rfl, t, _, 1, .int b.2, rfl, rfl, hT1, rfl, _, true, rfl, isNum_int _, true, rfl, ?_⟩
      refine ⟨.ref t, rfl, t, _, 1, .int b.2, rfl, rfl, hT1, rfl, _, _, rfl, rfl, _, rfl, ?_⟩
      refine it2 (fun hm0 => ?_) (fun hm0 => ?_)
      · have hm : b.2 < 1 := of_decide_eq_true hm0
        exact bad (by unfold okB; rw [decide_eq_false (by omega)]; rfl) _ e
      · have hm : ¬ b.2 < 1 := of_decide_eq_false hm0
        refine ⟨.ref t, rfl, t, _, 0, .ref l, rfl, rfl, hT1, rfl, l, rfl, ⟨_, hL1⟩, fun D hD => ?_⟩
        refine lc_vals (walk_list (K := K) (a := l) (xs := nv b.1)) hD (by rw [nv_length]; have := h60 b hbm; omega) (fun H2 e2 => ex_l e2 hL1) (fun _ => V.bl true) ?_ ?_
        · rintro j x H2 H2' hj e2 ⟨rfl, hx⟩ Qc hq
          obtain ⟨k, _, rfl⟩ := nv_get hx
          exact ⟨rfl, _, rfl, _, true, rfl, isNum_int _, hq _ (Ex.refl _)⟩
        · intro H2 e2 hD2
          rw [map_const_bl] at hD2
          refine ⟨D, _, rfl, sq_of hD2, true, by rw [all_const_true], ?_⟩
          have hT2 := ex_t e2 hT1
          have hL2 := ex_l e2 hL1
          rw [nv_iv] at hL2
          refine ⟨.ref t, rfl, t, _, 0, .ref l, rfl, rfl, hT2, rfl, l, _, rfl, hL2, by rw [List.length_map]; have := h60 b hbm; omega, fun ns p perm srt hp => ?_⟩
          have e3 : Ex H2 (upd H2 p (.lst (ns.map V.int))) := Ex.new hp
          refine ⟨_, rfl, n, rfl, rgOk_nat (by omega), fun r hr' => ?_⟩
          have e4 : Ex (upd H2 p (.lst (ns.map V.int))) _ := Ex.new (o := .lst (rgV 0 (n : Int))) hr'
          refine ⟨_, _, dp_ints (ns := ns) (sq_of (e4 _ _ upd_same)), dp_ints (ns := (List.range n).map fun (k : Nat) => (k : Int)) (sq_of ?_), shaped_ints _, shaped_ints _, _, rfl, ?_⟩
          · rw [upd_same, rgV_nv, nv_iv]
          · have e5 := (e.trans e2).trans (e3.trans e4)
            by_cases hq2 : ns = (List.range n).map fun (k : Nat) => (k : Int)
            · refine itF (by rw [eqv_ints, decide_eq_true hq2]; rfl) ?_
              refine ⟨_, rfl, e5, ?_⟩
              rw [List.take_add_one, hb, List.all_append, hall]
              show (true && ([b].all (okB n))) = true
              have : okB n b = true := by
                unfold okB
                rw [decide_eq_true (by omega), List.isPerm_iff.mpr ((sorted_is_range perm srt).mp hq2)]
                rfl
              simp [this]
            · refine itT (by rw [eqv_ints, decide_eq_false hq2]; rfl) ?_
              refine bad ?_ _ e5
              unfold okB
              have : b.1.isPerm (List.range n) = false := by
                cases hz : b.1.isPerm (List.range n) with
                | false => rfl
                | true => exact absurd ((sorted_is_range perm srt).mpr (List.isPerm_iff.mp hz)) hq2
              rw [this, Bool.and_false]
    · rintro σ' H' ⟨y, rfl, e, hall⟩
      rw [show xs.length = bs.length from Paired.len hP, List.take_length] at hall
      rw [hall] at q
      exact q H' e
theorem ok_count_of (T : Tx K mg) : FnOk P w K mg base CX0 1 T.f_count_of T.d_count_of ["candidates", "ballots"] (spCount K) := by
  refine T.F_count_of.ok sc_count_of (fun vs H Q E h => ?_) (fun cdv A outer s H vs Q E hr h => ?_)
  · obtain ⟨n, v, bs, rfl, _⟩ := h
    rfl
  · obtain ⟨n, v, bs, rfl, hn, ⟨a, xs, rfl, hS, hP⟩, hk, q⟩ := h
    refine ⟨_, pss_cons (ps_setLc (i := 2) (own := [("one", 6)]) rfl sc_count_of.nd rfl rfl (sw_true rfl rfl rfl (by decide +kernel)) (pi_range1 (by rfl) T.n_range (pa_cons (pv 0) pa_nil)) (blkOk_by (own := [("one", 6)]) (N := ["candidates", "ballots", "table", "order", "many", "at", "one", "other"]) (sc := defScope s_count_of) (by decide +kernel)) (fun _ _ _ _ _ => (pg_name (i := 6) sc_count_of.nd rfl (by first | exact Or.inl rfl | exact Or.inr rfl))) (fun _ _ _ _ _ => pts_nil) (fun _ _ _ _ _ => (pe_op op_rep (pe_lst (pa_cons pe_int pa_nil)) (pv 0))))
      (pss_cons (ps_for PassesOwn.never rfl (piL K (pv 1)) (pgT K (n := 2) (pgs_cons (pg_name (i := 3) sc_count_of.nd rfl (by first | exact Or.inl rfl | exact Or.inr rfl)) (pgs_cons (pg_name (i := 4) sc_count_of.nd rfl (by first | exact Or.inl rfl | exact Or.inr rfl)) pgs_nil)))
        (pss_one (ps_for PassesOwn.never rfl (piE K (by rfl) T.n_enumerate (pa_cons (pv 3) pa_nil)) (pgT K (n := 2) (pgs_cons (pg_name (i := 5) sc_count_of.nd rfl (by first | exact Or.inl rfl | exact Or.inr rfl)) (pgs_cons (pg_name (i := 6) sc_count_of.nd rfl (by first | exact Or.inl rfl | exact Or.inr rfl)) pgs_nil)))
        (pss_one (ps_for PassesOwn.never rfl (piL K (pe_slice (slLK K) (pv 3) (po_some (pe_op op_add (pv 5) pe_int)) po_none)) (pg_name (i := 7) sc_count_of.nd rfl (by first | exact Or.inl rfl | exact Or.inr rfl))
        (pss_cons (ps_asg (pe_op op_add (pe_ix (ixLK K) (pe_ix (ixLK K) (pv 2) (pv 6) (fun _ _ => rfl)) (pv 7) (fun _ _ => rfl)) (pv 4)) (pg_sub (pe_ix (ixLK K) (pv 2) (pv 6) (fun _ _ => rfl)) (pv 7) set_list))
      (pss_one (ps_asg (pe_op op_sub (pe_ix (ixLK K) (pe_ix (ixLK K) (pv 2) (pv 7) (fun _ _ => rfl)) (pv 6) (fun _ _ => rfl)) (pv 4)) (pg_sub (pe_ix (ixLK K) (pv 2) (pv 7) (fun _ _ => rfl)) (pv 6) set_list)))))))))
      (pss_one (ps_ret (pv 2)))), ?_⟩
    refine ⟨_, rfl, n, rfl, by omega, by omega, fun D hD => ?_⟩
    refine lc_rows (n := n) (walk_range (lo := 0) (n := n)) hD (by omega) (fun _ _ => trivial) (fun _ => rowV n (fun _ => 0)) ?_ ?_
    · rintro i x H2 H2' hi e2 ⟨rfl, rfl⟩ Qc hq
      refine ⟨rfl, (by decide : 1 ≤ sizeLine), fun p hp => ⟨_, rfl, p, n, _, rfl, rfl, upd_same, by omega, by omega, ?_, fun r hr' => ?_⟩⟩
      · show 1 * (n : Int).toNat ≤ sizeLine
        exact sz_of (by omega)
      · have e3 : Ex H2' (upd H2' p (.lst [V.int 0])) := Ex.new hp
        refine hq r _ (fresh_back e3 hr') (e3.trans (Ex.new hr')) ?_
        rw [upd_same]
        show some (HO.lst (List.replicate n [V.int 0]).flatten) = _
        rw [rep_row]
    · intro H2 ps e2 hD2 hlen R
      have T0 : Tab H H2 D ps n (fun _ _ => 0) := R.tab hD hD2 hlen
      refine ⟨.ref a, rfl, a, rfl, ⟨xs, ex_l e2 hS⟩, for_list (K := K) (a := a) (xs := xs) (fun i σ' H' => ∃ y3 y4 y5 y6 y7, σ' = [some (.int n), some (.ref a), some (.ref D), y3, y4, y5, y6, y7] ∧ Ex H H' ∧ Tab H H' D ps n (cnt (bs.take i)))
        ⟨none, none, none, none, none, rfl, e2, T0⟩ (fun i σ' H' _ ⟨_, _, _, _, _, _, e, _⟩ => ex_l e hS) ?_ ?_⟩
      · rintro i x σ' H' hi ⟨y3, y4, y5, y6, y7, rfl, e, TT⟩
        obtain ⟨b, hb, t, l, rfl, hT, hL⟩ := Paired.get hP hi
        have hbm : b ∈ bs := List.mem_of_getElem? hb
        refine ⟨t, _, rfl, ex_t e hT, rfl, .ref l, _, rfl, .int b.2, [], rfl, rfl, ?_⟩
        refine ⟨.ref l, rfl, l, nv b.1, rfl, ex_l e hL, ?_⟩
        refine for_it (walk_enum (K := K) (a := l) (xs := nv b.1)) (fun p σ' H' => ∃ y5 y6 y7, σ' = [some (.int n), some (.ref a), some (.ref D), some (.ref l), some (.int b.2), y5, y6, y7] ∧ Ex H H' ∧ Tab H H' D ps n (fun i' j' => cnt (bs.take i) i' j' + b.2 * psA i' j' p b.1))
          ⟨_, _, _, rfl, e, TT.congr fun i' j' _ _ => by show cnt (bs.take i) i' j' = cnt (bs.take i) i' j' + b.2 * 0; omega⟩ (fun p σ' H' _ ⟨_, _, _, _, e, _⟩ => ex_l e hL) ?_ ?_
        · rintro p x σ' H' H'' hp ⟨y5, y6, y7, rfl, e, TT⟩ ⟨U, x1, x2, rfl, nU, rfl, h1, h2⟩
          cases h1
          obtain ⟨k, hk', rfl⟩ := nv_get h2
          have hkn : k < n := hk b hbm k (List.mem_of_getElem? hk')
          refine ⟨U, _, rfl, st_of upd_same, rfl, _, _, rfl, _, [], rfl, rfl, ?_⟩
          have e3 : Ex H' (upd H' U (.tup [.int (p : Nat), .int k])) := Ex.new nU
          refine ⟨.ref l, rfl, .int p, rfl, _, _, rfl, rfl, _, rfl, l, nv b.1, rfl, ex_l (e.trans e3) hL, fun c nc => ?_⟩
          rw [cut_nv_from]
          have e4 : Ex _ (upd (upd H' U (.tup [.int (p : Nat), .int k])) c (.lst (nv (b.1.drop (p + 1))))) := Ex.new nc
          have ncr : ∀ r ∈ ps, c ≠ r := fun r hr' ec => by
            obtain ⟨i0, hi0, ei0⟩ := List.mem_iff_getElem.mp hr'
            have := (TT.mono e3).row i0 r (by rw [List.getElem?_eq_getElem hi0, ei0])
            rw [← ec, nc] at this
            cases this
          refine ⟨c, rfl, ⟨_, sq_of upd_same⟩, for_list (K := K) (a := c) (xs := nv (b.1.drop (p + 1))) (fun z σ' H' => ∃ y7, σ' = [some (.int n), some (.ref a), some (.ref D), some (.ref l), some (.int b.2), some (.int p), some (.int k), y7] ∧ Ex H H' ∧ H' c = some (.lst (nv (b.1.drop (p + 1)))) ∧ Tab H H' D ps n (fun i' j' => cnt (bs.take i) i' j' + b.2 * (psA i' j' p b.1 + dsum i' j' k ((b.1.drop (p + 1)).take z))))
            ⟨_, rfl, (e.trans e3).trans e4, upd_same, ((TT.mono e3).mono e4).congr fun i' j' _ _ => by show _ = cnt (bs.take i) i' j' + b.2 * (psA i' j' p b.1 + 0); rw [Int.add_zero]⟩ (fun z σ' H' _ ⟨_, _, _, hc, _⟩ => sq_of hc) ?_ ?_⟩
          · rintro z x σ' H' hz ⟨y7, rfl, e, hc, TT⟩
            obtain ⟨m, hm, rfl⟩ := nv_get hz
            have hmn : m < n := hk b hbm m (List.mem_of_mem_drop (List.mem_of_getElem? hm))
            obtain ⟨r1, g1, m1, x1, c1⟩ := TT.at_ hkn
            have T1 := TT.put (b := m) (z := (cnt (bs.take i) k m + b.2 * (psA k m p b.1 + dsum k m k ((b.1.drop (p + 1)).take z))) + b.2) g1
            have e5 := fun o => TT.exMut (o := o) e m1
            obtain ⟨r2, g2, m2, x2, c2⟩ := T1.at_ hmn
            refine ⟨.ref D, rfl, .int k, rfl, D, _, k, .ref r1, rfl, rfl, sq_of TT.top, atI_nat x1, .int m, rfl, r1, _, m, .int _, rfl, rfl, sq_of c1, atI_nat (rowV_get hmn), .int b.2, rfl, _, _, rfl, rfl, .ref D, rfl, .int k, rfl, D, _, k, .ref r1, rfl, rfl, sq_of TT.top, atI_nat x1, .int m, rfl, r1, _, m, m, rfl, rfl, c1, ixN_nat (by rw [rowV_length]; exact hmn), ?_⟩
            refine ⟨.ref D, rfl, .int m, rfl, D, _, m, .ref r2, rfl, rfl, sq_of T1.top, atI_nat x2, .int k, rfl, r2, _, k, .int _, rfl, rfl, sq_of c2, atI_nat (rowV_get hkn), .int b.2, rfl, _, _, rfl, rfl, .ref D, rfl, .int m, rfl, D, _, m, .ref r2, rfl, rfl, sq_of T1.top, atI_nat x2, .int k, rfl, r2, _, k, k, rfl, rfl, c2, ixN_nat (by rw [rowV_length]; exact hkn), ?_⟩
            have T2 := T1.put (b := k) (z := (if m = k ∧ k = m then (cnt (bs.take i) k m + b.2 * (psA k m p b.1 + dsum k m k ((b.1.drop (p + 1)).take z))) + b.2 else (cnt (bs.take i) m k + b.2 * (psA m k p b.1 + dsum m k k ((b.1.drop (p + 1)).take z)))) - b.2) g2
            refine ⟨_, rfl, T1.exMut (e5 _) m2, ?_, T2.congr fun i' j' _ _ => ?_⟩
            · rw [upd_ne (ncr r2 m2), upd_ne (ncr r1 m1)]
              exact hc
            · rw [put_two (fun i' j' => cnt (bs.take i) i' j' + b.2 * (psA i' j' p b.1 + dsum i' j' k ((b.1.drop (p + 1)).take z))), dsum_take_succ _ _ _ _ _ _ hm]
              rw [Int.mul_add, Int.mul_add, Int.mul_add]
              omega
          · rintro σ' H' ⟨y7, rfl, e, hc, TT⟩
            refine ⟨_, _, _, rfl, e, TT.congr fun i' j' _ _ => ?_⟩
            rw [nv_length, List.take_length, psA_succ _ _ _ _ _ hk']
        · rintro σ' H' ⟨y5, y6, y7, rfl, e, TT⟩
          refine ⟨_, _, _, _, _, rfl, e, TT.congr fun i' j' _ _ => ?_⟩
          rw [nv_length, psA_all, cnt_take_succ _ _ _ hb]
      · rintro σ' H' ⟨y3, y4, y5, y6, y7, rfl, e, TT⟩
        rw [show xs.length = bs.length from Paired.len hP, List.take_length] at TT
        exact ⟨_, rfl, q H' D ps e TT⟩
end
end Hc
namespace Hc
open PySem PySem.Spec PyProof.Rows L2 Evl
section
variable {P : Program} {w : World} {K : PySem.W.Frag} {mg : Str → Option Value} {base : Heap}
def spAskT (K : PySem.W.Frag) : Sp := fun vs H Q _ => ∃ (v : V) (n : Nat) (f : Nat → Nat → Int), vs = [v] ∧ 1 ≤ n ∧ n ≤ 20 ∧ TabR K H v n f ∧ Anti n f ∧ ∀ H2, Ex H H2 → Q .non H2
theorem any_const_false (n : Nat) : ((List.range n).map fun _ => false).any id = false := by
  rw [List.any_map, List.any_eq_false]
  intro x _
  simp
theorem ok_asked_table (T : Tx K mg) : FnOk P w K mg base CX0 2 T.f_asked_table T.d_asked_table ["table"] (spAskT K) := by
  refine T.F_asked_table.ok sc_asked_table (fun vs H Q E h => ?_) (fun cdv A outer s H vs Q E hr h => ?_)
  · obtain ⟨v, n, f, rfl, _⟩ := h
    rfl
  · obtain ⟨v, n, f, rfl, hn1, hn, TT, hA, q⟩ := h
    obtain ⟨t, xs, rfl, hS, hl, hat⟩ := TT.at_
    refine ⟨_, pss_cons (ps_if (PW.pt (pw_or (pt_not (pt_val (pe_callB (isiK K) (by rfl) T.n_isinstance PyProof.Rows.boot_isinstance (pa_cons (pv 0) (pa_cons (pe_bltn (v := .ty "list") (by rfl) T.n_list bt_list rfl) pa_nil))))) (pw_or1 (pt_not (pt_chain op_le op_le pe_int (pe_callB (lenK K) (by rfl) T.n_len PySem.boot_len (pa_cons (pv 0) pa_nil)) (pe_glob (v := .int 20) (by rfl) T.g_MOST.choose_spec ⟨_, rfl⟩)))))) (pss_one (ps_never)) (pss_nil))
      (pss_cons (ps_for PassesOwn.never rfl (piL K (pv 0)) (pg_name (i := 1) sc_asked_table.nd rfl (by first | exact Or.inl rfl | exact Or.inr rfl))
        (pss_one (ps_if (PW.pt (pw_or (pt_not (pt_val (pe_callB (isiK K) (by rfl) T.n_isinstance PyProof.Rows.boot_isinstance (pa_cons (pv 1) (pa_cons (pe_bltn (v := .ty "list") (by rfl) T.n_list bt_list rfl) pa_nil))))) (pw_or (pt_cmpR op_ne (pe_callB (lenK K) (by rfl) T.n_len PySem.boot_len (pa_cons (pv 1) pa_nil)) (pe_callB (lenK K) (by rfl) T.n_len PySem.boot_len (pa_cons (pv 0) pa_nil)) (nomark _)) (pw_or1 (pt_not (pt_val (pe_callB (allK K) (by rfl) T.n_all PyProof.Rows.boot_all (pa_cons (pe_lc (own := [("one", 2)]) rfl sc_asked_table.nd (piL K (pv 1)) (blkOk_by (own := [("one", 2)]) (N := ["table", "row", "one", "other"]) (sc := defScope s_asked_table) (by decide +kernel)) (fun _ _ _ _ _ => (pg_name (i := 2) sc_asked_table.nd rfl (by first | exact Or.inl rfl | exact Or.inr rfl))) (fun _ _ _ _ _ => pts_nil) (fun _ _ _ _ _ => (pe_call (ok_is_number T) (hr.mono (by decide)) (by rfl) T.g_is_number T.F_is_number.kp (b_is_number T) .nil pass0 (pa_cons (pv 2) pa_nil)))) pa_nil)))))))) (pss_one (ps_never)) (pss_nil))))
      (pss_one (ps_for PassesOwn.never rfl (pi_range1 (by rfl) T.n_range (pa_cons (pe_callB (lenK K) (by rfl) T.n_len PySem.boot_len (pa_cons (pv 0) pa_nil)) pa_nil)) (pg_name (i := 2) sc_asked_table.nd rfl (by first | exact Or.inl rfl | exact Or.inr rfl))
        (pss_one (ps_if (pt_val (pe_callB (anyK K) (by rfl) T.n_any PyProof.Rows.boot_any (pa_cons (pe_lc (own := [("other", 3)]) rfl sc_asked_table.nd (pi_range1 (by rfl) T.n_range (pa_cons (pe_op op_add (pv 2) pe_int) pa_nil)) (blkOk_by (own := [("other", 3)]) (N := ["table", "row", "one", "other"]) (sc := defScope s_asked_table) (by decide +kernel)) (fun _ _ _ _ _ => (pg_name (i := 3) sc_asked_table.nd rfl (by first | exact Or.inl rfl | exact Or.inr rfl))) (fun _ _ _ _ _ => pts_nil) (fun _ _ _ _ _ => (pe_cmpR op_ne (pe_ix (ixLK K) (pe_ix (ixLK K) (pv 0) (pv 2) (fun _ _ => rfl)) (pv 3) (fun _ _ => rfl)) (pe_un un_neg (pe_ix (ixLK K) (pe_ix (ixLK K) (pv 0) (pv 3) (fun _ _ => rfl)) (pv 2) (fun _ _ => rfl))) (nomark _)))) pa_nil))) (pss_one (ps_never)) (pss_nil)))))), ?_⟩
    refine ⟨_, rfl, .ref t, .ty "list", _, _, true, rfl, .ty _, tyx_L hS, kit_ty (by decide +kernel), true, rfl, ?_⟩
    refine ⟨_, rfl, t, _, rfl, .inl hS, _, _, rfl, rfl, _, rfl, ?_⟩
    rw [if_pos (decide_eq_true (show (1 : Int) ≤ (xs.length : Int) by omega))]
    refine ⟨_, _, rfl, rfl, _, rfl, ?_⟩
    rw [decide_eq_true (show (xs.length : Int) ≤ 20 by omega)]
    refine ⟨.ref t, rfl, t, rfl, ⟨xs, hS⟩, for_list (K := K) (a := t) (xs := xs) (fun i σ' H' => ∃ y, σ' = [some (.ref t), y, none, none] ∧ Ex H H')
      ⟨none, rfl, Ex.refl H⟩ (fun i σ' H' _ ⟨_, _, e⟩ => ex_l e hS) ?_ ?_⟩
    · rintro i x σ' H' hi ⟨y, rfl, e⟩
      have hin : i < n := by rw [← hl]; exact (List.getElem?_eq_some_iff.mp hi).1
      obtain ⟨r, hr1, hr2⟩ := hat i hin
      rw [hr1] at hi
      cases hi
      have hr3 := ex_l e hr2
      refine ⟨_, rfl, .ref r, .ty "list", _, _, true, rfl, .ty _, tyx_L hr3, kit_ty (by decide +kernel), true, rfl, ?_⟩
      refine ⟨_, rfl, r, _, rfl, .inl hr3, _, rfl, t, _, rfl, .inl (ex_l e hS), rfl, _, rfl, ?_⟩
      refine itF (by rw [rowV_length, hl, decide_eq_true rfl]; rfl) ?_
      refine ⟨_, rfl, r, rfl, ⟨_, hr3⟩, fun D hD => ?_⟩
      refine lc_vals (walk_list (K := K) (a := r) (xs := rowV n (f i))) hD (by rw [rowV_length]; omega) (fun H2 e2 => ex_l e2 hr3) (fun _ => V.bl true) ?_ ?_
      · rintro j x H2 H2' hj e2 ⟨rfl, hx⟩ Qc hq
        have hjn : j < n := by rw [rowV_length] at hj; exact hj
        rw [rowV_get hjn] at hx
        cases hx
        exact ⟨rfl, _, rfl, _, true, rfl, isNum_int _, hq _ (Ex.refl _)⟩
      · intro H3 e3 hD3
        rw [map_const_bl] at hD3
        exact ⟨D, _, rfl, sq_of hD3, true, by rw [all_const_true], _, rfl, e.trans e3⟩
    · rintro σ' H' ⟨y, rfl, e⟩
      refine ⟨_, rfl, t, _, rfl, .inl (ex_l e hS), (xs.length : Int), rfl, by omega, by omega, ?_⟩
      rw [hl]
      refine for_it (walk_rg0 (n := n)) (fun i σ' H' => ∃ y1 y2, σ' = [some (.ref t), y1, y2, none] ∧ Ex H H') ⟨_, _, rfl, e⟩ (fun _ _ _ _ _ => trivial) ?_ ?_
      · rintro i x σ' H' H'' hi ⟨y1, y2, rfl, e⟩ ⟨rfl, rfl⟩
        refine ⟨_, rfl, _, _, rfl, rfl, ((i + 1 : Nat) : Int), rfl, by omega, by omega, fun D hD => ?_⟩
        refine lc_vals (n := i + 1) (walk_rg0 (n := i + 1)) hD (by omega) (fun _ _ => trivial) (fun _ => V.bl false) ?_ ?_
        · rintro j x H2 H2' hj e2 ⟨rfl, rfl⟩ Qc hq
          have hS2 := ex_l (e.trans e2) hS
          obtain ⟨r1, g1, g2⟩ := hat i hi
          obtain ⟨r2, g3, g4⟩ := hat j (by omega)
          have g2' := ex_l (e.trans e2) g2
          have g4' := ex_l (e.trans e2) g4
          refine ⟨rfl, _, rfl, _, rfl, t, _, i, .ref r1, rfl, rfl, hS2, atI_nat g1, _, rfl, r1, _, j, .int _, rfl, rfl, g2', atI_nat (rowV_get (by omega)), _, rfl, _, rfl, t, _, j, .ref r2, rfl, rfl, hS2, atI_nat g3, _, rfl, r2, _, i, .int _, rfl, rfl, g4', atI_nat (rowV_get hi), _, rfl, rfl, ?_⟩
          have e9 : (!decide (V.int (f i j) = V.int (- f j i))) = false := by
            rw [decide_eq_true (by rw [hA i j hi (by omega)])]
            rfl
          rw [e9]
          exact hq _ (Ex.refl _)
        · intro H3 e3 hD3
          rw [map_const_bl] at hD3
          exact ⟨D, _, rfl, sq_of hD3, false, by rw [any_const_false], _, _, rfl, e.trans e3⟩
      · rintro σ' H' ⟨y1, y2, rfl, e⟩
        exact q H' e
def prOk (a b : Int) (n : Nat) : Bool := decide (0 ≤ min a b) && (decide (min a b < max a b) && decide (max a b < (n : Int)))
def spPair (K : PySem.W.Frag) : Sp := fun vs H Q _ => ∃ (p : Addr) (a b : Int) (n : Nat), vs = [.ref p, .int (n : Int)] ∧ SqT K H p [.int a, .int b] ∧ Q (.bl (prOk a b n)) H
theorem ok_is_pair (T : Tx K mg) : FnOk P w K mg base CX0 1 T.f_is_pair T.d_is_pair ["pair", "size"] (spPair K) := by
  refine T.F_is_pair.ok sc_is_pair (fun vs H Q E h => ?_) (fun cdv A outer s H vs Q E hr h => ?_)
  · obtain ⟨p, a, b, n, rfl, _⟩ := h
    rfl
  · obtain ⟨p, a, b, n, rfl, hT, q⟩ := h
    refine ⟨_, pss_one (ps_ret (pe_and (pe_cmpR op_eq (pe_callB (lenK K) (by rfl) T.n_len PySem.boot_len (pa_cons (pv 0) pa_nil)) pe_int (nomark _)) (pe_one (pe_chain3 op_le op_lt op_lt pe_int (pe_callB (minTK K) (by rfl) T.n_min PyProof.Rows.boot_min (pa_cons (pv 0) pa_nil)) (pe_callB (maxTK K) (by rfl) T.n_max PyProof.Rows.boot_max (pa_cons (pv 0) pa_nil)) (pv 1))))), ?_⟩
    refine ⟨_, rfl, p, _, rfl, .inr hT, rfl, true, rfl, ?_⟩
    refine ⟨_, rfl, p, a, b, rfl, hT, _, _, rfl, rfl, _, rfl, ?_⟩
    unfold prOk at q
    refine it2 (fun h0 => ?_) (fun h0 => ?_)
    · rw [h0, Bool.true_and] at q
      refine ⟨_, rfl, p, a, b, rfl, hT, _, _, rfl, rfl, _, rfl, ?_⟩
      refine it2 (fun h1 => ?_) (fun h1 => ?_)
      · rw [h1, Bool.true_and] at q
        exact ⟨_, rfl, _, _, rfl, rfl, q⟩
      · rw [h1] at q
        exact q
    · rw [h0] at q
      exact q
end
end Hc
namespace Hc
open PySem PySem.Spec PyProof.Rows L2 Evl
section
variable {P : Program} {w : World} {K : PySem.W.Frag} {mg : Str → Option Value} {base : Heap}
def spBInit (K : PySem.W.Frag) (C : Addr) : Sp := fun vs H Q _ => ∃ (x dx : Addr) (v : V) (bs : List (List Nat × Int)), vs = [.ref x, v] ∧ H x = some (.ins C dx []) ∧ BalsR K H v bs ∧ bs.length ≤ 2000 ∧
  ∀ H2 D ts ls, ExB x H H2 → H2 x = some (.ins C dx [("ballots", .ref D)]) → BalsN H H2 D ts ls bs → Q .non H2
theorem ok_Ballots__init (T : Tx K mg) : FnOk P w K mg base CX0 1 T.f_Ballots__init T.d_Ballots__init ["self", "ballots"] (spBInit K T.c_Ballots) := by
  refine T.F_Ballots__init.ok sc_Ballots__init (fun vs H Q E h => ?_) (fun cdv A outer s H vs Q E hr h => ?_)
  · obtain ⟨x, dx, v, bs, rfl, _⟩ := h
    rfl
  · obtain ⟨x, dx, v, bs, rfl, hx, ⟨a, xs, rfl, hS, hP⟩, hlen, q⟩ := h
    have hxl : xs.length = bs.length := Paired.len hP
    refine ⟨_, pss_one (ps_fld (pv 0) (pe_lc (own := [("order", 2), ("many", 3)]) rfl sc_Ballots__init.nd (piL K (pv 1)) (blkOk_by (own := [("order", 2), ("many", 3)]) (N := ["self", "ballots", "order", "many"]) (sc := defScope s_Ballots__init) (by decide +kernel)) (fun _ _ _ _ _ => (pgT K (n := 2) (pgs_cons (pg_name (i := 2) sc_Ballots__init.nd rfl (by first | exact Or.inl rfl | exact Or.inr rfl)) (pgs_cons (pg_name (i := 3) sc_Ballots__init.nd rfl (by first | exact Or.inl rfl | exact Or.inr rfl)) pgs_nil)))) (fun _ _ _ _ _ => pts_nil) (fun _ _ _ _ _ => (pe_tup (pa_cons (pe_callTy (listK K) (by rfl) T.n_list bt_list (pa_cons (pv 2) pa_nil)) (pa_cons (pv 3) pa_nil))))) rfl), ?_⟩
    refine ⟨_, rfl, a, rfl, ⟨xs, hS⟩, fun D hD => ?_⟩
    refine lc_bals (walk_list (K := K) (a := a) (xs := xs)) hD (by omega) (fun H e => ex_l e hS) bs hxl.symm ?_ ?_
    · rintro i x Ha Ha' b hi hb ea ⟨rfl, hx⟩ Qc hq
      obtain ⟨b', hb', t, l, rfl, hT, hL⟩ := Paired.get hP hx
      rw [hb] at hb'
      cases hb'
      refine ⟨t, _, rfl, ex_t ea hT, rfl, .ref l, _, rfl, .int b.2, [], rfl, rfl, rfl, .ref l, rfl, l, nv b.1, rfl, .inl (ex_l ea hL), fun p np => ⟨_, rfl, (by decide : 2 ≤ sizeLine), fun t2 nt2 => ?_⟩⟩
      have ep := Ex.new (o := .lst (nv b.1)) np
      have et := Ex.new (o := .tup [.ref p, .int b.2]) nt2
      exact hq t2 p _ (fresh_back ep nt2) np (ep.trans et) upd_same (et _ _ upd_same)
    intro H4 ts ls e4 BN
    refine ⟨_, rfl, x, T.c_Ballots, dx, _, rfl, e4 _ _ hx, T.C_Ballots, T.a_Ballots_ballots, (by decide : (0 : Nat) < 1000), ?_⟩
    refine q _ D ts ls (fun b o n hb => by rw [upd_ne n]; exact e4 _ _ hb) upd_same ?_
    exact BN.exB (x := x) (by rw [hx]; simp) exB_upd
def shB (n : Nat) (f : Nat → Nat → Int) (bs : List (List Nat × Int)) : Bool := bs.all (okB n) && PyData.eqv (dTab n (cnt bs)) (dTab n f)
theorem shB_true {n : Nat} {f : Nat → Nat → Int} {bs : List (List Nat × Int)} (h : bs.all (okB n) = true) (e : ∀ i j, i < n → j < n → cnt bs i j = f i j) : shB n f bs = true := by
  unfold shB
  rw [h, eqv_tab e]
  rfl
def spBShows (K : PySem.W.Frag) (C : Addr) : Sp := fun vs H Q _ => ∃ (x dx : Addr) (v u : V) (bs : List (List Nat × Int)) (n : Nat) (f : Nat → Nat → Int), vs = [.ref x, v] ∧ H x = some (.ins C dx [("ballots", u)]) ∧ BalsR K H u bs ∧ (∀ b ∈ bs, b.1.length < 60) ∧ TabR K H v n f ∧ n ≤ 20 ∧
  ∀ H2, Ex H H2 → Q (.bl (shB n f bs)) H2
theorem ok_Ballots_shows (T : Tx K mg) : FnOk P w K mg base CX0 3 T.f_Ballots_shows T.d_Ballots_shows ["self", "table"] (spBShows K T.c_Ballots) := by
  refine T.F_Ballots_shows.ok sc_Ballots_shows (fun vs H Q E h => ?_) (fun cdv A outer s H vs Q E hr h => ?_)
  · obtain ⟨x, dx, v, u, bs, n, f, rfl, _⟩ := h
    rfl
  · obtain ⟨x, dx, v, u, bs, n, f, rfl, hx, hB, h60, TT, hn, q⟩ := h
    obtain ⟨t, xs, rfl, hS, hl, hat⟩ := TT.at_
    refine ⟨_, pss_one (ps_ret (pe_and (pe_call (ok_are_ballots T) (hr.mono (by decide)) (by rfl) T.g_are_ballots T.F_are_ballots.kp (b_are_ballots T) .nil pass0 (pa_cons (pe_callB (lenK K) (by rfl) T.n_len PySem.boot_len (pa_cons (pv 1) pa_nil)) (pa_cons (fldK K (pv 0)) pa_nil))) (pe_one (pe_cmpR (eqDK K hr.units) (pe_call (ok_count_of T) (hr.mono (by decide)) (by rfl) T.g_count_of T.F_count_of.kp (b_count_of T) .nil pass0 (pa_cons (pe_callB (lenK K) (by rfl) T.n_len PySem.boot_len (pa_cons (pv 1) pa_nil)) (pa_cons (fldK K (pv 0)) pa_nil))) (pv 1) (nomark _))))), ?_⟩
    refine ⟨_, rfl, t, _, rfl, .inl hS, _, rfl, x, T.c_Ballots, dx, _, _, rfl, hx, T.C_Ballots, T.a_Ballots_ballots, rfl, n, u, bs, by rw [hl]; rfl, hn, hB, h60, fun H2 e2 => ?_⟩
    refine ⟨_, rfl, ?_⟩
    unfold shB at q
    refine it2 (fun hall => ?_) (fun hall => ?_)
    · rw [hall, Bool.true_and] at q
      refine ⟨_, rfl, t, _, rfl, .inl (ex_l e2 hS), _, rfl, x, T.c_Ballots, dx, _, _, rfl, e2 _ _ hx, T.C_Ballots, T.a_Ballots_ballots, rfl, n, u, bs, by rw [hl]; rfl, hn, hB.mono e2, fun b hb => okB_lt (List.all_eq_true.mp hall b hb), fun H3 t2 rs e3 T2 => ?_⟩
      exact ⟨_, rfl, _, _, T2.rd.dp, (TT.mono (e2.trans e3)).dp, shaped_tab _ _, shaped_tab _ _, q _ (e2.trans e3)⟩
    · rw [hall] at q
      exact q _ e2
def spUInit (C : Addr) : Sp := fun vs H Q _ => ∃ (x dx : Addr) (p r : V), vs = [.ref x, p, r] ∧ H x = some (.ins C dx []) ∧ ∀ H2, ExB x H H2 → H2 x = some (.ins C dx [("one", p), ("other", r)]) → Q .non H2
def shU (n : Nat) (f : Nat → Nat → Int) (a b c d : Int) : Bool := prOk a b n && (prOk c d n && decide ((f a.toNat b.toNat + f c.toNat d.toNat) % 2 = 1))
def spUShows (K : PySem.W.Frag) (C : Addr) : Sp := fun vs H Q _ => ∃ (x dx p r : Addr) (v : V) (a b c d : Int) (n : Nat) (f : Nat → Nat → Int), vs = [.ref x, v] ∧ H x = some (.ins C dx [("one", .ref p), ("other", .ref r)]) ∧ SqT K H p [.int a, .int b] ∧ SqT K H r [.int c, .int d] ∧ TabR K H v n f ∧
  ∀ H2, Ex H H2 → Q (.bl (shU n f a b c d)) H2
theorem prOk_of {a b : Int} {n : Nat} (h : prOk a b n = true) : 0 ≤ a ∧ a < n ∧ 0 ≤ b ∧ b < n ∧ a ≠ b := by
  unfold prOk at h
  rw [Bool.and_eq_true, Bool.and_eq_true] at h
  have h1 := of_decide_eq_true h.1
  have h2 := of_decide_eq_true h.2.1
  have h3 := of_decide_eq_true h.2.2
  omega
theorem ok_Uneven__init (T : Tx K mg) : FnOk P w K mg base CX0 1 T.f_Uneven__init T.d_Uneven__init ["self", "one", "other"] (spUInit T.c_Uneven) := by
  refine T.F_Uneven__init.ok sc_Uneven__init (fun vs H Q E h => ?_) (fun cdv A outer s H vs Q E hr h => ?_)
  · obtain ⟨x, dx, p, r, rfl, _⟩ := h
    rfl
  · obtain ⟨x, dx, p, r, rfl, hx, q⟩ := h
    refine ⟨_, pss_cons (ps_fld (pv 0) (pv 1) rfl)
      (pss_one (ps_fld (pv 0) (pv 2) rfl)), ?_⟩
    refine ⟨_, rfl, _, rfl, x, T.c_Uneven, dx, _, rfl, hx, T.C_Uneven, T.a_Uneven_one, (by decide : (0 : Nat) < 1000), ?_⟩
    refine ⟨_, rfl, _, rfl, x, T.c_Uneven, dx, _, rfl, upd_same, T.C_Uneven, T.a_Uneven_other, (by decide : (1 : Nat) < 1000), ?_⟩
    exact q _ (fun b o n hb => by rw [upd_ne n, upd_ne n]; exact hb) upd_same
theorem ok_Uneven_shows (T : Tx K mg) : FnOk P w K mg base CX0 2 T.f_Uneven_shows T.d_Uneven_shows ["self", "table"] (spUShows K T.c_Uneven) := by
  refine T.F_Uneven_shows.ok sc_Uneven_shows (fun vs H Q E h => ?_) (fun cdv A outer s H vs Q E hr h => ?_)
  · obtain ⟨x, dx, p, r, v, a, b, c, d, n, f, rfl, _⟩ := h
    rfl
  · obtain ⟨x, dx, p, r, v, a, b, c, d, n, f, rfl, hx, hp, hr2, TT, q⟩ := h
    obtain ⟨t, xs, rfl, hS, hl, hat⟩ := TT.at_
    refine ⟨_, pss_cons (ps_if (PW.pt (pw_or (pt_not (pt_val (pe_call (ok_is_pair T) (hr.mono (by decide)) (by rfl) T.g_is_pair T.F_is_pair.kp (b_is_pair T) .nil pass0 (pa_cons (fldK K (pv 0)) (pa_cons (pe_callB (lenK K) (by rfl) T.n_len PySem.boot_len (pa_cons (pv 1) pa_nil)) pa_nil))))) (pw_or1 (pt_not (pt_val (pe_call (ok_is_pair T) (hr.mono (by decide)) (by rfl) T.g_is_pair T.F_is_pair.kp (b_is_pair T) .nil pass0 (pa_cons (fldK K (pv 0)) (pa_cons (pe_callB (lenK K) (by rfl) T.n_len PySem.boot_len (pa_cons (pv 1) pa_nil)) pa_nil)))))))) (pss_one (ps_ret pe_bl)) (pss_nil))
      (pss_cons (ps_set (i := 2) sc_Uneven_shows.nd rfl (Or.inl rfl) (pe_ix (ixLK K) (pe_ix (ixLK K) (pv 1) (pe_ix (ixTK K) (pe_fld (pv 0) rfl) pe_int (fun _ _ => rfl)) (fun _ _ => rfl)) (pe_ix (ixTK K) (pe_fld (pv 0) rfl) pe_int (fun _ _ => rfl)) (fun _ _ => rfl)))
      (pss_one (ps_ret (pe_cmpR op_eq (pe_op op_mod (pe_op op_add (pv 2) (pe_ix (ixLK K) (pe_ix (ixLK K) (pv 1) (pe_ix (ixTK K) (pe_fld (pv 0) rfl) pe_int (fun _ _ => rfl)) (fun _ _ => rfl)) (pe_ix (ixTK K) (pe_fld (pv 0) rfl) pe_int (fun _ _ => rfl)) (fun _ _ => rfl))) pe_int) pe_int (nomark _))))), ?_⟩
    unfold shU at q
    refine ⟨_, rfl, x, T.c_Uneven, dx, _, _, rfl, hx, T.C_Uneven, T.a_Uneven_one, rfl, _, rfl, t, _, rfl, .inl hS, p, a, b, n, by rw [hl]; rfl, hp, _, rfl, ?_⟩
    cases h1 : prOk a b n with
    | false =>
      rw [h1] at q
      exact q _ (Ex.refl _)
    | true =>
      rw [h1, Bool.true_and] at q
      refine ⟨_, rfl, x, T.c_Uneven, dx, _, _, rfl, hx, T.C_Uneven, T.a_Uneven_other, rfl, _, rfl, t, _, rfl, .inl hS, r, c, d, n, by rw [hl]; rfl, hr2, _, rfl, ?_⟩
      cases h2 : prOk c d n with
      | false =>
        rw [h2] at q
        exact q _ (Ex.refl _)
      | true =>
        rw [h2, Bool.true_and] at q
        obtain ⟨a0, a1, b0, b1, _⟩ := prOk_of h1
        obtain ⟨c0, c1, d0, d1, _⟩ := prOk_of h2
        obtain ⟨a', rfl⟩ : ∃ k : Nat, a = (k : Int) := ⟨a.toNat, by omega⟩
        obtain ⟨b', rfl⟩ : ∃ k : Nat, b = (k : Int) := ⟨b.toNat, by omega⟩
        obtain ⟨c', rfl⟩ : ∃ k : Nat, c = (k : Int) := ⟨c.toNat, by omega⟩
        obtain ⟨d', rfl⟩ : ∃ k : Nat, d = (k : Int) := ⟨d.toNat, by omega⟩
        obtain ⟨r1, g1, g2⟩ := hat a' (by omega)
        obtain ⟨r2, g3, g4⟩ := hat c' (by omega)
        refine ⟨_, rfl, _, rfl, x, T.c_Uneven, dx, _, _, rfl, hx, T.C_Uneven, T.a_Uneven_one, rfl, p, _, 0, _, rfl, rfl, hp, rfl, t, _, a', .ref r1, rfl, rfl, hS, atI_nat g1, _, rfl, x, T.c_Uneven, dx, _, _, rfl, hx, T.C_Uneven, T.a_Uneven_one, rfl, p, _, 1, _, rfl, rfl, hp, rfl, r1, _, b', .int _, rfl, rfl, g2, atI_nat (rowV_get (by omega)), ?_⟩
        refine ⟨_, rfl, _, rfl, _, rfl, x, T.c_Uneven, dx, _, _, rfl, hx, T.C_Uneven, T.a_Uneven_other, rfl, r, _, 0, _, rfl, rfl, hr2, rfl, t, _, c', .ref r2, rfl, rfl, hS, atI_nat g3, _, rfl, x, T.c_Uneven, dx, _, _, rfl, hx, T.C_Uneven, T.a_Uneven_other, rfl, r, _, 1, _, rfl, rfl, hr2, rfl, r2, _, d', .int _, rfl, rfl, g4, atI_nat (rowV_get (by omega)), _, _, rfl, rfl, _, _, rfl, rfl, (by decide : (0 : Int) < 2), rfl, ?_⟩
        have e9 : decide (V.int ((f a' b' + f c' d') % 2) = V.int 1) = decide ((f a' b' + f c' d') % 2 = 1) := by
          by_cases h : (f a' b' + f c' d') % 2 = 1
          · rw [decide_eq_true h, decide_eq_true (by rw [h])]
          · rw [decide_eq_false h, decide_eq_false (fun e => h (by injection e))]
        rw [e9]
        exact q _ (Ex.refl _)
end
end Hc
namespace Hc
open PySem PySem.Spec PyProof.Rows L2 Evl
section
variable {P : Program} {w : World} {K : PySem.W.Frag} {mg : Str → Option Value} {base : Heap}
def spTwo (K : PySem.W.Frag) : Sp := fun vs H Q _ => ∃ (n a b : Nat) (m : Int), vs = [.int (n : Int), .int (a : Int), .int (b : Int), .int m] ∧ n ≤ 20 ∧ ∀ H2 D ts ls, Ex H H2 → BalsN H H2 D ts ls (twoB n a b m) → Q (.ref D) H2
theorem ok_two_ballots (T : Tx K mg) : FnOk P w K mg base CX0 1 T.f_two_ballots T.d_two_ballots ["size", "ahead", "behind", "many"] (spTwo K) := by
  refine T.F_two_ballots.ok sc_two_ballots (fun vs H Q E h => ?_) (fun cdv A outer s H vs Q E hr h => ?_)
  · obtain ⟨n, a, b, m, rfl, _⟩ := h
    rfl
  · obtain ⟨n, a, b, m, rfl, hn, q⟩ := h
    refine ⟨_, pss_cons (ps_setLc (i := 4) (own := [("one", 5)]) rfl sc_two_ballots.nd rfl rfl (sw_true rfl rfl rfl (by decide +kernel)) (pi_range1 (by rfl) T.n_range (pa_cons (pv 0) pa_nil)) (blkOk_by (own := [("one", 5)]) (N := ["size", "ahead", "behind", "many", "rest", "one"]) (sc := defScope s_two_ballots) (by decide +kernel)) (fun _ _ _ _ _ => (pg_name (i := 5) sc_two_ballots.nd rfl (by first | exact Or.inl rfl | exact Or.inr rfl))) (fun _ _ _ _ _ => pts_one (pt_cmpR (notInK K) (pv 5) (pe_tup (pa_cons (pv 1) (pa_cons (pv 2) pa_nil))) (by rfl))) (fun _ _ _ _ _ => (pv 5)))
      (pss_one (ps_ret (pe_lst (pa_cons (pe_tup (pa_cons (pe_op op_cat (pe_lst (pa_cons (pv 1) (pa_cons (pv 2) pa_nil))) (pv 4)) (pa_cons (pv 3) pa_nil))) (pa_cons (pe_tup (pa_cons (pe_op op_cat (revLK K (pv 4)) (pe_lst (pa_cons (pv 1) (pa_cons (pv 2) pa_nil)))) (pa_cons (pv 3) pa_nil))) pa_nil))))), ?_⟩
    refine ⟨_, rfl, n, rfl, by omega, by omega, fun D hD => ?_⟩
    refine lc_filt (n := n) (walk_rg0 (n := n)) hD (by omega) (fun _ _ => trivial) (fun k => !(k == a || k == b)) (fun k => V.int (k : Int)) ?_ ?_
    · rintro i x Ha Ha' hi ea ⟨rfl, rfl⟩ B Qc hf ht
      refine ⟨rfl, _, rfl, _, rfl, _, rfl, (by decide : 2 ≤ sizeLine), fun tp ntp => ⟨tp, _, rfl, .inr (st_of upd_same), rfl, rfl, _, rfl, ?_⟩⟩
      have etp := Ex.new (o := .tup [V.int (a : Int), V.int (b : Int)]) ntp
      have ei : inV (V.int (i : Int)) [V.int (a : Int), V.int (b : Int)] = (i == a || i == b) := by
        unfold inV
        rw [List.any_cons, List.any_cons, List.any_nil, eqV_int, eqV_int, Bool.or_false]
        have e1 : ∀ k : Nat, ((k : Int) == (i : Int)) = (i == k) := fun k => by
          by_cases h : i = k
          · subst h
            simp
          · have h2 : ¬ ((k : Int) = (i : Int)) := by omega
            rw [beq_false_of_ne h2, beq_false_of_ne h]
        rw [e1, e1]
      show if (!inV (V.int (i : Int)) [V.int (a : Int), V.int (b : Int)]) = true then _ else _
      rw [ei]
      refine it2 (fun hp => ?_) (fun hp => ?_)
      · exact ⟨_, rfl, ht _ etp hp⟩
      · exact hf _ etp hp
    · intro H2 e2 hD2
      have hD2' : H2 D = some (.lst (nv (restOf n a b))) := hD2
      refine ⟨_, rfl, _, rfl, (by decide : 2 ≤ sizeLine), fun p1 np1 => ?_⟩
      have f1 := Ex.new (o := .lst [V.int (a : Int), V.int (b : Int)]) np1
      have hlr : (restOf n a b).length ≤ n := by
        unfold restOf
        refine Nat.le_trans (List.length_filter_le _ _) ?_
        rw [List.length_range]
        exact Nat.le_refl _
      refine ⟨_, rfl, p1, D, _, _, rfl, rfl, upd_same, f1 _ _ hD2', sz_of (by rw [nv_length]; show 2 + _ ≤ _; omega), fun l1 nl1 => ?_⟩
      have f2 := Ex.new (o := .lst ([V.int (a : Int), V.int (b : Int)] ++ nv (restOf n a b))) nl1
      refine ⟨_, rfl, (by decide : 2 ≤ sizeLine), fun t1 nt1 => ?_⟩
      have f3 := Ex.new (o := .tup [.ref l1, .int m]) nt1
      have hD3 := f3 _ _ (f2 _ _ (f1 _ _ hD2'))
      refine ⟨_, rfl, D, _, rfl, sq_of hD3, fun p2 np2 => ?_⟩
      have f4 := Ex.new (o := .lst (nv (restOf n a b)).reverse) np2
      refine ⟨_, rfl, _, rfl, (by decide : 2 ≤ sizeLine), fun p3 np3 => ?_⟩
      have f5 := Ex.new (o := .lst [V.int (a : Int), V.int (b : Int)]) np3
      refine ⟨p2, p3, _, _, rfl, rfl, f5 _ _ upd_same, upd_same, sz_of (by rw [List.length_reverse, nv_length]; show _ + 2 ≤ _; omega), fun l2 nl2 => ?_⟩
      have f6 := Ex.new (o := .lst ((nv (restOf n a b)).reverse ++ [V.int (a : Int), V.int (b : Int)])) nl2
      refine ⟨_, rfl, (by decide : 2 ≤ sizeLine), fun t2 nt2 => ?_⟩
      have f7 := Ex.new (o := .tup [.ref l2, .int m]) nt2
      refine ⟨(by decide : 2 ≤ sizeLine), fun R nR => ?_⟩
      have f8 := Ex.new (o := .lst [.ref t1, .ref t2]) nR
      have e12 := e2.trans f1
      have e13 := e12.trans f2
      have e14 := e13.trans f3
      have e15 := (e14.trans f4).trans f5
      have e16 := e15.trans f6
      have e17 := e16.trans f7
      refine q _ R [t1, t2] [l1, l2] (e17.trans f8) (balsN_two (b1 := (a :: b :: restOf n a b, m)) (b2 := ((restOf n a b).reverse ++ [a, b], m)) upd_same (f8 _ _ (f7 _ _ (f6 _ _ (f5 _ _ (f4 _ _ upd_same))))) ?_ (f8 _ _ upd_same) ?_ ?_ (fresh_back e12 nl1) (fresh_back e15 nl2) (fresh_back e13 nt1) (fresh_back e16 nt2) (fresh_back e17 nR))
      · exact f8 _ _ (f7 _ _ (f6 _ _ (f5 _ _ (f4 _ _ (f3 _ _ upd_same)))))
      · rw [f8 _ _ (f7 _ _ upd_same)]
        unfold nv
        rw [List.map_append, List.map_reverse]
        rfl
      · exact ne_of_fresh (f5 _ _ (f4 _ _ (f3 _ _ upd_same))) nl2
/-- what told tells of a table -/
inductive Told (cB cU : Addr) (H H2 : Hp) (x : Addr) (n : Nat) (f : Nat → Nat → Int) : Prop where
  | bal (dx D : Addr) (ts ls : List Addr) (bs : List (List Nat × Int)) (hx : H2 x = some (.ins cB dx [("ballots", .ref D)])) (B : BalsN H H2 D ts ls bs) (ok : bs.all (okB n) = true) (ec : ∀ i j, i < n → j < n → cnt bs i j = f i j) (al : Alike n f) (len : bs.length ≤ 1000)
  | une (dx t1 t2 : Addr) (a b : Nat) (hx : H2 x = some (.ins cU dx [("one", .ref t1), ("other", .ref t2)])) (h1 : H2 t1 = some (.tup [.int 0, .int 1])) (h2 : H2 t2 = some (.tup [.int (a : Int), .int (b : Int)])) (hab : a < b) (hb : b < n) (odd : (f 0 1 + f a b) % 2 = 1)
def spTold (K : PySem.W.Frag) (cB cU : Addr) : Sp := fun vs H Q _ => ∃ (v : V) (n : Nat) (f : Nat → Nat → Int), vs = [v] ∧ 1 ≤ n ∧ n ≤ 20 ∧ TabR K H v n f ∧ Anti n f ∧ ∀ H2 x, Ex H H2 → H x = none → Told cB cU H H2 x n f → Q (.ref x) H2
def Par (n : Nat) (f : Nat → Nat → Int) (o : Int) (a b : Nat) : Prop := ∀ i j, i < j → j < n → (i < a ∨ (i = a ∧ j < b)) → (f i j - o) % 2 = 0
theorem okB_two {n a b : Nat} {m : Int} (ha : a < n) (hb : b < n) (hab : a ≠ b) (hm : 1 ≤ m) : (twoB n a b m).all (okB n) = true := by
  unfold twoB okB
  rw [List.all_cons, List.all_cons, List.all_nil, decide_eq_true hm, List.isPerm_iff.mpr (two_perm ha hb hab), List.isPerm_iff.mpr (two_perm2 ha hb hab)]
  rfl
theorem ok_told (T : Tx K mg) : FnOk P w K mg base CX0 3 T.f_told T.d_told ["table"] (spTold K T.c_Ballots T.c_Uneven) := by
  refine T.F_told.ok sc_told (fun vs H Q E h => ?_) (fun cdv A outer s H vs Q E hr h => ?_)
  · obtain ⟨v, n, f, rfl, _⟩ := h
    rfl
  · obtain ⟨v, n, f, rfl, hn1, hn, TT, hA, q⟩ := h
    obtain ⟨t, tx, rfl, hS, hl, hat⟩ := TT.at_
    refine ⟨_, pss_cons (ps_expr (pe_call (ok_asked_table T) (hr.mono (by decide)) (by rfl) T.g_asked_table T.F_asked_table.kp (b_asked_table T) .nil pass0 (pa_cons (pv 0) pa_nil)))
      (pss_cons (ps_set (i := 1) sc_told.nd rfl (Or.inl rfl) (pe_callB (lenK K) (by rfl) T.n_len PySem.boot_len (pa_cons (pv 0) pa_nil)))
      (Evl.pss_cut (ps_set (i := 2) sc_told.nd rfl (Or.inl rfl) (pe_and (pe_cmpR op_gt (pv 1) pe_int (nomark _)) (pe_one (pe_cmpR op_eq (pe_op op_mod (pe_ix (ixLK K) (pe_ix (ixLK K) (pv 0) pe_int (fun _ _ => rfl)) pe_int (fun _ _ => rfl)) pe_int) pe_int (nomark _)))))
      (Evl.pss_cut (ps_set (i := 3) sc_told.nd rfl (Or.inl rfl) (pe_ifExp (pt_val (pv 2)) (pe_lst (pa_cons (pe_tup (pa_cons (pe_listRg rfl (by rfl) T.n_list (prg_1 (by rfl) T.n_range (pv 1))) (pa_cons pe_int pa_nil))) pa_nil)) (pe_lst pa_nil)))
      (pss_cons (ps_for PassesOwn.never rfl (pi_range1 (by rfl) T.n_range (pa_cons (pv 1) pa_nil)) (pg_name (i := 4) sc_told.nd rfl (by first | exact Or.inl rfl | exact Or.inr rfl))
        (pss_one (ps_for PassesOwn.never rfl (pi_range2 (by rfl) T.n_range (pa_cons (pe_op op_add (pv 4) pe_int) (pa_cons (pv 1) pa_nil))) (pg_name (i := 5) sc_told.nd rfl (by first | exact Or.inl rfl | exact Or.inr rfl))
        (pss_cons (ps_set (i := 6) sc_told.nd rfl (Or.inl rfl) (pe_op op_sub (pe_ix (ixLK K) (pe_ix (ixLK K) (pv 0) (pv 4) (fun _ _ => rfl)) (pv 5) (fun _ _ => rfl)) (pe_callTy call_int1 (by rfl) T.n_int bt_int (pa_cons (pv 2) pa_nil))))
      (pss_cons (ps_if (pt_cmpR op_eq (pe_op op_mod (pv 6) pe_int) pe_int (nomark _)) (pss_one (ps_ret (pe_make T.M_Uneven (ok_Uneven__init T) (hr.mono (by decide)) (by rfl) T.g_Uneven (b_Uneven__init T) .nil pass0 (pa_cons (pe_tup (pa_cons pe_int (pa_cons pe_int pa_nil))) (pa_cons (pe_tup (pa_cons (pv 4) (pa_cons (pv 5) pa_nil))) pa_nil))))) (pss_nil))
      (pss_cons (ps_if (pt_cmpR op_gt (pv 6) pe_int (nomark _)) (pss_one (ps_expr (pe_bm PySem.F.plainAttrs_list PySem.F.slot_list_extend PySem.F.type_list_extend mt_extend (pv 3) (pa_cons (pe_call (ok_two_ballots T) (hr.mono (by decide)) (by rfl) T.g_two_ballots T.F_two_ballots.kp (b_two_ballots T) .nil pass0 (pa_cons (pv 1) (pa_cons (pv 4) (pa_cons (pv 5) (pa_cons (pe_op op_fdivW (pv 6) pe_int) pa_nil))))) pa_nil)))) (pss_nil))
      (pss_one (ps_if (pt_cmpR op_lt (pv 6) pe_int (nomark _)) (pss_one (ps_expr (pe_bm PySem.F.plainAttrs_list PySem.F.slot_list_extend PySem.F.type_list_extend mt_extend (pv 3) (pa_cons (pe_call (ok_two_ballots T) (hr.mono (by decide)) (by rfl) T.g_two_ballots T.F_two_ballots.kp (b_two_ballots T) .nil pass0 (pa_cons (pv 1) (pa_cons (pv 5) (pa_cons (pv 4) (pa_cons (pe_op op_fdivW (pe_un un_neg (pv 6)) pe_int) pa_nil))))) pa_nil)))) (pss_nil)))))))))
      (pss_one (ps_ret (pe_make T.M_Ballots (ok_Ballots__init T) (hr.mono (by decide)) (by rfl) T.g_Ballots (b_Ballots__init T) .nil pass0 (pa_cons (pv 3) pa_nil)))))))), ?_⟩
    refine ⟨_, rfl, _, n, f, rfl, hn1, hn, TT, hA, fun H1 e1 => ?_⟩
    refine ⟨_, rfl, t, _, rfl, .inl (ex_l e1 hS), ?_⟩
    rw [hl]
    have hS1 := ex_l e1 hS
    have hat1 : ∀ i, i < n → ∃ r, tx[i]? = some (V.ref r) ∧ SqL K H1 r (rowV n (f i)) := fun i hi => by
      obtain ⟨r, h1, h2⟩ := hat i hi
      exact ⟨r, h1, ex_l e1 h2⟩
    obtain ⟨o, ho⟩ : ∃ o : Bool, o = (decide (1 < n) && decide (f 0 1 % 2 = 1)) := ⟨_, rfl⟩
    refine ⟨fun σ' H' => H1 = H' ∧ σ' = [some (.ref t), some (.int n), some (.bl o), none, none, none, none], ?_, ?_⟩
    · refine ⟨_, rfl, _, _, rfl, rfl, _, rfl, it2 (fun h1 => ?_) (fun h1 => ?_)⟩
      · have h1' : 1 < n := by
          have := of_decide_eq_true h1
          omega
        obtain ⟨r, g1, g2⟩ := hat1 0 (by omega)
        refine ⟨_, rfl, t, _, 0, .ref r, rfl, rfl, hS1, atI_nat (j := 0) g1, r, _, 1, .int _, rfl, rfl, g2, atI_nat (j := 1) (rowV_get h1'), _, _, rfl, rfl, (by decide : (0 : Int) < 2), rfl, ?_⟩
        rw [dec_int, ho, decide_eq_true h1', Bool.true_and]
        exact ⟨rfl, rfl⟩
      · have h1' : ¬ 1 < n := by
          have := of_decide_eq_false h1
          omega
        rw [ho, decide_eq_false h1', Bool.false_and]
        exact ⟨rfl, rfl⟩
    rintro _ _ ⟨rfl, rfl⟩
    obtain ⟨oi, hoi⟩ : ∃ oi : Int, oi = (if o = true then 1 else 0) := ⟨_, rfl⟩
    refine ⟨fun σ' H' => ∃ F xs bs, σ' = [some (.ref t), some (.int n), some (.bl o), some (.ref F), none, none, none] ∧ Ex H1 H' ∧ H1 F = none ∧ H' F = some (.lst xs) ∧ Paired (BalR K (rem H' F)) xs bs ∧ bs.all (okB n) = true ∧ Done n f oi 0 1 bs ∧ bs.length ≤ 1, ?_, ?_⟩
    · refine ⟨_, rfl, o, rfl, it2 (fun h1 => ?_) (fun h1 => ?_)⟩
      · refine ⟨_, rfl, n, rfl, rgOk_nat (by omega), fun L0 nL0 => ?_⟩
        rw [rgV_nv]
        have f1 := Ex.new (o := .lst (nv (List.range n))) nL0
        refine ⟨(by decide : 2 ≤ sizeLine), fun t1 nt1 => ?_⟩
        have f2 := Ex.new (o := .tup [.ref L0, .int 1]) nt1
        refine ⟨(by decide : 1 ≤ sizeLine), fun F nF => ?_⟩
        have f3 := Ex.new (o := .lst [.ref t1]) nF
        refine ⟨F, _, [(List.range n, 1)], rfl, (f1.trans f2).trans f3, fresh_back (f1.trans f2) nF, upd_same, ?_, ?_, done_start fun i j hi hj => ?_, Nat.le_refl _⟩
        · refine .cons ⟨t1, L0, rfl, st_of ?_, sq_of ?_⟩ .nil
          · rw [rem_ne (ne_of_fresh upd_same nF)]
            exact f3 _ _ upd_same
          · rw [rem_ne (ne_of_fresh (f2 _ _ upd_same) nF)]
            exact f3 _ _ (f2 _ _ upd_same)
        · unfold okB
          rw [List.all_cons, List.all_nil, List.isPerm_iff.mpr (List.Perm.refl _)]
          rfl
        · rw [cnt_cons, cnt_nil, psum_range, if_pos ⟨hi, hj⟩, if_neg (by omega), hoi, if_pos h1]
          rfl
      · refine ⟨Nat.zero_le _, fun F nF => ?_⟩
        refine ⟨F, [], [], rfl, Ex.new nF, nF, upd_same, .nil, rfl, done_start fun i j hi hj => ?_, by decide⟩
        rw [cnt_nil, hoi, h1]
        rfl
    rintro _ H2 ⟨F, xs, bs, rfl, e2, nF, hF, hP, hok, hdn, hlen⟩
    refine ⟨_, rfl, n, rfl, by omega, by omega, ?_⟩
    refine for_it (walk_rg0 (n := n)) (fun i σ' H' => ∃ y4 y5 y6 xs bs, σ' = [some (.ref t), some (.int n), some (.bl o), some (.ref F), y4, y5, y6] ∧ Ex H1 H' ∧ H' F = some (.lst xs) ∧ Paired (BalR K (rem H' F)) xs bs ∧ bs.all (okB n) = true ∧ Done n f oi i (i + 1) bs ∧ bs.length ≤ 1 + 40 * i ∧ Par n f oi i (i + 1))
      ⟨_, _, _, xs, bs, rfl, e2, hF, hP, hok, hdn, hlen, fun i j hi hj h => by omega⟩ (fun _ _ _ _ _ => trivial) ?_ ?_
    · rintro i x σ' H' H'' hi ⟨y4, y5, y6, xs, bs, rfl, e, hF, hP, hok, hdn, hlen, hpar⟩ ⟨rfl, rfl⟩
      refine ⟨_, rfl, _, _, rfl, rfl, _, rfl, ((i + 1 : Nat) : Int), (n : Int), rfl, ⟨by omega, by omega, by omega, by omega⟩, ?_⟩
      rw [show ((n : Int) - ((i + 1 : Nat) : Int)).toNat = n - (i + 1) by omega]
      refine for_it (walk_rg (a := i + 1) (n := n - (i + 1))) (fun z σ' H' => ∃ y5 y6 xs bs, σ' = [some (.ref t), some (.int n), some (.bl o), some (.ref F), some (.int i), y5, y6] ∧ Ex H1 H' ∧ H' F = some (.lst xs) ∧ Paired (BalR K (rem H' F)) xs bs ∧ bs.all (okB n) = true ∧ Done n f oi i (i + 1 + z) bs ∧ bs.length ≤ 1 + 40 * i + 2 * z ∧ Par n f oi i (i + 1 + z))
        ⟨_, _, xs, bs, rfl, e, hF, hP, hok, hdn, hlen, hpar⟩ (fun _ _ _ _ _ => trivial) ?_ ?_
      · rintro z x σ' H' H'' hz ⟨y5, y6, xs, bs, rfl, e, hF, hP, hok, hdn, hlen, hpar⟩ ⟨rfl, rfl⟩
        obtain ⟨j, hj⟩ : ∃ j, j = i + 1 + z := ⟨_, rfl⟩
        rw [← hj] at hdn hpar ⊢
        have hij : i < j := by omega
        have hjn : j < n := by omega
        obtain ⟨r, g1, g2⟩ := hat1 i hi
        refine ⟨_, rfl, _, rfl, t, _, i, .ref r, rfl, rfl, ex_l e hS1, atI_nat g1, _, rfl, r, _, j, .int _, rfl, rfl, ex_l e g2, atI_nat (rowV_get hjn), _, rfl, .inr ⟨o, rfl, _, _, rfl, rfl, ?_⟩⟩
        rw [← hoi]
        have hoi2 : oi = 0 ∨ oi = 1 := by rw [hoi]; split <;> simp
        have hxl : xs.length = bs.length := Paired.len hP
        have nFn : H'' F ≠ none := by rw [hF]; simp
        refine ⟨_, rfl, _, _, rfl, rfl, (by decide : (0 : Int) < 2), rfl, _, rfl, it2 (fun h1 => ?_) (fun h1 => ?_)⟩
        · rw [dec_int] at h1
          have h1' := of_decide_eq_true h1
          have hn2 : 1 < n := by omega
          have hodd : (f 0 1 + f i j) % 2 = 1 := by
            rw [hoi, ho, decide_eq_true hn2, Bool.true_and] at h1'
            by_cases h9 : f 0 1 % 2 = 1
            · rw [decide_eq_true h9, if_pos rfl] at h1'
              omega
            · rw [decide_eq_false h9, if_neg (by decide)] at h1'
              omega
          refine ⟨(by decide : 2 ≤ sizeLine), fun t1 nt1 => ?_⟩
          have f1 := Ex.new (o := .tup [.int 0, .int 1]) nt1
          refine ⟨_, rfl, _, rfl, (by decide : 2 ≤ sizeLine), fun t2 nt2 => ?_⟩
          have f2 := Ex.new (o := .tup [.int (i : Int), .int (j : Int)]) nt2
          intro x dx nx ndx nxd
          refine ⟨x, dx, _, _, rfl, upd_same, fun H3 eB hx => ⟨rfl, ?_⟩⟩
          have f5 : Ex _ H3 := ex_after nx ndx nxd eB
          have e9 : Ex H H3 := (e1.trans (e.trans (f1.trans f2))).trans f5
          exact q H3 x e9 (fresh_back (e1.trans (e.trans (f1.trans f2))) nx) (.une dx t1 t2 i j hx (f5 _ _ (f2 _ _ upd_same)) (f5 _ _ upd_same) hij hjn hodd)
        · rw [dec_int] at h1
          have h1' := of_decide_eq_false h1
          have hev : (f i j - oi) % 2 = 0 := by omega
          have hpar2 : Par n f oi i (j + 1) := fun a b hab hb h => by
            by_cases h9 : a = i ∧ b = j
            · rw [h9.1, h9.2]
              exact hev
            · exact hpar a b hab hb (by omega)
          by_cases hpos : 0 < f i j - oi
          · refine ⟨_, rfl, _, _, rfl, rfl, _, rfl, itT (decide_eq_true hpos) ?_⟩
            refine ⟨_, rfl, .inl ⟨rfl, _, sq_of hF⟩, _, rfl, _, rfl, _, rfl, _, rfl, _, _, rfl, rfl, divW_small (by decide) (by decide), n, i, j, _, rfl, hn, fun H3 D ts ls e3 BN => ?_⟩
            have hm : 1 ≤ (f i j - oi) / 2 := by omega
            refine ⟨F, D, xs, _, rfl, rfl, e3 _ _ hF, BN.top, sz_of (by rw [List.length_map, BN.lt]; show _ + 2 ≤ _; omega), ?_⟩
            refine ⟨_, rfl, _, _, rfl, rfl, _, rfl, itF (decide_eq_false (by omega)) ?_⟩
            refine ⟨_, _, xs ++ ts.map V.ref, bs ++ twoB n i j ((f i j - oi) / 2), rfl, (e.trans e3).mut nF, upd_same, ?_, ?_, ?_, ?_, ?_⟩
            · rw [rem_upd]
              exact Paired.append (Paired.mapP hP fun _ _ q => q.mono (rem_mono e3)) (BN.rem nFn)
            · rw [List.all_append, hok, okB_two hi hjn (by omega) hm]
              rfl
            · rw [show i + 1 + (z + 1) = j + 1 by omega]
              exact done_step hdn hij (by omega)
            · rw [List.length_append]
              show _ + 2 ≤ _
              omega
            · rw [show i + 1 + (z + 1) = j + 1 by omega]
              exact hpar2
          · refine ⟨_, rfl, _, _, rfl, rfl, _, rfl, itF (decide_eq_false hpos) ?_⟩
            by_cases hneg : f i j - oi < 0
            · refine ⟨_, rfl, _, _, rfl, rfl, _, rfl, itT (decide_eq_true hneg) ?_⟩
              refine ⟨_, rfl, .inl ⟨rfl, _, sq_of hF⟩, _, rfl, _, rfl, _, rfl, _, rfl, _, rfl, _, _, rfl, rfl, divW_small (by decide) (by decide), n, j, i, _, rfl, hn, fun H3 D ts ls e3 BN => ?_⟩
              have hm : 1 ≤ -(f i j - oi) / 2 := by omega
              refine ⟨F, D, xs, _, rfl, rfl, e3 _ _ hF, BN.top, sz_of (by rw [List.length_map, BN.lt]; show _ + 2 ≤ _; omega), ?_⟩
              refine ⟨_, _, xs ++ ts.map V.ref, bs ++ twoB n j i (-(f i j - oi) / 2), rfl, (e.trans e3).mut nF, upd_same, ?_, ?_, ?_, ?_, ?_⟩
              · rw [rem_upd]
                exact Paired.append (Paired.mapP hP fun _ _ q => q.mono (rem_mono e3)) (BN.rem nFn)
              · rw [List.all_append, hok, okB_two hjn hi (by omega) hm]
                rfl
              · rw [show i + 1 + (z + 1) = j + 1 by omega]
                exact done_back hdn hij (by omega)
              · rw [List.length_append]
                show _ + 2 ≤ _
                omega
              · rw [show i + 1 + (z + 1) = j + 1 by omega]
                exact hpar2
            · refine ⟨_, rfl, _, _, rfl, rfl, _, rfl, itF (decide_eq_false hneg) ?_⟩
              refine ⟨_, _, xs, bs, rfl, e, hF, hP, hok, ?_, by omega, ?_⟩
              · rw [show i + 1 + (z + 1) = j + 1 by omega]
                exact done_same hdn (by omega)
              · rw [show i + 1 + (z + 1) = j + 1 by omega]
                exact hpar2
      · rintro σ' H' ⟨y5, y6, xs, bs, rfl, e, hF, hP, hok, hdn, hlen, hpar⟩
        rw [show i + 1 + (n - (i + 1)) = n by omega] at hdn hpar
        refine ⟨_, _, _, xs, bs, rfl, e, hF, hP, hok, done_row hdn, by omega, fun a b hab hb h => hpar a b hab hb (by omega)⟩
    · rintro σ' H' ⟨y4, y5, y6, xs, bs, rfl, e, hF, hP, hok, hdn, hlen, hpar⟩
      refine ⟨_, rfl, ?_⟩
      intro x dx nx ndx nxd
      have f4 := ex_made (C := T.c_Ballots) nx ndx nxd
      refine ⟨x, dx, _, bs, rfl, upd_same, ⟨F, xs, rfl, sq_of (f4 _ _ hF), Paired.mapP hP fun _ _ q => (q.mono rem_ex).mono f4⟩, by omega, fun H3 D ts ls eB hx BN => ⟨rfl, ?_⟩⟩
      have f5 : Ex _ H3 := ex_after nx ndx nxd eB
      refine q H3 x ((e1.trans e).trans f5) (fresh_back (e1.trans e) nx) (.bal dx D ts ls bs hx (BN.base ((e1.trans e).trans f4)) hok (done_all hA hdn) (fun i j hi hj => ?_) (by omega))
      have h1 := hpar i j hi hj (by omega)
      have h2 := hpar 0 1 (by omega) (by omega) (by omega)
      omega
end
end Hc
namespace Hc
open PySem PySem.Spec PyProof.Rows L2 Evl
section
variable {P : Program} {w : World} {K : PySem.W.Frag} {mg : Str → Option Value} {base : Heap}
def lawNum (c a w : Int) : Int := if 10 ^ 18 ≤ c then c / (1 + a % 7) else
  (((c + 977 * a) * 48271 + w) % 2147483647 * (c + 31 * a + 7)) * (((c + 977 * a) * 48271 + w) % 2147483647 + c + 5) * (((c + 977 * a) * 48271 + w) % 2147483647 * (((c + 977 * a) * 48271 + w) % 2147483647) + 11) / (1009 + a)
def spLawNum : Sp := fun vs H Q _ => ∃ (c a w : Int) (B : Nat), vs = [.int c, .int a, .int w] ∧ 0 ≤ a ∧ a ≤ 1000 ∧ Big B c ∧ B ≤ 2000000 ∧ Q (.int (lawNum c a w)) H
theorem mod31 (x : Int) : 0 ≤ x % 2147483647 ∧ x % 2147483647 < 2147483647 := ⟨Int.emod_nonneg _ (by decide), Int.emod_lt_of_pos _ (by decide)⟩
theorem ok_law_number (T : Tx K mg) : FnOk P w K mg base CX0 1 T.f_law_number T.d_law_number ["_law_cell", "_law_at", "_law_whole"] spLawNum := by
  refine T.F_law_number.ok sc_law_number (fun vs H Q E h => ?_) (fun cdv A outer s H vs Q E hr h => ?_)
  · obtain ⟨c, a, w', B, rfl, _⟩ := h
    rfl
  · obtain ⟨c, a, w', B, rfl, ha0, ha1, hB, hB2, q⟩ := h
    refine ⟨_, pss_cons (ps_if (pt_cmpR op_ge (pv 0) (pe_op op_pow pe_int pe_int) (nomark _)) (pss_one (ps_ret (pe_op op_fdivW (pv 0) (pe_op op_add pe_int (pe_op op_mod (pv 1) pe_int))))) (pss_nil))
      (pss_cons (ps_set (i := 3) sc_law_number.nd rfl (Or.inl rfl) (pe_op op_mod (pe_op op_add (pe_op op_mulG (pe_op op_add (pv 0) (pe_op op_mulG pe_int (pv 1))) pe_int) (pv 2)) pe_int))
      (pss_cons (ps_set (i := 4) sc_law_number.nd rfl (Or.inl rfl) (pe_op op_mulG (pv 3) (pe_op op_add (pe_op op_add (pv 0) (pe_op op_mulG pe_int (pv 1))) pe_int)))
      (pss_one (ps_ret (pe_op op_fdivW (pe_op op_mulG (pe_op op_mulG (pv 4) (pe_op op_add (pe_op op_add (pv 3) (pv 0)) pe_int)) (pe_op op_add (pe_op op_mulG (pv 3) (pv 3)) pe_int)) (pe_op op_add pe_int (pv 1))))))), ?_⟩
    refine ⟨_, rfl, _, _, rfl, rfl, ⟨by decide, by decide, by decide⟩, _, _, rfl, rfl, _, rfl, it2 (fun hc => ?_) (fun hc => ?_)⟩
    · have hc1 : (10 : Int) ^ 18 ≤ c := of_decide_eq_true hc
      have h7 := Int.emod_lt_of_pos a (show (0 : Int) < 7 by decide)
      have h70 := Int.emod_nonneg a (show (7 : Int) ≠ 0 by decide)
      refine ⟨_, rfl, _, rfl, _, _, rfl, rfl, (by decide : (0 : Int) < 7), _, _, rfl, rfl, _, _, rfl, rfl, divW_small (by omega) (by omega), ?_⟩
      unfold lawNum at q
      rw [if_pos hc1] at q
      exact q
    · have hc1 : ¬ (10 : Int) ^ 18 ≤ c := of_decide_eq_false hc
      unfold lawNum at q
      rw [if_neg hc1] at q
      obtain ⟨m0, m1⟩ := mod31 ((c + 977 * a) * 48271 + w')
      refine ⟨_, rfl, _, rfl, _, _, rfl, rfl, mulOk_small (by decide) (by decide), _, _, rfl, rfl, _, _, rfl, rfl, mulOk_smallR (by decide) (by decide), _, rfl, _, _, rfl, rfl, _, _, rfl, rfl, (by decide : (0 : Int) < 2147483647), ?_⟩
      dsimp only
      generalize ((c + 977 * a) * 48271 + w') % 2147483647 = m at m0 m1 q ⊢
      refine ⟨_, rfl, _, rfl, _, rfl, _, _, rfl, rfl, mulOk_small (by decide) (by decide), _, _, rfl, rfl, _, _, rfl, rfl, _, _, rfl, rfl, mulOk_small (by omega) (by omega), ?_⟩
      have hc' : Big (B + 64) c := hB.mono (Nat.le_add_right _ _)
      have b1 : Big (B + 64 + 1 + 1) (c + 31 * a + 7) := Big.add (Big.add hc' (big_small (Nat.le_add_left _ _) (by omega) (by omega))) (big_small (by omega) (by decide) (by decide))
      have b2 : Big (B + 64 + 1 + 1) (m + c + 5) := Big.add (Big.add (big_small (Nat.le_add_left _ _) (by omega) (by omega)) hc') (big_small (by omega) (by decide) (by decide))
      have b3 : Big (64 + (B + 64 + 1 + 1)) (m * (c + 31 * a + 7)) := Big.mul (big_small (Nat.le_refl _) (by omega) (by omega)) b1
      have mm0 : 0 ≤ m * m := Int.mul_nonneg m0 m0
      have mm1 : m * m ≤ 2147483647 * 2147483647 := Int.mul_le_mul (by omega) (by omega) m0 (by decide)
      refine ⟨_, rfl, _, rfl, _, rfl, _, _, rfl, rfl, _, _, rfl, rfl, _, _, rfl, rfl, mulOk_big b3 b2 (by omega) (by omega) (by omega), _, rfl, _, rfl, _, _, rfl, rfl, mulOk_small (by omega) (by omega), _, _, rfl, rfl, _, _, rfl, rfl, mulOk_smallR (by omega) (by omega), _, rfl, _, _, rfl, rfl, _, _, rfl, rfl, divW_small (by omega) (by omega), q⟩
def spLawBallots (K : PySem.W.Frag) : Sp := fun vs H Q _ => ∃ (a : Addr) (ns : List Int) (n B : Nat), vs = [.ref a, .int (n : Int)] ∧ SqL K H a (iv ns) ∧ n ≤ 20 ∧ (∀ z ∈ ns, Big B z) ∧ B ≤ 2000000 ∧
  ∀ H2 D xs bs, Ex H H2 → H D = none → H2 D = some (.lst xs) → Paired (BalR K H2) xs bs → bs.all (okB n) = true → bs.length = min 24 ns.length → Q (.ref D) H2
theorem atI_three {i : Int} (h0 : 0 ≤ i) (h3 : i < 3) {x y z : Int} (hx : 0 < x) (hy : 0 < y) (hz : 0 < z) : ∃ u : Int, 0 < u ∧ atI [V.int x, V.int y, V.int z] i = some (.int u) := by
  rcases (by omega : i = 0 ∨ i = 1 ∨ i = 2) with rfl | rfl | rfl
  · exact ⟨x, hx, rfl⟩
  · exact ⟨y, hy, rfl⟩
  · exact ⟨z, hz, rfl⟩
theorem perm_erase : ∀ (l : List Nat) (k : Nat) (x : Nat), l[k]? = some x → (x :: l.eraseIdx k).Perm l
  | [], _, _, h => by simp at h
  | a :: l, 0, x, h => by
    have e : a = x := by simpa using h
    subst e
    exact List.Perm.refl _
  | a :: l, k + 1, x, h => by
    have h1 := perm_erase l k x (by simpa using h)
    exact (List.Perm.swap a x _).trans (h1.cons a)
theorem nv_erase (l : List Nat) (k : Nat) : (nv l).eraseIdx k = nv (l.eraseIdx k) := by
  unfold nv
  induction l generalizing k with
  | nil => rfl
  | cons a l ih =>
    cases k with
    | zero => rfl
    | succ k =>
      show _ :: (List.map _ l).eraseIdx k = _ :: List.map _ (l.eraseIdx k)
      rw [ih]
theorem nv_append (l m : List Nat) : nv l ++ nv m = nv (l ++ m) := by
  unfold nv
  rw [List.map_append]
theorem ok_law_ballots (T : Tx K mg) : FnOk P w K mg base CX0 2 T.f_law_ballots T.d_law_ballots ["_law_script", "_law_size"] (spLawBallots K) := by
  refine T.F_law_ballots.ok sc_law_ballots (fun vs H Q E h => ?_) (fun cdv A outer s H vs Q E hr h => ?_)
  · obtain ⟨a, ns, n, B, rfl, _⟩ := h
    rfl
  · obtain ⟨a, ns, n, B, rfl, hS, hn, hB, hB2, q⟩ := h
    refine ⟨_, pss_cons (ps_set (i := 2) sc_law_ballots.nd rfl (Or.inl rfl) (pe_lst pa_nil))
      (pss_cons (ps_set (i := 3) sc_law_ballots.nd rfl (Or.inl rfl) (pe_callB (sumK K) (by rfl) T.n_sum PyProof.Rows.boot_sum (pa_cons (pe_slice (slLK K) (pv 0) po_none (po_some pe_int)) pa_nil)))
      (pss_cons (ps_for PassesOwn.never rfl (piE K (by rfl) T.n_enumerate (pa_cons (pe_slice (slLK K) (pv 0) po_none (po_some pe_int)) pa_nil)) (pgT K (n := 2) (pgs_cons (pg_name (i := 4) sc_law_ballots.nd rfl (by first | exact Or.inl rfl | exact Or.inr rfl)) (pgs_cons (pg_name (i := 5) sc_law_ballots.nd rfl (by first | exact Or.inl rfl | exact Or.inr rfl)) pgs_nil)))
        (pss_cons (ps_set (i := 6) sc_law_ballots.nd rfl (Or.inl rfl) (pe_call (ok_law_number T) (hr.mono (by decide)) (by rfl) T.g_law_number T.F_law_number.kp (b_law_number T) .nil pass0 (pa_cons (pv 5) (pa_cons (pv 4) (pa_cons (pv 3) pa_nil)))))
      (pss_cons (ps_set (i := 7) sc_law_ballots.nd rfl (Or.inl rfl) (pe_listRg rfl (by rfl) T.n_list (prg_1 (by rfl) T.n_range (pv 1))))
      (pss_cons (ps_set (i := 8) sc_law_ballots.nd rfl (Or.inl rfl) (pe_lst pa_nil))
      (pss_cons (ps_while PassesOwn.never (pt_cmpR (neDK K hr.units) (pv 7) (pe_lst pa_nil) (nomark _)) (pss_cons (ps_expr (pe_bm PySem.F.plainAttrs_list PySem.F.slot_list_append PySem.F.type_list_append mt_append (pv 8) (pa_cons (pe_bm PySem.F.plainAttrs_list PySem.F.slot_list_pop PySem.F.type_list_pop mt_popAt (pv 7) (pa_cons (pe_op op_mod (pv 6) (pe_callB (lenK K) (by rfl) T.n_len PySem.boot_len (pa_cons (pv 7) pa_nil))) pa_nil)) pa_nil)))
      (pss_one (ps_set (i := 6) sc_law_ballots.nd rfl (Or.inl rfl) (pe_op op_fdivW (pv 6) (pe_op op_add (pe_callB (lenK K) (by rfl) T.n_len PySem.boot_len (pa_cons (pv 7) pa_nil)) pe_int))))))
      (pss_one (ps_expr (pe_bm PySem.F.plainAttrs_list PySem.F.slot_list_append PySem.F.type_list_append mt_append (pv 2) (pa_cons (pe_tup (pa_cons (pv 8) (pa_cons (pe_op op_add pe_int (pe_op op_mod (pe_call (ok_law_number T) (hr.mono (by decide)) (by rfl) T.g_law_number T.F_law_number.kp (b_law_number T) .nil pass0 (pa_cons (pv 5) (pa_cons (pe_op op_add (pv 4) pe_int) (pa_cons (pv 3) pa_nil)))) (pe_ix (ixTK K) (pe_tup (pa_cons pe_int (pa_cons pe_int (pa_cons (pe_op op_pow pe_int pe_int) pa_nil)))) (pe_op op_mod (pe_op op_fdivW (pv 3) pe_int) pe_int) (fun _ _ => rfl)))) pa_nil))) pa_nil)))))))))
      (pss_one (ps_ret (pv 2))))), ?_⟩
    refine ⟨Nat.zero_le _, fun F nF => ?_⟩
    have e1 : Ex H (upd H F (.lst [])) := Ex.new nF
    refine ⟨.ref a, rfl, 63, rfl, a, iv ns, rfl, ex_l e1 hS, fun c1 nc1 => ?_⟩
    have e2 : Ex _ (upd (upd H F (.lst [])) c1 (.lst (cutV (iv ns) none (some 63)))) := Ex.new nc1
    have ec1 : cutV (iv ns) none (some 63) = (ns.take 63).map V.int := by
      rw [show (63 : Int) = ((63 : Nat) : Int) from rfl, cut_to]
      unfold iv
      rw [List.map_take]
    refine ⟨c1, ns.take 63, rfl, sq_of (by rw [upd_same, ec1]), ?_⟩
    generalize (ns.take 63).sum = wh
    refine ⟨.ref a, rfl, 24, rfl, a, iv ns, rfl, ex_l (e1.trans e2) hS, fun c2 nc2 => ?_⟩
    have e3 := Ex.new (o := .lst (cutV (iv ns) none (some 24))) nc2
    have ec2 : cutV (iv ns) none (some 24) = iv (ns.take 24) := by
      rw [show (24 : Int) = ((24 : Nat) : Int) from rfl, cut_to]
      unfold iv
      rw [List.map_take]
    have hF2 : (upd (upd (upd H F (.lst [])) c1 (.lst (cutV (iv ns) none (some 63)))) c2 (.lst (cutV (iv ns) none (some 24)))) F = some (.lst []) := e3 _ _ (e2 _ _ upd_same)
    have hc2 : (upd (upd (upd H F (.lst [])) c1 (.lst (cutV (iv ns) none (some 63)))) c2 (.lst (cutV (iv ns) none (some 24)))) c2 = some (.lst (iv (ns.take 24))) := by rw [upd_same, ec2]
    have nF2 : F ≠ c2 := fun e => by rw [← e, e2 _ _ upd_same] at nc2; cases nc2
    have e13 := (e1.trans e2).trans e3
    generalize (upd (upd (upd H F (.lst [])) c1 (.lst (cutV (iv ns) none (some 63)))) c2 (.lst (cutV (iv ns) none (some 24)))) = H3 at hF2 hc2 e13
    refine ⟨c2, _, rfl, sq_of hc2, ?_⟩
    refine for_it (walk_enum (K := K) (a := c2) (xs := iv (ns.take 24))) (fun p σ' H' => ∃ y4 y5 y6 y7 y8 xs bs, σ' = [some (.ref a), some (.int n), some (.ref F), some (.int wh), y4, y5, y6, y7, y8] ∧ Ex H H' ∧ H' c2 = some (.lst (iv (ns.take 24))) ∧ H' F = some (.lst xs) ∧ Paired (BalR K (rem H' F)) xs bs ∧ bs.all (okB n) = true ∧ bs.length = p)
      ⟨none, none, none, none, none, [], [], rfl, e13, hc2, hF2, .nil, rfl, rfl⟩ (fun p σ' H' _ ⟨_, _, _, _, _, _, _, _, _, h, _⟩ => sq_of h) ?_ ?_
    · rintro p x σ' H' H'' hp ⟨y4, y5, y6, y7, y8, xs, bs, rfl, e, hc, hF, hP, hok, hlen⟩ ⟨U, x1, x2, rfl, nU, rfl, h1, h2⟩
      cases h1
      obtain ⟨z, hz, rfl⟩ := iv_get h2
      have hzB : Big B z := hB z (List.mem_of_mem_take (List.mem_of_getElem? hz))
      have hp24 : p < 24 := by
        rw [iv_length, List.length_take] at hp
        omega
      have eU : Ex H' (upd H' U (.tup [.int (p : Nat), .int z])) := Ex.new nU
      refine ⟨U, _, rfl, st_of upd_same, rfl, _, _, rfl, _, [], rfl, rfl, ?_⟩
      refine ⟨_, rfl, _, rfl, _, rfl, z, p, wh, B, rfl, by omega, by omega, hzB, hB2, ?_⟩
      generalize lawNum z p wh = nm
      refine ⟨_, rfl, n, rfl, rgOk_nat (by omega), fun Lf nLf => ?_⟩
      rw [rgV_nv]
      have eL := Ex.new (o := .lst (nv (List.range n))) nLf
      refine ⟨Nat.zero_le _, fun Ln nLn => ?_⟩
      have eM := Ex.new (o := .lst []) nLn
      have eAll := (eU.trans eL).trans eM
      have nLf0 : H' Lf = none := fresh_back eU nLf
      have nLn0 : H' Ln = none := fresh_back (eU.trans eL) nLn
      have nLL : Lf ≠ Ln := fun e => by rw [← e, upd_same] at nLn; cases nLn
      have hLf : (upd (upd (upd H' U (.tup [.int (p : Nat), .int z])) Lf (.lst (nv (List.range n)))) Ln (.lst [])) Lf = some (.lst (nv (List.range n))) := eM _ _ upd_same
      have hLn : (upd (upd (upd H' U (.tup [.int (p : Nat), .int z])) Lf (.lst (nv (List.range n)))) Ln (.lst [])) Ln = some (.lst (nv [])) := upd_same
      generalize (upd (upd (upd H' U (.tup [.int (p : Nat), .int z])) Lf (.lst (nv (List.range n)))) Ln (.lst [])) = H4 at eAll hLf hLn
      refine ⟨fun m σ' H5 => ∃ (nm : Int) (left line : List Nat), σ' = [some (.ref a), some (.int n), some (.ref F), some (.int wh), some (.int p), some (.int z), some (.int nm), some (.ref Lf), some (.ref Ln)] ∧ Ex H' H5 ∧ H5 Lf = some (.lst (nv left)) ∧ H5 Ln = some (.lst (nv line)) ∧ (line ++ left).Perm (List.range n) ∧ left.length = m,
        ⟨n, nm, List.range n, [], rfl, eAll, hLf, hLn, List.Perm.refl _, List.length_range⟩, ?_⟩
      rintro m σ' H5 ⟨nm, left, line, rfl, e5, hLf, hLn, hperm, rfl⟩
      have hlen2 : line.length + left.length = n := by
        have := hperm.length_eq
        rw [List.length_append, List.length_range] at this
        exact this
      refine ⟨_, rfl, Nat.zero_le _, fun o no => ?_⟩
      have eo := Ex.new (o := .lst []) no
      have hLf' : SqL K (upd H5 o (.lst [])) Lf (iv (left.map fun (k : Nat) => (k : Int))) := by
        rw [← nv_iv]
        exact sq_of (eo _ _ hLf)
      refine ⟨_, _, dp_ints hLf', dp_ints (ns := []) (sq_of upd_same), shaped_ints _, shaped_ints _, _, rfl, ?_⟩
      have hLf6 : (upd H5 o (.lst [])) Lf = some (.lst (nv left)) := eo _ _ hLf
      have hLn6 : (upd H5 o (.lst [])) Ln = some (.lst (nv line)) := eo _ _ hLn
      have e6 := e5.trans eo
      generalize (upd H5 o (.lst [])) = H6 at hLf' hLf6 hLn6 e6
      by_cases hl0 : left = []
      · refine itF (by rw [eqv_ints, hl0]; rfl) ?_
        subst hl0
        rw [List.append_nil] at hperm
        have hi0 := Int.emod_nonneg (wh / 5) (show (3 : Int) ≠ 0 by decide)
        have hi3 := Int.emod_lt_of_pos (wh / 5) (show (0 : Int) < 3 by decide)
        obtain ⟨u, hu0, hu⟩ := atI_three hi0 hi3 (x := 1) (y := 4) (z := 10 ^ 20) (by decide) (by decide) (by decide)
        refine ⟨_, rfl, .inl ⟨rfl, _, sq_of (e6 _ _ hF)⟩, _, rfl, _, rfl, _, rfl, _, _, rfl, rfl, _, rfl, z, (p : Int) + 30, wh, B, rfl, by omega, by omega, hzB, hB2, _, _, rfl, rfl, ⟨by decide, by decide, by decide⟩, (by decide : 3 ≤ sizeLine), fun tp ntp => ?_⟩
        have etp := Ex.new (o := .tup [V.int 1, V.int 4, V.int (10 ^ Int.toNat 20)]) ntp
        refine ⟨_, rfl, _, _, rfl, rfl, divW_small (by decide) (by decide), _, _, rfl, rfl, (by decide : (0 : Int) < 3), tp, _, _, .int u, rfl, rfl, st_of upd_same, hu, _, _, rfl, rfl, hu0, _, _, rfl, rfl, (by decide : 2 ≤ sizeLine), fun tt ntt => ?_⟩
        have hm1 := Int.emod_nonneg (lawNum z ((p : Int) + 30) wh) (show u ≠ 0 by omega)
        generalize lawNum z ((p : Int) + 30) wh % u = mm at hm1
        have ett := Ex.new (o := .tup [V.ref Ln, V.int (1 + mm)]) ntt
        have e8 := e6.trans (etp.trans ett)
        have hF8 := e8 _ _ hF
        have hc8 := e8 _ _ hc
        have hLn8 := (etp.trans ett) _ _ hLn6
        have htt : (upd (upd H6 tp (.tup [V.int 1, V.int 4, V.int (10 ^ Int.toNat 20)])) tt (.tup [V.ref Ln, V.int (1 + mm)])) tt = some (.tup [V.ref Ln, V.int (1 + mm)]) := upd_same
        have nF8 : H F = none := nF
        refine ⟨F, xs, .ref tt, rfl, rfl, hF8, sz_lt (by rw [show xs.length = bs.length from Paired.len hP]; omega), ?_⟩
        generalize (upd (upd H6 tp (.tup [V.int 1, V.int 4, V.int (10 ^ Int.toNat 20)])) tt (.tup [V.ref Ln, V.int (1 + mm)])) = H8 at e8 hF8 hc8 hLn8 htt
        have nttF : tt ≠ F := fun e => by rw [e, hF8] at htt; cases htt
        have nLnF : Ln ≠ F := fun e => by rw [e, hF] at nLn0; cases nLn0
        refine ⟨_, _, _, _, _, xs ++ [.ref tt], bs ++ [(line, 1 + mm)], rfl, (e.trans e8).mut nF, by rw [upd_ne nF2.symm]; exact hc8, upd_same, by rw [rem_upd]; exact Paired.append (Paired.mapP hP fun _ _ q => q.mono (rem_mono e8)) (.cons ⟨tt, Ln, rfl, st_of (by rw [rem_ne nttF]; exact htt), sq_of (by rw [rem_ne nLnF]; exact hLn8)⟩ .nil), ?_, by rw [List.length_append, hlen]; rfl⟩
        rw [List.all_append, hok]
        have : okB n (line, 1 + mm) = true := by
          unfold okB
          rw [List.isPerm_iff.mpr hperm, decide_eq_true (show 1 ≤ 1 + mm by omega)]
          rfl
        simp [this]
      · refine itT (by rw [eqv_ints, decide_eq_false]; rfl; exact fun h => hl0 (List.map_eq_nil_iff.mp h)) ?_
        have hpos : 0 < left.length := List.length_pos_iff.mpr hl0
        have hj0 := Int.emod_nonneg nm (show (left.length : Int) ≠ 0 by omega)
        have hj1 := Int.emod_lt_of_pos nm (show (0 : Int) < (left.length : Int) by omega)
        obtain ⟨j, hj⟩ : ∃ j : Nat, nm % (left.length : Int) = (j : Int) := ⟨(nm % (left.length : Int)).toNat, by omega⟩
        have hjl : j < left.length := by omega
        have hsi : seqIndex? (nm % ((nv left).length : Int)) (nv left).length = some j := by
          rw [nv_length, hj]
          exact (ixN_seq (ixN_nat hjl)).1
        have hy : (nv left)[j]? = some (V.int (left[j] : Nat)) := by
          unfold nv
          rw [List.getElem?_map, List.getElem?_eq_getElem hjl]
          rfl
        refine ⟨fun σ2 H2 => ∃ (nm : Int) (left' line : List Nat), σ2 = [some (.ref a), some (.int n), some (.ref F), some (.int wh), some (.int p), some (.int z), some (.int nm), some (.ref Lf), some (.ref Ln)] ∧ Ex H' H2 ∧ H2 Lf = some (.lst (nv left')) ∧ H2 Ln = some (.lst (nv line)) ∧ (line ++ left').Perm (List.range n) ∧ left'.length < left.length, ?_, ?_⟩
        · rintro σ2 H2 ⟨nm, left', line, h1, h2, h3, h4, h5, h6⟩
          exact ⟨_, h6, nm, left', line, h1, h2, h3, h4, h5, rfl⟩
        · refine ⟨_, rfl, .inl ⟨rfl, _, sq_of hLn6⟩, _, rfl, .inl ⟨rfl, _, sq_of hLf6⟩, _, rfl, _, rfl, Lf, _, rfl, .inl (sq_of hLf6), _, _, rfl, rfl, by rw [nv_length]; omega, Lf, _, _, j, _, rfl, rfl, hLf6, by rw [nv_length]; omega, by rw [nv_length]; omega, hsi, hy, Ln, nv line, _, rfl, rfl, by rw [upd_ne nLL.symm]; exact hLn6, sz_lt (by rw [nv_length]; omega), ?_⟩
          have hLf9 : (upd (upd H6 Lf (.lst ((nv left).eraseIdx j))) Ln (.lst (nv line ++ [V.int (left[j] : Nat)]))) Lf = some (.lst (nv (left.eraseIdx j))) := by rw [upd_ne nLL, upd_same, nv_erase]
          refine ⟨_, rfl, _, rfl, Lf, _, rfl, .inl (sq_of hLf9), _, _, rfl, rfl, _, _, rfl, rfl, divW_small (by omega) (by rw [nv_length, List.length_eraseIdx]; split <;> omega), ?_⟩
          refine ⟨_, left.eraseIdx j, line ++ [left[j]], rfl, (e6.mut nLf0).mut nLn0, hLf9, ?_, ?_, ?_⟩
          · rw [upd_same, ← nv_append]
            rfl
          · rw [List.append_assoc]
            exact ((perm_erase left j _ (List.getElem?_eq_getElem hjl)).append_left line).trans hperm
          · rw [List.length_eraseIdx, if_pos hjl]
            omega
    · rintro σ' H' ⟨y4, y5, y6, y7, y8, xs, bs, rfl, e, hc, hF, hP, hok, hlen⟩
      refine ⟨_, rfl, q H' F xs bs e nF hF (Paired.mapP hP fun _ _ q => q.mono rem_ex) hok ?_⟩
      rw [hlen, iv_length, List.length_take]
theorem ok_law_count (T : Tx K mg) : FnOk P w K mg base CX0 1 T.f_law_count T.d_law_count ["_law_size", "_law_ballots_here"] (spCount K) := by
  refine T.F_law_count.ok sc_law_count (fun vs H Q E h => ?_) (fun cdv A outer s H vs Q E hr h => ?_)
  · obtain ⟨n, v, bs, rfl, _⟩ := h
    rfl
  · obtain ⟨n, v, bs, rfl, hn, ⟨a, xs, rfl, hS, hP⟩, hk, q⟩ := h
    refine ⟨_, pss_cons (ps_setLc (i := 2) (own := [("_law_one", 6)]) rfl sc_law_count.nd rfl rfl (sw_true rfl rfl rfl (by decide +kernel)) (pi_range1 (by rfl) T.n_range (pa_cons (pv 0) pa_nil)) (blkOk_by (own := [("_law_one", 6)]) (N := ["_law_size", "_law_ballots_here", "_law_found", "_law_line", "_law_many", "_law_at", "_law_one", "_law_other"]) (sc := defScope s_law_count) (by decide +kernel)) (fun _ _ _ _ _ => (pg_name (i := 6) sc_law_count.nd rfl (by first | exact Or.inl rfl | exact Or.inr rfl))) (fun _ _ _ _ _ => pts_nil) (fun _ _ _ _ _ => (pe_op op_rep (pe_lst (pa_cons pe_int pa_nil)) (pv 0))))
      (pss_cons (ps_for PassesOwn.never rfl (piL K (pv 1)) (pgT K (n := 2) (pgs_cons (pg_name (i := 3) sc_law_count.nd rfl (by first | exact Or.inl rfl | exact Or.inr rfl)) (pgs_cons (pg_name (i := 4) sc_law_count.nd rfl (by first | exact Or.inl rfl | exact Or.inr rfl)) pgs_nil)))
        (pss_one (ps_for PassesOwn.never rfl (piE K (by rfl) T.n_enumerate (pa_cons (pv 3) pa_nil)) (pgT K (n := 2) (pgs_cons (pg_name (i := 5) sc_law_count.nd rfl (by first | exact Or.inl rfl | exact Or.inr rfl)) (pgs_cons (pg_name (i := 6) sc_law_count.nd rfl (by first | exact Or.inl rfl | exact Or.inr rfl)) pgs_nil)))
        (pss_one (ps_for PassesOwn.never rfl (piL K (pe_slice (slLK K) (pv 3) po_none (po_some (pv 5)))) (pg_name (i := 7) sc_law_count.nd rfl (by first | exact Or.inl rfl | exact Or.inr rfl))
        (pss_cons (ps_asg (pe_op op_add (pe_ix (ixLK K) (pe_ix (ixLK K) (pv 2) (pv 7) (fun _ _ => rfl)) (pv 6) (fun _ _ => rfl)) (pv 4)) (pg_sub (pe_ix (ixLK K) (pv 2) (pv 7) (fun _ _ => rfl)) (pv 6) set_list))
      (pss_one (ps_asg (pe_op op_sub (pe_ix (ixLK K) (pe_ix (ixLK K) (pv 2) (pv 6) (fun _ _ => rfl)) (pv 7) (fun _ _ => rfl)) (pv 4)) (pg_sub (pe_ix (ixLK K) (pv 2) (pv 6) (fun _ _ => rfl)) (pv 7) set_list)))))))))
      (pss_one (ps_ret (pv 2)))), ?_⟩
    refine ⟨_, rfl, n, rfl, by omega, by omega, fun D hD => ?_⟩
    refine lc_rows (n := n) (walk_range (lo := 0) (n := n)) hD (by omega) (fun _ _ => trivial) (fun _ => rowV n (fun _ => 0)) ?_ ?_
    · rintro i x H2 H2' hi e2 ⟨rfl, rfl⟩ Qc hq
      refine ⟨rfl, (by decide : 1 ≤ sizeLine), fun p hp => ⟨_, rfl, p, n, _, rfl, rfl, upd_same, by omega, by omega, ?_, fun r hr' => ?_⟩⟩
      · show 1 * (n : Int).toNat ≤ sizeLine
        exact sz_of (by omega)
      · have e3 : Ex H2' (upd H2' p (.lst [V.int 0])) := Ex.new hp
        refine hq r _ (fresh_back e3 hr') (e3.trans (Ex.new hr')) ?_
        rw [upd_same]
        show some (HO.lst (List.replicate n [V.int 0]).flatten) = _
        rw [rep_row]
    · intro H2 ps e2 hD2 hlen R
      have T0 : Tab H H2 D ps n (fun _ _ => 0) := R.tab hD hD2 hlen
      refine ⟨.ref a, rfl, a, rfl, ⟨xs, ex_l e2 hS⟩, for_list (K := K) (a := a) (xs := xs) (fun i σ' H' => ∃ y3 y4 y5 y6 y7, σ' = [some (.int n), some (.ref a), some (.ref D), y3, y4, y5, y6, y7] ∧ Ex H H' ∧ Tab H H' D ps n (cnt (bs.take i)))
        ⟨none, none, none, none, none, rfl, e2, T0⟩ (fun i σ' H' _ ⟨_, _, _, _, _, _, e, _⟩ => ex_l e hS) ?_ ?_⟩
      · rintro i x σ' H' hi ⟨y3, y4, y5, y6, y7, rfl, e, TT⟩
        obtain ⟨b, hb, t, l, rfl, hT, hL⟩ := Paired.get hP hi
        have hbm : b ∈ bs := List.mem_of_getElem? hb
        refine ⟨t, _, rfl, ex_t e hT, rfl, .ref l, _, rfl, .int b.2, [], rfl, rfl, ?_⟩
        refine ⟨.ref l, rfl, l, nv b.1, rfl, ex_l e hL, ?_⟩
        refine for_it (walk_enum (K := K) (a := l) (xs := nv b.1)) (fun p σ' H' => ∃ y5 y6 y7, σ' = [some (.int n), some (.ref a), some (.ref D), some (.ref l), some (.int b.2), y5, y6, y7] ∧ Ex H H' ∧ Tab H H' D ps n (fun i' j' => cnt (bs.take i) i' j' + b.2 * psum i' j' (b.1.take p)))
          ⟨_, _, _, rfl, e, TT.congr fun i' j' _ _ => by show cnt (bs.take i) i' j' = cnt (bs.take i) i' j' + b.2 * 0; omega⟩ (fun p σ' H' _ ⟨_, _, _, _, e, _⟩ => ex_l e hL) ?_ ?_
        · rintro p x σ' H' H'' hp ⟨y5, y6, y7, rfl, e, TT⟩ ⟨U, x1, x2, rfl, nU, rfl, h1, h2⟩
          cases h1
          obtain ⟨k, hk', rfl⟩ := nv_get h2
          have hkn : k < n := hk b hbm k (List.mem_of_getElem? hk')
          refine ⟨U, _, rfl, st_of upd_same, rfl, _, _, rfl, _, [], rfl, rfl, ?_⟩
          have e3 : Ex H' (upd H' U (.tup [.int (p : Nat), .int k])) := Ex.new nU
          refine ⟨.ref l, rfl, .int p, rfl, _, rfl, l, nv b.1, rfl, ex_l (e.trans e3) hL, fun c nc => ?_⟩
          rw [cut_nv_to]
          have e4 : Ex _ (upd (upd H' U (.tup [.int (p : Nat), .int k])) c (.lst (nv (b.1.take p)))) := Ex.new nc
          have ncr : ∀ r ∈ ps, c ≠ r := fun r hr' ec => by
            obtain ⟨i0, hi0, ei0⟩ := List.mem_iff_getElem.mp hr'
            have := (TT.mono e3).row i0 r (by rw [List.getElem?_eq_getElem hi0, ei0])
            rw [← ec, nc] at this
            cases this
          refine ⟨c, rfl, ⟨_, sq_of upd_same⟩, for_list (K := K) (a := c) (xs := nv (b.1.take p)) (fun z σ' H' => ∃ y7, σ' = [some (.int n), some (.ref a), some (.ref D), some (.ref l), some (.int b.2), some (.int p), some (.int k), y7] ∧ Ex H H' ∧ H' c = some (.lst (nv (b.1.take p))) ∧ Tab H H' D ps n (fun i' j' => cnt (bs.take i) i' j' + b.2 * (psum i' j' (b.1.take p) + esum i' j' k ((b.1.take p).take z))))
            ⟨_, rfl, (e.trans e3).trans e4, upd_same, ((TT.mono e3).mono e4).congr fun i' j' _ _ => by show _ = cnt (bs.take i) i' j' + b.2 * (psum i' j' (b.1.take p) + 0); rw [Int.add_zero]⟩ (fun z σ' H' _ ⟨_, _, _, hc, _⟩ => sq_of hc) ?_ ?_⟩
          · rintro z x σ' H' hz ⟨y7, rfl, e, hc, TT⟩
            obtain ⟨m, hm, rfl⟩ := nv_get hz
            have hmn : m < n := hk b hbm m (List.mem_of_mem_take (List.mem_of_getElem? hm))
            obtain ⟨r1, g1, m1, x1, c1⟩ := TT.at_ hmn
            have T1 := TT.put (b := k) (z := (cnt (bs.take i) m k + b.2 * (psum m k (b.1.take p) + esum m k k ((b.1.take p).take z))) + b.2) g1
            have e5 := fun o => TT.exMut (o := o) e m1
            obtain ⟨r2, g2, m2, x2, c2⟩ := T1.at_ hkn
            refine ⟨.ref D, rfl, .int m, rfl, D, _, m, .ref r1, rfl, rfl, sq_of TT.top, atI_nat x1, .int k, rfl, r1, _, k, .int _, rfl, rfl, sq_of c1, atI_nat (rowV_get hkn), .int b.2, rfl, _, _, rfl, rfl, .ref D, rfl, .int m, rfl, D, _, m, .ref r1, rfl, rfl, sq_of TT.top, atI_nat x1, .int k, rfl, r1, _, k, k, rfl, rfl, c1, ixN_nat (by rw [rowV_length]; exact hkn), ?_⟩
            refine ⟨.ref D, rfl, .int k, rfl, D, _, k, .ref r2, rfl, rfl, sq_of T1.top, atI_nat x2, .int m, rfl, r2, _, m, .int _, rfl, rfl, sq_of c2, atI_nat (rowV_get hmn), .int b.2, rfl, _, _, rfl, rfl, .ref D, rfl, .int k, rfl, D, _, k, .ref r2, rfl, rfl, sq_of T1.top, atI_nat x2, .int m, rfl, r2, _, m, m, rfl, rfl, c2, ixN_nat (by rw [rowV_length]; exact hmn), ?_⟩
            have T2 := T1.put (b := m) (z := (if k = m ∧ m = k then (cnt (bs.take i) m k + b.2 * (psum m k (b.1.take p) + esum m k k ((b.1.take p).take z))) + b.2 else (cnt (bs.take i) k m + b.2 * (psum k m (b.1.take p) + esum k m k ((b.1.take p).take z)))) - b.2) g2
            refine ⟨_, rfl, T1.exMut (e5 _) m2, ?_, T2.congr fun i' j' _ _ => ?_⟩
            · rw [upd_ne (ncr r2 m2), upd_ne (ncr r1 m1)]
              exact hc
            · rw [put_two (fun i' j' => cnt (bs.take i) i' j' + b.2 * (psum i' j' (b.1.take p) + esum i' j' k ((b.1.take p).take z))), esum_take_succ _ _ _ _ _ _ hm]
              rw [Int.mul_add, Int.mul_add, Int.mul_add]
              omega
          · rintro σ' H' ⟨y7, rfl, e, hc, TT⟩
            refine ⟨_, _, _, rfl, e, TT.congr fun i' j' _ _ => ?_⟩
            rw [nv_length, List.take_length, psum_take_succ _ _ _ _ _ hk']
        · rintro σ' H' ⟨y5, y6, y7, rfl, e, TT⟩
          refine ⟨_, _, _, _, _, rfl, e, TT.congr fun i' j' _ _ => ?_⟩
          rw [nv_length, List.take_length, cnt_take_succ _ _ _ hb]
      · rintro σ' H' ⟨y3, y4, y5, y6, y7, rfl, e, TT⟩
        rw [show xs.length = bs.length from Paired.len hP, List.take_length] at TT
        exact ⟨_, rfl, q H' D ps e TT⟩
end
end Hc
namespace Hc
open PySem PySem.Spec PyProof.Rows L2 Evl
section
variable {P : Program} {w : World} {K : PySem.W.Frag} {mg : Str → Option Value} {base : Heap}
def spLawTable (K : PySem.W.Frag) : Sp := fun vs H Q _ => ∃ (a : Addr) (ns : List Int) (n B : Nat), vs = [.ref a, .int (n : Int)] ∧ SqL K H a (iv ns) ∧ n ≤ 20 ∧ (∀ z ∈ ns, Big B z) ∧ B ≤ 2000000 ∧ 64 ≤ B ∧
  ∀ H2 t rs f, Ex H H2 → Tab H H2 t rs n f → Anti n f → Q (.ref t) H2
theorem atI_four {i : Int} (h0 : 0 ≤ i) (h3 : i < 4) {x y z u : Int} (hx : 0 < x) (hy : 0 < y) (hz : 0 < z) (hu : 0 < u) : ∃ k : Int, 0 < k ∧ atI [V.int x, V.int y, V.int z, V.int u] i = some (.int k) := by
  rcases (by omega : i = 0 ∨ i = 1 ∨ i = 2 ∨ i = 3) with rfl | rfl | rfl | rfl
  · exact ⟨x, hx, rfl⟩
  · exact ⟨y, hy, rfl⟩
  · exact ⟨z, hz, rfl⟩
  · exact ⟨u, hu, rfl⟩
theorem anti_put {n a b : Nat} {f : Nat → Nat → Int} {z : Int} (hA : Anti n f) (hab : a ≠ b) : Anti n (fun i j => if i = b ∧ j = a then -z else if i = a ∧ j = b then z else f i j) := fun i j hi hj => by
  dsimp only
  by_cases h1 : i = b ∧ j = a
  · obtain ⟨rfl, rfl⟩ := h1
    rw [if_pos ⟨rfl, rfl⟩, if_neg (by omega), if_pos ⟨rfl, rfl⟩]
  · rw [if_neg h1]
    by_cases h2 : i = a ∧ j = b
    · obtain ⟨rfl, rfl⟩ := h2
      rw [if_pos ⟨rfl, rfl⟩, if_pos ⟨rfl, rfl⟩]
      omega
    · rw [if_neg h2, if_neg (by omega), if_neg (by omega)]
      exact hA i j hi hj
theorem ok_law_table (T : Tx K mg) : FnOk P w K mg base CX0 2 T.f_law_table T.d_law_table ["_law_script", "_law_size"] (spLawTable K) := by
  refine T.F_law_table.ok sc_law_table (fun vs H Q E h => ?_) (fun cdv A outer s H vs Q E hr h => ?_)
  · obtain ⟨a, ns, n, B, rfl, _⟩ := h
    rfl
  · obtain ⟨a, ns, n, B, rfl, hS, hn, hB, hB2, hB3, q⟩ := h
    refine ⟨_, Evl.pss_cut (ps_set (i := 2) sc_law_table.nd rfl (Or.inl rfl) (pe_ifExp (pt_cmpR (neDK K hr.units) (pv 0) (pe_lst pa_nil) (nomark _)) (pe_slice (slLK K) (pv 0) po_none (po_some pe_int)) (pe_lst (pa_cons pe_int pa_nil))))
      (pss_cons (ps_set (i := 3) sc_law_table.nd rfl (Or.inl rfl) (pe_callB (sumK K) (by rfl) T.n_sum PyProof.Rows.boot_sum (pa_cons (pv 2) pa_nil)))
      (Evl.pss_cut (ps_set (i := 4) sc_law_table.nd rfl (Or.inl rfl) (pe_ix (ixTK K) (pe_tup (pa_cons pe_int (pa_cons pe_int (pa_cons pe_int (pa_cons (pe_op op_pow pe_int pe_int) pa_nil))))) (pe_op op_mod (pe_op op_fdivW (pv 3) pe_int) pe_int) (fun _ _ => rfl)))
      (pss_cons (ps_set (i := 5) sc_law_table.nd rfl (Or.inl rfl) (pe_op op_mod (pe_op op_fdivW (pv 3) pe_int) pe_int))
      (pss_cons (ps_setLc (i := 6) (own := [("_law_one", 8)]) rfl sc_law_table.nd rfl rfl (sw_true rfl rfl rfl (by decide +kernel)) (pi_range1 (by rfl) T.n_range (pa_cons (pv 1) pa_nil)) (blkOk_by (own := [("_law_one", 8)]) (N := ["_law_script", "_law_size", "_law_cells", "_law_whole", "_law_most", "_law_kind", "_law_found", "_law_spot", "_law_one", "_law_other", "_law_cell", "_law_number_here", "_law_bent"]) (sc := defScope s_law_table) (by decide +kernel)) (fun _ _ _ _ _ => (pg_name (i := 8) sc_law_table.nd rfl (by first | exact Or.inl rfl | exact Or.inr rfl))) (fun _ _ _ _ _ => pts_nil) (fun _ _ _ _ _ => (pe_op op_rep (pe_lst (pa_cons pe_int pa_nil)) (pv 1))))
      (pss_cons (ps_set (i := 7) sc_law_table.nd rfl (Or.inl rfl) pe_int)
      (pss_cons (ps_for PassesOwn.never rfl (pi_range1 (by rfl) T.n_range (pa_cons (pv 1) pa_nil)) (pg_name (i := 8) sc_law_table.nd rfl (by first | exact Or.inl rfl | exact Or.inr rfl))
        (pss_one (ps_for PassesOwn.never rfl (pi_range1 (by rfl) T.n_range (pa_cons (pv 8) pa_nil)) (pg_name (i := 9) sc_law_table.nd rfl (by first | exact Or.inl rfl | exact Or.inr rfl))
        (pss_cons (ps_set (i := 10) sc_law_table.nd rfl (Or.inl rfl) (pe_op op_fdivW (pe_ix (ixLK K) (pv 2) (pe_op op_mod (pv 7) (pe_callB (lenK K) (by rfl) T.n_len PySem.boot_len (pa_cons (pv 2) pa_nil))) (fun _ _ => rfl)) (pe_op op_add pe_int (pe_op op_fdivW (pv 7) (pe_callB (lenK K) (by rfl) T.n_len PySem.boot_len (pa_cons (pv 2) pa_nil))))))
      (pss_cons (ps_set (i := 11) sc_law_table.nd rfl (Or.inl rfl) (pe_op op_sub (pe_op op_mod (pe_call (ok_law_number T) (hr.mono (by decide)) (by rfl) T.g_law_number T.F_law_number.kp (b_law_number T) .nil pass0 (pa_cons (pv 10) (pa_cons (pv 7) (pa_cons (pv 3) pa_nil)))) (pe_op op_add (pe_op op_mulG pe_int (pv 4)) pe_int)) (pv 4)))
      (Evl.pss_cut (ps_if (pt_cmpR op_lt (pv 5) pe_int (nomark _)) (pss_one (ps_set (i := 11) sc_law_table.nd rfl (Or.inl rfl) (pe_op op_add (pe_op op_mulG pe_int (pv 11)) (pe_op op_mod (pv 5) pe_int)))) (pss_nil))
      (Evl.pss_cut (ps_if (pt_cmpR op_eq (pv 5) pe_int (nomark _)) (pss_cons (ps_set (i := 12) sc_law_table.nd rfl (Or.inl rfl) (pe_cmpR op_eq (pv 7) (pe_op op_mod (pe_op op_fdivW (pv 3) pe_int) (pe_callB (call_max2 rfl) (by rfl) T.n_max PyProof.Rows.boot_max (pa_cons pe_int (pa_cons (pe_op op_fdivW (pe_op op_mulG (pv 1) (pe_op op_sub (pv 1) pe_int)) pe_int) pa_nil)))) (nomark _)))
      (pss_one (ps_set (i := 11) sc_law_table.nd rfl (Or.inl rfl) (pe_op op_add (pe_op op_add (pe_op op_mulG pe_int (pv 11)) (pe_op op_mod (pe_op op_fdivW (pv 3) pe_int) pe_int)) (pe_callTy call_int1 (by rfl) T.n_int bt_int (pa_cons (pv 12) pa_nil)))))) (pss_nil))
      (pss_cons (ps_asg (pv 11) (pg_sub (pe_ix (ixLK K) (pv 6) (pv 8) (fun _ _ => rfl)) (pv 9) set_list))
      (pss_cons (ps_asg (pe_un un_neg (pv 11)) (pg_sub (pe_ix (ixLK K) (pv 6) (pv 9) (fun _ _ => rfl)) (pv 8) set_list))
      (pss_one (ps_set (i := 7) sc_law_table.nd rfl (Or.inl rfl) (pe_op op_add (pv 7) pe_int))))))))))))
      (pss_one (ps_ret (pv 6))))))))), ?_⟩
    refine ⟨fun σ' H' => ∃ c ms, σ' = [some (.ref a), some (.int n), some (.ref c), none, none, none, none, none, none, none, none, none, none] ∧ Ex H H' ∧ H' c = some (.lst (iv ms)) ∧ 0 < ms.length ∧ ms.length ≤ 63 ∧ ∀ z ∈ ms, Big B z, ?_, ?_⟩
    · refine ⟨_, rfl, Nat.zero_le _, fun o no => ?_⟩
      have eo := Ex.new (o := .lst []) no
      refine ⟨_, _, dp_ints (ex_l eo hS), dp_ints (ns := []) (sq_of upd_same), shaped_ints _, shaped_ints _, _, rfl, ?_⟩
      by_cases h0 : ns = []
      · refine itF (by rw [eqv_ints, h0]; rfl) ?_
        refine ⟨(by decide : 1 ≤ sizeLine), fun c nc => ⟨c, [3], rfl, eo.trans (Ex.new nc), upd_same, by decide, by decide, fun z hz => ?_⟩⟩
        have e3 : z = 3 := by simpa using hz
        rw [e3]
        exact big_small hB3 (by decide) (by decide)
      · refine itT (by rw [eqv_ints, decide_eq_false h0]; rfl) ?_
        refine ⟨_, rfl, 63, rfl, a, iv ns, rfl, ex_l eo hS, fun c nc => ⟨c, ns.take 63, rfl, eo.trans (Ex.new nc), ?_, ?_, ?_, fun z hz => hB z (List.mem_of_mem_take hz)⟩⟩
        · rw [upd_same, show (63 : Int) = ((63 : Nat) : Int) from rfl, cut_to]
          unfold iv
          rw [List.map_take]
        · have := List.length_pos_iff.mpr h0
          rw [List.length_take]
          omega
        · rw [List.length_take]
          omega
    rintro _ H1 ⟨c, ms, rfl, e1, hc, hm0, hm1, hB⟩
    refine ⟨_, rfl, c, ms, rfl, sq_of hc, ?_⟩
    generalize ms.sum = wh
    have k0 := Int.emod_nonneg (wh / 60) (show (4 : Int) ≠ 0 by decide)
    have k1 := Int.emod_lt_of_pos (wh / 60) (show (0 : Int) < 4 by decide)
    obtain ⟨mo, hmo, hat⟩ := atI_four k0 k1 (x := 3) (y := 7) (z := 2) (u := 10 ^ 30) (by decide) (by decide) (by decide) (by decide)
    refine ⟨fun σ' H' => σ' = [some (.ref a), some (.int n), some (.ref c), some (.int wh), some (.int mo), none, none, none, none, none, none, none, none] ∧ Ex H1 H', ?_, ?_⟩
    · refine ⟨_, _, rfl, rfl, ⟨by decide, by decide, by decide⟩, (by decide : 4 ≤ sizeLine), fun tp ntp => ⟨_, rfl, _, _, rfl, rfl, divW_small (by decide) (by decide), _, _, rfl, rfl, (by decide : (0 : Int) < 4), tp, _, _, .int mo, rfl, rfl, st_of upd_same, hat, rfl, Ex.new ntp⟩⟩
    rintro _ H2 ⟨rfl, e2⟩
    refine ⟨_, rfl, _, _, rfl, rfl, divW_small (by decide) (by decide), _, _, rfl, rfl, (by decide : (0 : Int) < 5), ?_⟩
    dsimp only
    generalize wh / 240 % 5 = kd
    have hc2 := e2 _ _ hc
    refine ⟨_, rfl, n, rfl, by omega, by omega, fun D hD => ?_⟩
    refine lc_rows (n := n) (walk_rg0 (n := n)) hD (by omega) (fun _ _ => trivial) (fun _ => rowV n (fun _ => 0)) ?_ ?_
    · rintro i x H2 H2' hi e2 ⟨rfl, rfl⟩ Qc hq
      refine ⟨rfl, (by decide : 1 ≤ sizeLine), fun p hp => ⟨_, rfl, p, n, _, rfl, rfl, upd_same, by omega, by omega, ?_, fun r hr' => ?_⟩⟩
      · show 1 * (n : Int).toNat ≤ sizeLine
        exact sz_of (by omega)
      · have e3 := Ex.new (o := .lst [V.int 0]) hp
        refine hq r _ (fresh_back e3 hr') (e3.trans (Ex.new hr')) ?_
        rw [upd_same]
        show some (HO.lst (List.replicate n [V.int 0]).flatten) = _
        rw [rep_row]
    intro H3 ps e3 hD3 hlen R
    have T0 : Tab H2 H3 D ps n (fun _ _ => 0) := R.tab hD hD3 hlen
    refine ⟨_, rfl, n, rfl, by omega, by omega, ?_⟩
    refine for_it (walk_rg0 (n := n)) (fun i σ' H' => ∃ (f : Nat → Nat → Int) (sp : Nat) (y8 y9 y10 y11 y12 : Option V), σ' = [some (.ref a), some (.int n), some (.ref c), some (.int wh), some (.int mo), some (.int kd), some (.ref D), some (.int sp), y8, y9, y10, y11, y12] ∧ Ex H2 H' ∧ Tab H2 H' D ps n f ∧ Anti n f ∧ sp ≤ 20 * i)
      ⟨_, 0, _, _, _, _, _, rfl, e3, T0, fun _ _ _ _ => rfl, by omega⟩ (fun _ _ _ _ _ => trivial) ?_ ?_
    · rintro i x σ' H' H'' hi ⟨f, sp, y8, y9, y10, y11, y12, rfl, e, TT, hA, hsp⟩ ⟨rfl, rfl⟩
      refine ⟨_, rfl, (i : Int), rfl, by omega, by omega, ?_⟩
      refine for_it (walk_rg0 (n := i)) (fun z σ' H' => ∃ (f : Nat → Nat → Int) (sp : Nat) (y9 y10 y11 y12 : Option V), σ' = [some (.ref a), some (.int n), some (.ref c), some (.int wh), some (.int mo), some (.int kd), some (.ref D), some (.int sp), some (.int i), y9, y10, y11, y12] ∧ Ex H2 H' ∧ Tab H2 H' D ps n f ∧ Anti n f ∧ sp ≤ 20 * i + z)
        ⟨_, sp, _, _, _, _, rfl, e, TT, hA, by omega⟩ (fun _ _ _ _ _ => trivial) ?_ ?_
      · rintro z x σ' H' H'' hz ⟨f, sp, y9, y10, y11, y12, rfl, e, TT, hA, hsp⟩ ⟨rfl, rfl⟩
        have hcz := e _ _ hc2
        have hsp2 : sp ≤ 400 := by omega
        have i0 := Int.emod_nonneg (sp : Int) (show (ms.length : Int) ≠ 0 by omega)
        have i1 := Int.emod_lt_of_pos (sp : Int) (show (0 : Int) < (ms.length : Int) by omega)
        obtain ⟨k, hk⟩ : ∃ k : Nat, (sp : Int) % (ms.length : Int) = (k : Int) := ⟨((sp : Int) % (ms.length : Int)).toNat, by omega⟩
        have hkm : k < ms.length := by omega
        have hat2 : atI (iv ms) ((sp : Int) % ((iv ms).length : Int)) = some (.int ms[k]) := by
          rw [iv_length, hk]
          refine atI_nat ?_
          unfold iv
          rw [List.getElem?_map, List.getElem?_eq_getElem hkm]
          rfl
        have d0 : 0 ≤ (sp : Int) / (ms.length : Int) := Int.ediv_nonneg (by omega) (by omega)
        have d1 : (sp : Int) / (ms.length : Int) ≤ 400 := by
          refine Int.le_trans (Int.ediv_le_self _ (by omega)) ?_
          omega
        refine ⟨_, rfl, _, rfl, _, rfl, c, _, rfl, .inl (sq_of hcz), _, _, rfl, rfl, by rw [iv_length]; omega, c, _, _, _, rfl, rfl, sq_of hcz, hat2, _, rfl, _, rfl, c, _, rfl, .inl (sq_of hcz), _, _, rfl, rfl, divW_small (by rw [iv_length]; omega) (by rw [iv_length]; omega), _, _, rfl, rfl, _, _, rfl, rfl, divW_small (by rw [iv_length]; omega) (by rw [iv_length]; omega), ?_⟩
        rw [iv_length]
        dsimp only
        have hbc : Big B (ms[k] / (1 + (sp : Int) / (ms.length : Int))) := (hB _ (List.getElem_mem hkm)).div (by omega)
        generalize ms[k] / (1 + (sp : Int) / (ms.length : Int)) = cl at hbc
        refine ⟨_, rfl, _, rfl, _, rfl, cl, sp, wh, B, rfl, by omega, by omega, hbc, hB2, _, rfl, _, _, rfl, rfl, mulOk_small (by decide) (by decide), _, _, rfl, rfl, _, _, rfl, rfl, by omega, _, rfl, _, _, rfl, rfl, ?_⟩
        dsimp only
        generalize lawNum cl sp wh % (2 * mo + 1) - mo = nm
        refine ⟨fun σ' H' => ∃ nm : Int, H'' = H' ∧ σ' = [some (.ref a), some (.int n), some (.ref c), some (.int wh), some (.int mo), some (.int kd), some (.ref D), some (.int sp), some (.int i), some (.int z), some (.int cl), some (.int nm), y12], ?_, ?_⟩
        · refine ⟨_, rfl, _, _, rfl, rfl, _, rfl, it2 (fun h1 => ?_) (fun h1 => ?_)⟩
          · exact ⟨_, rfl, _, _, rfl, rfl, mulOk_small (by decide) (by decide), _, rfl, _, _, rfl, rfl, (by decide : (0 : Int) < 2), _, _, rfl, rfl, _, rfl, rfl⟩
          · exact ⟨_, rfl, rfl⟩
        rintro _ _ ⟨nm, rfl, rfl⟩
        refine ⟨fun σ' H' => ∃ (nm : Int) (y12 : Option V), H'' = H' ∧ σ' = [some (.ref a), some (.int n), some (.ref c), some (.int wh), some (.int mo), some (.int kd), some (.ref D), some (.int sp), some (.int i), some (.int z), some (.int cl), some (.int nm), y12], ?_, ?_⟩
        · refine ⟨_, rfl, rfl, _, rfl, it2 (fun h1 => ?_) (fun h1 => ?_)⟩
          · refine ⟨_, rfl, _, rfl, _, _, rfl, rfl, divW_small (by decide) (by decide), _, rfl, _, rfl, _, _, rfl, rfl, _, _, rfl, rfl, mulOk_small (by omega) (by omega), _, _, rfl, rfl, divW_small (by decide) (by decide), _, _, rfl, _, _, rfl, rfl, (by show (0 : Int) < if _ then _ else _; split <;> omega), rfl, ?_⟩
            refine ⟨_, rfl, _, _, rfl, rfl, mulOk_small (by decide) (by decide), _, rfl, _, _, rfl, rfl, divW_small (by decide) (by decide), _, _, rfl, rfl, (by decide : (0 : Int) < 2), _, _, rfl, rfl, _, rfl, .inr ⟨_, rfl, _, _, rfl, rfl, _, _, rfl, rfl⟩⟩
          · exact ⟨_, _, rfl, rfl⟩
        rintro _ _ ⟨nm, y12, rfl, rfl⟩
        have hzn : z < n := by omega
        obtain ⟨r1, g1, m1, x1, c1⟩ := TT.at_ hi
        have T1 := TT.put (b := z) (z := nm) g1
        have e5 := fun o => TT.exMut (o := o) e m1
        obtain ⟨r2, g2, m2, x2, c2⟩ := T1.at_ hzn
        have T2 := T1.put (b := i) (z := -nm) g2
        refine ⟨_, rfl, _, rfl, _, rfl, D, _, i, .ref r1, rfl, rfl, sq_of TT.top, atI_nat x1, _, rfl, r1, _, z, z, rfl, rfl, c1, ixN_nat (by rw [rowV_length]; exact hzn), ?_⟩
        refine ⟨_, rfl, _, rfl, _, rfl, _, rfl, D, _, z, .ref r2, rfl, rfl, sq_of T1.top, atI_nat x2, _, rfl, r2, _, i, i, rfl, rfl, c2, ixN_nat (by rw [rowV_length]; exact hi), ?_⟩
        refine ⟨_, rfl, _, _, rfl, rfl, ?_⟩
        exact ⟨_, sp + 1, _, _, _, _, rfl, T1.exMut (e5 _) m2, T2, anti_put hA (by omega), by omega⟩
      · rintro σ' H' ⟨f, sp, y9, y10, y11, y12, rfl, e, TT, hA, hsp⟩
        exact ⟨f, sp, _, _, _, _, _, rfl, e, TT, hA, by omega⟩
    · rintro σ' H' ⟨f, sp, y8, y9, y10, y11, y12, rfl, e, TT, hA, hsp⟩
      exact ⟨_, rfl, q H' D ps f ((e1.trans e2).trans e) (TT.base (e1.trans e2)) hA⟩
end
end Hc
namespace Hc
open PySem PySem.Spec PyProof.Rows L2 Evl
section
variable {P : Program} {w : World} {K : PySem.W.Frag} {mg : Str → Option Value} {base : Heap}
def spLawAre (K : PySem.W.Frag) : Sp := fun vs H Q _ => ∃ (n : Nat) (v : V) (bs : List (List Nat × Int)), vs = [v, .int (n : Int)] ∧ n ≤ 20 ∧ BalsW H v bs ∧ (∀ b ∈ bs, b.1.length < 60) ∧ ∀ H2, Ex H H2 → Q (.bl (bs.all (okB n))) H2
theorem ints_get {ks : List Nat} {m : Int} {i : Nat} {x : V} (h : (nv ks ++ [V.int m])[i]? = some x) : ∃ z, x = .int z := by
  rcases List.mem_append.mp (List.mem_of_getElem? h) with h1 | h1
  · unfold nv at h1
    obtain ⟨k, _, e⟩ := List.mem_map.mp h1
    exact ⟨_, e.symm⟩
  · exact ⟨m, by simpa using h1⟩
theorem ok_law_are_ballots (T : Tx K mg) : FnOk P w K mg base CX0 1 T.f_law_are_ballots T.d_law_are_ballots ["_law_found", "_law_size"] (spLawAre K) := by
  refine T.F_law_are_ballots.ok sc_law_are_ballots (fun vs H Q E h => ?_) (fun cdv A outer s H vs Q E hr h => ?_)
  · obtain ⟨n, v, bs, rfl, _⟩ := h
    rfl
  · obtain ⟨n, v, bs, rfl, hn, ⟨a, xs, rfl, hS, hP⟩, h60, q⟩ := h
    refine ⟨_, pss_cons (ps_if (pt_not (pt_val (pe_callB (isiK K) (by rfl) T.n_isinstance PyProof.Rows.boot_isinstance (pa_cons (pv 0) (pa_cons (pe_bltn (v := .ty "list") (by rfl) T.n_list bt_list rfl) pa_nil))))) (pss_one (ps_ret pe_bl)) (pss_nil))
      (pss_cons (ps_for PassesOwn.never rfl (piL K (pv 0)) (pg_name (i := 2) sc_law_are_ballots.nd rfl (by first | exact Or.inl rfl | exact Or.inr rfl))
        (pss_cons (ps_if (PW.pt (pw_or (pt_not (pt_val (pe_callB (isiK K) (by rfl) T.n_isinstance PyProof.Rows.boot_isinstance (pa_cons (pv 2) (pa_cons (pe_bltn (v := .ty "tuple") (by rfl) T.n_tuple bt_tuple rfl) pa_nil))))) (pw_or (pt_cmpR op_ne (pe_callB (lenK K) (by rfl) T.n_len PySem.boot_len (pa_cons (pv 2) pa_nil)) pe_int (nomark _)) (pw_or1 (pt_not (pt_val (pe_callB (isiK K) (by rfl) T.n_isinstance PyProof.Rows.boot_isinstance (pa_cons (pe_ix (ixTK K) (pv 2) pe_int (fun _ _ => rfl)) (pa_cons (pe_bltn (v := .ty "list") (by rfl) T.n_list bt_list rfl) pa_nil))))))))) (pss_one (ps_ret pe_bl)) (pss_nil))
      (pss_cons (ps_if (pt_not (pt_val (pe_callB (allK K) (by rfl) T.n_all PyProof.Rows.boot_all (pa_cons (pe_lc (own := [("_law_one", 3)]) rfl sc_law_are_ballots.nd (piL K (pe_op op_cat (pe_ix (ixTK K) (pv 2) pe_int (fun _ _ => rfl)) (pe_lst (pa_cons (pe_ix (ixTK K) (pv 2) pe_int (fun _ _ => rfl)) pa_nil)))) (blkOk_by (own := [("_law_one", 3)]) (N := ["_law_found", "_law_size", "_law_ballot", "_law_one"]) (sc := defScope s_law_are_ballots) (by decide +kernel)) (fun _ _ _ _ _ => (pg_name (i := 3) sc_law_are_ballots.nd rfl (by first | exact Or.inl rfl | exact Or.inr rfl))) (fun _ _ _ _ _ => pts_nil) (fun _ _ _ _ _ => (pe_and (pe_callB (isiK K) (by rfl) T.n_isinstance PyProof.Rows.boot_isinstance (pa_cons (pv 3) (pa_cons (pe_bltn (v := .ty "int") (by rfl) T.n_int bt_int rfl) pa_nil))) (pe_one (pe_not (pe_callB (isiK K) (by rfl) T.n_isinstance PyProof.Rows.boot_isinstance (pa_cons (pv 3) (pa_cons (pe_bltn (v := .ty "bool") (by rfl) T.n_bool bt_bool rfl) pa_nil)))))))) pa_nil)))) (pss_one (ps_ret pe_bl)) (pss_nil))
      (pss_one (ps_if (PW.pt (pw_or (pt_cmpR (neDK K hr.units) (pe_callB (sortK K) (by rfl) T.n_sorted PyProof.Rows.boot_sorted (pa_cons (pe_ix (ixTK K) (pv 2) pe_int (fun _ _ => rfl)) pa_nil)) (pe_listRg rfl (by rfl) T.n_list (prg_1 (by rfl) T.n_range (pv 1))) (nomark _)) (pw_or1 (pt_cmpR op_lt (pe_ix (ixTK K) (pv 2) pe_int (fun _ _ => rfl)) pe_int (nomark _))))) (pss_one (ps_ret pe_bl)) (pss_nil))))))
      (pss_one (ps_ret pe_bl))), ?_⟩
    refine ⟨_, rfl, .ref a, .ty "list", _, _, true, rfl, .ty _, tyx_L (sq_of hS), kit_ty (by decide +kernel), true, rfl, ?_⟩
    refine ⟨.ref a, rfl, a, rfl, ⟨xs, sq_of hS⟩, for_list (K := K) (a := a) (xs := xs) (fun i σ' H' => ∃ y, σ' = [some (.ref a), some (.int n), y, none] ∧ Ex H H' ∧ (bs.take i).all (okB n) = true)
      ⟨none, rfl, Ex.refl H, rfl⟩ (fun i σ' H' _ ⟨_, _, e, _⟩ => sq_of (e _ _ hS)) ?_ ?_⟩
    · rintro i x σ' H' hi ⟨y, rfl, e, hall⟩
      obtain ⟨b, hb, t, l, rfl, hT, hL⟩ := Paired.get hP hi
      have hbm : b ∈ bs := List.mem_of_getElem? hb
      have hT1 := e _ _ hT
      have hL1 := e _ _ hL
      have hbl := h60 b hbm
      have bad : okB n b = false → ∀ H2, Ex H H2 → Q (.bl false) H2 := fun hx H2 e2 => by
        have : bs.all (okB n) = false := by
          rw [List.all_eq_false]
          exact ⟨b, hbm, by rw [hx]; decide⟩
        rw [← this]
        exact q H2 e2
      refine ⟨.ref t, rfl, .ref t, .ty "tuple", _, _, true, rfl, .ty _, tyx_T (st_of hT1), kit_ty (by decide +kernel), true, rfl, ?_⟩
      refine ⟨.ref t, rfl, t, _, rfl, .inr (st_of hT1), rfl, _, rfl, ?_⟩
      refine ⟨.ref t, rfl, t, _, 0, .ref l, rfl, rfl, st_of hT1, rfl, .ref l, .ty "list", _, _, true, rfl, .ty _, tyx_L (sq_of hL1), kit_ty (by decide +kernel), true, rfl, ?_⟩
      refine ⟨.ref t, rfl, t, _, 0, .ref l, rfl, rfl, st_of hT1, rfl, .ref t, rfl, t, _, 1, .int b.2, rfl, rfl, st_of hT1, rfl, (by decide : 1 ≤ sizeLine), fun p1 np1 => ?_⟩
      have f1 := Ex.new (o := .lst [V.int b.2]) np1
      refine ⟨l, p1, _, _, rfl, rfl, f1 _ _ hL1, upd_same, sz_of (by rw [nv_length]; show _ + 1 ≤ _; omega), fun c nc => ?_⟩
      have f2 := Ex.new (o := .lst (nv b.1 ++ [V.int b.2])) nc
      refine ⟨c, rfl, ⟨_, sq_of upd_same⟩, fun D hD => ?_⟩
      refine lc_vals (walk_list (K := K) (a := c) (xs := nv b.1 ++ [V.int b.2])) hD (by rw [List.length_append, nv_length]; show _ + 1 ≤ _; omega) (fun H2 e2 => sq_of (e2 _ _ upd_same)) (fun _ => V.bl true) ?_ ?_
      · rintro j x H2 H2' hj e2 ⟨rfl, hx⟩ Qc hq
        obtain ⟨z, rfl⟩ := ints_get hx
        exact ⟨rfl, _, rfl, _, .ty "int", _, _, true, rfl, .ty _, .base (.int z), kit_ty (by decide +kernel), true, rfl, _, rfl, _, .ty "bool", _, _, false, rfl, .ty _, .base (.int z), kit_ty (by decide +kernel), false, rfl, hq _ (Ex.refl _)⟩
      · intro H2 e2 hD2
        rw [map_const_bl] at hD2
        refine ⟨D, _, rfl, sq_of hD2, true, by rw [all_const_true], ?_⟩
        have e12 := (f1.trans f2).trans e2
        have hT2 := e12 _ _ hT1
        have hL2 := e12 _ _ hL1
        rw [nv_iv] at hL2
        refine ⟨.ref t, rfl, t, _, 0, .ref l, rfl, rfl, st_of hT2, rfl, l, _, rfl, sq_of hL2, by rw [List.length_map]; omega, fun ns p perm srt hp => ?_⟩
        have e3 : Ex H2 (upd H2 p (.lst (ns.map V.int))) := Ex.new hp
        refine ⟨_, rfl, n, rfl, rgOk_nat (by omega), fun r hr' => ?_⟩
        have e4 : Ex (upd H2 p (.lst (ns.map V.int))) _ := Ex.new (o := .lst (rgV 0 (n : Int))) hr'
        refine ⟨_, _, dp_ints (ns := ns) (sq_of (e4 _ _ upd_same)), dp_ints (ns := (List.range n).map fun (k : Nat) => (k : Int)) (sq_of ?_), shaped_ints _, shaped_ints _, _, rfl, ?_⟩
        · rw [upd_same, rgV_nv, nv_iv]
        · have e5 := (e.trans e12).trans (e3.trans e4)
          by_cases hq2 : ns = (List.range n).map fun (k : Nat) => (k : Int)
          · refine itF (by rw [eqv_ints, decide_eq_true hq2]; rfl) ?_
            refine ⟨.ref t, rfl, t, _, 1, .int b.2, rfl, rfl, st_of ((e3.trans e4) _ _ hT2), rfl, _, _, rfl, rfl, _, rfl, it2 (fun h1 => ?_) (fun h1 => ?_)⟩
            · have hm : b.2 < 1 := of_decide_eq_true h1
              exact bad (by unfold okB; rw [decide_eq_false (by omega)]; rfl) _ e5
            · have hm : ¬ b.2 < 1 := of_decide_eq_false h1
              refine ⟨_, rfl, e5, ?_⟩
              rw [List.take_add_one, hb, List.all_append, hall]
              show (true && ([b].all (okB n))) = true
              have : okB n b = true := by
                unfold okB
                rw [decide_eq_true (by omega), List.isPerm_iff.mpr ((sorted_is_range perm srt).mp hq2)]
                rfl
              simp [this]
          · refine itT (by rw [eqv_ints, decide_eq_false hq2]; rfl) ?_
            refine bad ?_ _ e5
            unfold okB
            have : b.1.isPerm (List.range n) = false := by
              cases hz : b.1.isPerm (List.range n) with
              | false => rfl
              | true => exact absurd ((sorted_is_range perm srt).mpr (List.isPerm_iff.mp hz)) hq2
            rw [this, Bool.and_false]
    · rintro σ' H' ⟨y, rfl, e, hall⟩
      rw [show xs.length = bs.length from Paired.len hP, List.take_length] at hall
      rw [hall] at q
      exact q H' e
def spLawPair (K : PySem.W.Frag) : Sp := fun vs H Q _ => ∃ (p : Addr) (a b : Int) (n : Nat), vs = [.ref p, .int (n : Int)] ∧ SqT K H p [.int a, .int b] ∧ ∀ H2, Ex H H2 → Q (.bl (prOk a b n)) H2
theorem ok_law_pair (T : Tx K mg) : FnOk P w K mg base CX0 1 T.f_law_pair T.d_law_pair ["_law_pair_here", "_law_size"] (spLawPair K) := by
  refine T.F_law_pair.ok sc_law_pair (fun vs H Q E h => ?_) (fun cdv A outer s H vs Q E hr h => ?_)
  · obtain ⟨p, a, b, n, rfl, _⟩ := h
    rfl
  · obtain ⟨p, a, b, n, rfl, hT, q⟩ := h
    refine ⟨_, pss_cons (ps_if (PW.pt (pw_or (pt_not (pt_val (pe_callB (isiK K) (by rfl) T.n_isinstance PyProof.Rows.boot_isinstance (pa_cons (pv 0) (pa_cons (pe_bltn (v := .ty "tuple") (by rfl) T.n_tuple bt_tuple rfl) pa_nil))))) (pw_or1 (pt_cmpR op_ne (pe_callB (lenK K) (by rfl) T.n_len PySem.boot_len (pa_cons (pv 0) pa_nil)) pe_int (nomark _))))) (pss_one (ps_ret pe_bl)) (pss_nil))
      (pss_cons (ps_if (pt_val (pe_callB (anyK K) (by rfl) T.n_any PyProof.Rows.boot_any (pa_cons (pe_lc (own := [("_law_one", 2)]) rfl sc_law_pair.nd (piT K (pv 0)) (blkOk_by (own := [("_law_one", 2)]) (N := ["_law_pair_here", "_law_size", "_law_one"]) (sc := defScope s_law_pair) (by decide +kernel)) (fun _ _ _ _ _ => (pg_name (i := 2) sc_law_pair.nd rfl (by first | exact Or.inl rfl | exact Or.inr rfl))) (fun _ _ _ _ _ => pts_nil) (fun _ _ _ _ _ => (pe_or (pe_callB (isiK K) (by rfl) T.n_isinstance PyProof.Rows.boot_isinstance (pa_cons (pv 2) (pa_cons (pe_bltn (v := .ty "bool") (by rfl) T.n_bool bt_bool rfl) pa_nil))) (pe_one (pe_not (pe_callB (isiK K) (by rfl) T.n_isinstance PyProof.Rows.boot_isinstance (pa_cons (pv 2) (pa_cons (pe_bltn (v := .ty "int") (by rfl) T.n_int bt_int rfl) pa_nil)))))))) pa_nil))) (pss_one (ps_ret pe_bl)) (pss_nil))
      (pss_one (ps_ret (pe_chain3 op_le op_lt op_lt pe_int (pe_callB (minTK K) (by rfl) T.n_min PyProof.Rows.boot_min (pa_cons (pv 0) pa_nil)) (pe_callB (maxTK K) (by rfl) T.n_max PyProof.Rows.boot_max (pa_cons (pv 0) pa_nil)) (pv 1))))), ?_⟩
    refine ⟨_, rfl, .ref p, .ty "tuple", _, _, true, rfl, .ty _, tyx_T hT, kit_ty (by decide +kernel), true, rfl, ?_⟩
    refine ⟨_, rfl, p, _, rfl, .inr hT, rfl, _, rfl, ?_⟩
    refine itF rfl ?_
    refine ⟨_, rfl, p, rfl, ⟨_, hT⟩, fun D hD => ?_⟩
    refine lc_vals (walk_tup (K := K) (a := p) (xs := [V.int a, V.int b])) hD (by show 2 ≤ 100000; decide) (fun H2 e2 => ex_t e2 hT) (fun _ => V.bl false) ?_ ?_
    · rintro j x H2 H2' hj e2 ⟨rfl, hx⟩ Qc hq
      obtain ⟨z, rfl⟩ : ∃ z, x = .int z := by
        have := List.mem_of_getElem? hx
        rcases List.mem_cons.mp this with h | h
        · exact ⟨a, h⟩
        · exact ⟨b, by simpa using h⟩
      exact ⟨rfl, _, rfl, _, .ty "bool", _, _, false, rfl, .ty _, .base (.int z), kit_ty (by decide +kernel), false, rfl, _, rfl, _, .ty "int", _, _, true, rfl, .ty _, .base (.int z), kit_ty (by decide +kernel), true, rfl, hq _ (Ex.refl _)⟩
    · intro H2 e2 hD2
      rw [map_const_bl] at hD2
      refine ⟨D, _, rfl, sq_of hD2, false, by rw [any_const_false], ?_⟩
      have hT2 := ex_t e2 hT
      refine ⟨_, rfl, p, a, b, rfl, hT2, _, _, rfl, rfl, _, rfl, ?_⟩
      unfold prOk at q
      refine it2 (fun h0 => ?_) (fun h0 => ?_)
      · rw [h0, Bool.true_and] at q
        refine ⟨_, rfl, p, a, b, rfl, hT2, _, _, rfl, rfl, _, rfl, ?_⟩
        refine it2 (fun h1 => ?_) (fun h1 => ?_)
        · rw [h1, Bool.true_and] at q
          exact ⟨_, rfl, _, _, rfl, rfl, q _ e2⟩
        · rw [h1] at q
          exact q _ e2
      · rw [h0] at q
        exact q _ e2
def spLawDue (K : PySem.W.Frag) (cB cU : Addr) : Sp := fun vs H Q _ => ∃ (v : V) (x : Addr) (n : Nat) (f : Nat → Nat → Int), vs = [v, .ref x] ∧ TabR K H v n f ∧ n ≤ 20 ∧
  ((∃ (dx : Addr) (u : V) (bs : List (List Nat × Int)), H x = some (.ins cB dx [("ballots", u)]) ∧ BalsW H u bs ∧ (∀ b ∈ bs, b.1.length < 60) ∧ ∀ H2, Ex H H2 → Q (.bl (shB n f bs)) H2) ∨
   (∃ (dx p r : Addr) (a b c d : Int), H x = some (.ins cU dx [("one", .ref p), ("other", .ref r)]) ∧ SqT K H p [.int a, .int b] ∧ SqT K H r [.int c, .int d] ∧ ∀ H2, Ex H H2 → Q (.bl (shU n f a b c d)) H2))
theorem ok_law_due (T : Tx K mg) : FnOk P w K mg base CX0 2 T.f_law_due T.d_law_due ["_law_table_here", "_law_found"] (spLawDue K T.c_Ballots T.c_Uneven) := by
  refine T.F_law_due.ok sc_law_due (fun vs H Q E h => ?_) (fun cdv A outer s H vs Q E hr h => ?_)
  · obtain ⟨v, x, n, f, rfl, _⟩ := h
    rfl
  · obtain ⟨v, x, n, f, rfl, TT, hn, hd⟩ := h
    obtain ⟨t, xs, rfl, hS, hl, hat⟩ := TT.at_
    refine ⟨_, pss_cons (ps_set (i := 2) sc_law_due.nd rfl (Or.inl rfl) (pe_callB (lenK K) (by rfl) T.n_len PySem.boot_len (pa_cons (pv 0) pa_nil)))
      (pss_cons (ps_if (pt_val (pe_callB (isiK K) (by rfl) T.n_isinstance PyProof.Rows.boot_isinstance (pa_cons (pv 1) (pa_cons (pe_glob (v := .ref T.c_Ballots) (by rfl) T.g_Ballots rfl) pa_nil)))) (pss_one (ps_ret (pe_and (pe_call (ok_law_are_ballots T) (hr.mono (by decide)) (by rfl) T.g_law_are_ballots T.F_law_are_ballots.kp (b_law_are_ballots T) .nil pass0 (pa_cons (fldK K (pv 1)) (pa_cons (pv 2) pa_nil))) (pe_one (pe_cmpR (eqDK K hr.units) (pe_call (ok_law_count T) (hr.mono (by decide)) (by rfl) T.g_law_count T.F_law_count.kp (b_law_count T) .nil pass0 (pa_cons (pv 2) (pa_cons (fldK K (pv 1)) pa_nil))) (pv 0) (nomark _)))))) (pss_nil))
      (pss_cons (ps_if (PW.pt (pw_or (pt_not (pt_val (pe_call (ok_law_pair T) (hr.mono (by decide)) (by rfl) T.g_law_pair T.F_law_pair.kp (b_law_pair T) .nil pass0 (pa_cons (fldK K (pv 1)) (pa_cons (pv 2) pa_nil))))) (pw_or1 (pt_not (pt_val (pe_call (ok_law_pair T) (hr.mono (by decide)) (by rfl) T.g_law_pair T.F_law_pair.kp (b_law_pair T) .nil pass0 (pa_cons (fldK K (pv 1)) (pa_cons (pv 2) pa_nil)))))))) (pss_one (ps_ret pe_bl)) (pss_nil))
      (pss_cons (ps_par (by rfl) (i := 3) (j := 4) sc_law_due.nd rfl rfl (by decide) rfl rfl (pa_cons (fldK K (pv 1)) (pa_cons (fldK K (pv 1)) pa_nil)) (by rfl))
      (pss_one (ps_ret (pe_cmpR op_eq (pe_op op_mod (pe_op op_add (pe_ix (ixLK K) (pe_ix (ixLK K) (pv 0) (pe_ix (ixTK K) (pv 3) pe_int (fun _ _ => rfl)) (fun _ _ => rfl)) (pe_ix (ixTK K) (pv 3) pe_int (fun _ _ => rfl)) (fun _ _ => rfl)) (pe_ix (ixLK K) (pe_ix (ixLK K) (pv 0) (pe_ix (ixTK K) (pv 4) pe_int (fun _ _ => rfl)) (fun _ _ => rfl)) (pe_ix (ixTK K) (pv 4) pe_int (fun _ _ => rfl)) (fun _ _ => rfl))) pe_int) pe_int (nomark _))))))), ?_⟩
    refine ⟨_, rfl, t, _, rfl, .inl hS, ?_⟩
    rw [hl]
    rcases hd with ⟨dx, u, bs, hx, hB, h60, q⟩ | ⟨dx, p, r, a, b, c, d, hx, hp, hr2, q⟩
    · refine ⟨_, rfl, .ref x, .ref T.c_Ballots, _, _, true, rfl, .own _, tyx_ins hx T.C_Ballots T.y_Ballots, T.k_Ballots_Ballots, true, rfl, ?_⟩
      refine ⟨_, rfl, x, T.c_Ballots, dx, _, _, rfl, hx, T.C_Ballots, T.a_Ballots_ballots, rfl, _, rfl, n, u, bs, rfl, hn, hB, h60, fun H2 e2 => ⟨_, rfl, ?_⟩⟩
      unfold shB at q
      refine it2 (fun hall => ?_) (fun hall => ?_)
      · rw [hall, Bool.true_and] at q
        refine ⟨_, rfl, _, rfl, x, T.c_Ballots, dx, _, _, rfl, e2 _ _ hx, T.C_Ballots, T.a_Ballots_ballots, rfl, n, u, bs, rfl, hn, (hB.mono e2).rd, fun b hb => okB_lt (List.all_eq_true.mp hall b hb), fun H3 t2 rs e3 T2 => ?_⟩
        exact ⟨_, rfl, _, _, T2.rd.dp, (TT.mono (e2.trans e3)).dp, shaped_tab _ _, shaped_tab _ _, q _ (e2.trans e3)⟩
      · rw [hall] at q
        exact q _ e2
    · refine ⟨_, rfl, .ref x, .ref T.c_Ballots, _, _, false, rfl, .own _, tyx_ins hx T.C_Uneven T.y_Uneven, T.k_Uneven_Ballots, false, rfl, ?_⟩
      unfold shU at q
      refine ⟨_, rfl, x, T.c_Uneven, dx, _, _, rfl, hx, T.C_Uneven, T.a_Uneven_one, rfl, _, rfl, p, a, b, n, rfl, hp, fun H2 e2 => ⟨_, rfl, ?_⟩⟩
      cases h1 : prOk a b n with
      | false =>
        rw [h1] at q
        exact q _ e2
      | true =>
        rw [h1, Bool.true_and] at q
        refine ⟨_, rfl, x, T.c_Uneven, dx, _, _, rfl, e2 _ _ hx, T.C_Uneven, T.a_Uneven_other, rfl, _, rfl, r, c, d, n, rfl, ex_t e2 hr2, fun H3 e3 => ⟨_, rfl, ?_⟩⟩
        have e13 := e2.trans e3
        cases h2 : prOk c d n with
        | false =>
          rw [h2] at q
          exact q _ e13
        | true =>
          rw [h2, Bool.true_and] at q
          obtain ⟨a0, a1, b0, b1, _⟩ := prOk_of h1
          obtain ⟨c0, c1, d0, d1, _⟩ := prOk_of h2
          obtain ⟨a', rfl⟩ : ∃ k : Nat, a = (k : Int) := ⟨a.toNat, by omega⟩
          obtain ⟨b', rfl⟩ : ∃ k : Nat, b = (k : Int) := ⟨b.toNat, by omega⟩
          obtain ⟨c', rfl⟩ : ∃ k : Nat, c = (k : Int) := ⟨c.toNat, by omega⟩
          obtain ⟨d', rfl⟩ : ∃ k : Nat, d = (k : Int) := ⟨d.toNat, by omega⟩
          obtain ⟨r1, g1, g2⟩ := hat a' (by omega)
          obtain ⟨r2, g3, g4⟩ := hat c' (by omega)
          have hp3 := ex_t e13 hp
          have hr3 := ex_t e13 hr2
          have hS3 := ex_l e13 hS
          refine ⟨_, rfl, x, T.c_Uneven, dx, _, _, rfl, e13 _ _ hx, T.C_Uneven, T.a_Uneven_one, rfl, _, rfl, x, T.c_Uneven, dx, _, _, rfl, e13 _ _ hx, T.C_Uneven, T.a_Uneven_other, rfl, _, _, rfl, ?_⟩
          refine ⟨_, rfl, _, rfl, p, _, 0, _, rfl, rfl, hp3, rfl, t, _, a', .ref r1, rfl, rfl, hS3, atI_nat g1, _, rfl, p, _, 1, _, rfl, rfl, hp3, rfl, r1, _, b', .int _, rfl, rfl, ex_l e13 g2, atI_nat (rowV_get (by omega)), ?_⟩
          refine ⟨_, rfl, _, rfl, r, _, 0, _, rfl, rfl, hr3, rfl, t, _, c', .ref r2, rfl, rfl, hS3, atI_nat g3, _, rfl, r, _, 1, _, rfl, rfl, hr3, rfl, r2, _, d', .int _, rfl, rfl, ex_l e13 g4, atI_nat (rowV_get (by omega)), _, _, rfl, rfl, _, _, rfl, rfl, (by decide : (0 : Int) < 2), rfl, ?_⟩
          rw [dec_int]
          exact q _ e13
end
end Hc
namespace Hc
open PySem PySem.Spec PyProof.Rows L2 Evl
section
variable {P : Program} {w : World} {K : PySem.W.Frag} {mg : Str → Option Value} {base : Heap}
structure AnsF (T : Tx K mg) (H2 : Hp) (x : Addr) (sh : Nat → (Nat → Nat → Int) → Bool) (isB : Bool) (C : Addr) : Prop where
  ty : ∀ H', Ex H2 H' → TyX K H' (.ref x) (.ref C)
  kA : PySem.W.kitOne K (.ref C) (.ref T.c_Answer) = some true
  kB : PySem.W.kitOne K (.ref C) (.ref T.c_Ballots) = some isB
  kU : PySem.W.kitOne K (.ref C) (.ref T.c_Uneven) = some (!isB)
  kR : PySem.W.kitOne K (.ref C) (.ref T.c_Ring) = some false
  kN : PySem.W.kitOne K (.ref C) (.ref T.c_Unbeaten) = some false
  shows : ∀ (σ : L2.St) (H' : Hp) (i : Nat) (v' : V) (n' : Nat) (g : Nat → Nat → Int) (E0 E1 : XK) (Q' : VK), σ[3]? = some (some (.ref x)) → σ[i]? = some (some v') → Ex H2 H' → TabR K H' v' n' g → n' ≤ 20 → (∀ H'', Ex H' H'' → Q' (.bl (sh n' g)) H'') → (tMeth T.c_Ballots "shows" (spBShows K T.c_Ballots) [] E0 (tVar 3) (tCons (tVar i) tNil) σ H' Q' ∨ tMeth T.c_Uneven "shows" (spUShows K T.c_Uneven) [] E1 (tVar 3) (tCons (tVar i) tNil) σ H' Q')
  due : ∀ (σ : L2.St) (H' : Hp) (i : Nat) (v' : V) (n' : Nat) (g : Nat → Nat → Int) (E0 : XK) (Q' : VK), σ[i]? = some (some v') → σ[3]? = some (some (.ref x)) → Ex H2 H' → TabR K H' v' n' g → n' ≤ 20 → (∀ H'', Ex H' H'' → Q' (.bl (sh n' g)) H'') → tCall (spLawDue K T.c_Ballots T.c_Uneven) [] E0 (tCons (tVar i) (tCons (tVar 3) tNil)) σ H' Q'
theorem ansF_bal (T : Tx K mg) {H2 : Hp} {x dx : Addr} {u : V} {bs : List (List Nat × Int)} (hx : H2 x = some (.ins T.c_Ballots dx [("ballots", u)])) (hB : BalsW H2 u bs) (h60 : ∀ b ∈ bs, b.1.length < 60) : AnsF T H2 x (fun n g => shB n g bs) true T.c_Ballots where
  ty := fun H' e => tyx_ins (e _ _ hx) T.C_Ballots T.y_Ballots
  kA := T.k_Ballots_Answer
  kB := T.k_Ballots_Ballots
  kU := T.k_Ballots_Uneven
  kR := T.k_Ballots_Ring
  kN := T.k_Ballots_Unbeaten
  shows := fun σ H' i v' n' g E0 E1 Q' h3 hi e TT hn hq => .inl ⟨.ref x, h3, x, dx, _, rfl, e _ _ hx, rfl, v', hi, x, dx, v', u, bs, n', g, rfl, e _ _ hx, (hB.mono e).rd, h60, TT, hn, hq⟩
  due := fun σ H' i v' n' g E0 Q' hi h3 e TT hn hq => ⟨v', hi, .ref x, h3, v', x, n', g, rfl, TT, hn, .inl ⟨dx, u, bs, e _ _ hx, hB.mono e, h60, hq⟩⟩
theorem ansF_une (T : Tx K mg) {H2 : Hp} {x dx p r : Addr} {a b c d : Int} (hx : H2 x = some (.ins T.c_Uneven dx [("one", .ref p), ("other", .ref r)])) (hp : H2 p = some (.tup [.int a, .int b])) (hr : H2 r = some (.tup [.int c, .int d])) : AnsF T H2 x (fun n g => shU n g a b c d) false T.c_Uneven where
  ty := fun H' e => tyx_ins (e _ _ hx) T.C_Uneven T.y_Uneven
  kA := T.k_Uneven_Answer
  kB := T.k_Uneven_Ballots
  kU := T.k_Uneven_Uneven
  kR := T.k_Uneven_Ring
  kN := T.k_Uneven_Unbeaten
  shows := fun σ H' i v' n' g E0 E1 Q' h3 hi e TT hn hq => .inr ⟨.ref x, h3, x, dx, _, rfl, e _ _ hx, rfl, v', hi, x, dx, p, r, v', a, b, c, d, n', g, rfl, e _ _ hx, st_of (e _ _ hp), st_of (e _ _ hr), TT, hq⟩
  due := fun σ H' i v' n' g E0 Q' hi h3 e TT hn hq => ⟨v', hi, .ref x, h3, v', x, n', g, rfl, TT, hn, .inr ⟨dx, p, r, a, b, c, d, e _ _ hx, st_of (e _ _ hp), st_of (e _ _ hr), hq⟩⟩
theorem okB_60 {n : Nat} {bs : List (List Nat × Int)} (hn : n ≤ 20) (h : bs.all (okB n) = true) : ∀ b ∈ bs, b.1.length < 60 := fun b hb => by
  rw [okB_len (List.all_eq_true.mp h b hb)]
  omega
theorem shU_told {n a b : Nat} {f : Nat → Nat → Int} (hab : a < b) (hb : b < n) (odd : (f 0 1 + f a b) % 2 = 1) : shU n f 0 1 (a : Int) (b : Int) = true := by
  unfold shU prOk
  rw [decide_eq_true (by omega), decide_eq_true (by omega), decide_eq_true (by omega), decide_eq_true (by omega), decide_eq_true (by omega), decide_eq_true (by omega)]
  show (true && (true && decide ((f 0 1 + f ((a : Int)).toNat ((b : Int)).toNat) % 2 = 1))) = true
  rw [Int.toNat_natCast, Int.toNat_natCast, decide_eq_true odd]
  rfl
/-- how many unlike rests there are -/
theorem rests_two {n : Nat} {f : Nat → Nat → Int} {d : List Int} (hA : Anti n f) (hd : d.Nodup) (hm : ∀ z, z ∈ d ↔ ∃ a b, b < a ∧ a < n ∧ z = f a b % 2) :
    (Alike n f → (d.length : Int) < 2) ∧ (∀ a b, a < b → b < n → (f 0 1 + f a b) % 2 = 1 → ¬ (d.length : Int) < 2) := by
  constructor
  · intro al
    have h1 : ∀ z ∈ d, z = f 0 1 % 2 := fun z hz => by
      obtain ⟨a, b, hab, ha, rfl⟩ := (hm z).mp hz
      have := al b a hab ha
      have h2 := hA a b ha (by omega)
      omega
    match d, hd, h1 with
    | [], _, _ => simp
    | [x], _, _ => simp
    | x :: y :: l, hd, h1 =>
      have e1 := h1 x (by simp)
      have e2 := h1 y (by simp)
      simp [e1, e2] at hd
  · intro a b hab hb odd hl
    have h1 : f 1 0 % 2 ∈ d := (hm _).mpr ⟨1, 0, by omega, by omega, rfl⟩
    have h2 : f b a % 2 ∈ d := (hm _).mpr ⟨b, a, hab, hb, rfl⟩
    have h3 := hA 1 0 (by omega) (by omega)
    have h4 := hA b a hb (by omega)
    match d, h1, h2, hl with
    | [], h1, _, _ => simp at h1
    | [x], h1, h2, _ =>
      have e1 : f 1 0 % 2 = x := by simpa using h1
      have e2 : f b a % 2 = x := by simpa using h2
      omega
    | x :: y :: l, _, _, hl => simp at hl; omega
def spLawRight (K : PySem.W.Frag) : Sp := fun vs H Q _ => ∃ (v : V) (o : Addr) (os : List V) (n : Nat) (f : Nat → Nat → Int), vs = [v, .ref o] ∧ TabR K H v n f ∧ Anti n f ∧ 1 ≤ n ∧ n ≤ 20 ∧ SqL K H o os ∧ (∀ u ∈ os, ∃ n' g, n' ≤ 20 ∧ TabR K H u n' g) ∧ ∀ H2, Ex H H2 → Q (.bl true) H2
theorem ok_law_right (T : Tx K mg) : FnOk P w K mg base CX0 4 T.f_law_right T.d_law_right ["_law_table_here", "_law_others"] (spLawRight K) := by
  refine T.F_law_right.ok sc_law_right (fun vs H Q E h => ?_) (fun cdv A outer s H vs Q E hr h => ?_)
  · obtain ⟨v, o, os, n, f, rfl, _⟩ := h
    rfl
  · obtain ⟨v, o, os, n, f, rfl, TT, hA, hn1, hn, hO, hOs, q⟩ := h
    obtain ⟨t, xs, rfl, hS, hl, hat⟩ := TT.at_
    refine ⟨_, pss_cons (ps_setLc (i := 2) (own := [("_law_row", 6)]) rfl sc_law_right.nd rfl rfl (sw_true rfl rfl rfl (by decide +kernel)) (piL K (pv 0)) (blkOk_by (own := [("_law_row", 6)]) (N := ["_law_table_here", "_law_others", "_law_handed", "_law_found", "_law_rests", "_law_one", "_law_row", "_law_other", "_law_kept", "_law_line", "_law_many", "_law_number_here"]) (sc := defScope s_law_right) (by decide +kernel)) (fun _ _ _ _ _ => (pg_name (i := 6) sc_law_right.nd rfl (by first | exact Or.inl rfl | exact Or.inr rfl))) (fun _ _ _ _ _ => pts_nil) (fun _ _ _ _ _ => (pe_callTy (listK K) (by rfl) T.n_list bt_list (pa_cons (pv 6) pa_nil))))
      (pss_cons (ps_set (i := 3) sc_law_right.nd rfl (Or.inl rfl) (pe_call (ok_told T) (hr.mono (by decide)) (by rfl) T.g_told T.F_told.kp (b_told T) .nil pass0 (pa_cons (pv 2) pa_nil)))
      (pss_cons (ps_if (PW.pt (pw_or (pt_not (pt_val (pe_callB (isiK K) (by rfl) T.n_isinstance PyProof.Rows.boot_isinstance (pa_cons (pv 3) (pa_cons (pe_glob (v := .ref T.c_Answer) (by rfl) T.g_Answer rfl) pa_nil))))) (pw_or (pt_cmpR op_eq (pe_callB (isiK K) (by rfl) T.n_isinstance PyProof.Rows.boot_isinstance (pa_cons (pv 3) (pa_cons (pe_glob (v := .ref T.c_Ballots) (by rfl) T.g_Ballots rfl) pa_nil))) (pe_callB (isiK K) (by rfl) T.n_isinstance PyProof.Rows.boot_isinstance (pa_cons (pv 3) (pa_cons (pe_glob (v := .ref T.c_Uneven) (by rfl) T.g_Uneven rfl) pa_nil))) (nomark _)) (pw_or1 (pt_cmpR (neDK K hr.units) (pv 2) (pv 0) (nomark _)))))) (pss_one (ps_ret pe_bl)) (pss_nil))
      (pss_cons (ps_if (PW.pt (pw_or (pt_val (pe_callB (isiK K) (by rfl) T.n_isinstance PyProof.Rows.boot_isinstance (pa_cons (pv 3) (pa_cons (pe_glob (v := .ref T.c_Ring) (by rfl) T.g_Ring rfl) pa_nil)))) (pw_or1 (pt_val (pe_callB (isiK K) (by rfl) T.n_isinstance PyProof.Rows.boot_isinstance (pa_cons (pv 3) (pa_cons (pe_glob (v := .ref T.c_Unbeaten) (by rfl) T.g_Unbeaten rfl) pa_nil))))))) (pss_one (ps_ret pe_bl)) (pss_nil))
      (pss_cons (ps_set (i := 4) sc_law_right.nd rfl (Or.inl rfl) (pe_lst pa_nil))
      (pss_cons (ps_for PassesOwn.never rfl (piE K (by rfl) T.n_enumerate (pa_cons (pv 0) pa_nil)) (pgT K (n := 2) (pgs_cons (pg_name (i := 5) sc_law_right.nd rfl (by first | exact Or.inl rfl | exact Or.inr rfl)) (pgs_cons (pg_name (i := 6) sc_law_right.nd rfl (by first | exact Or.inl rfl | exact Or.inr rfl)) pgs_nil)))
        (pss_one (ps_expr (pe_bm PySem.F.plainAttrs_list PySem.F.slot_list_extend PySem.F.type_list_extend mt_extend (pv 4) (pa_cons (pe_lc (own := [("_law_number_here", 11)]) rfl sc_law_right.nd (piL K (pe_slice (slLK K) (pv 6) po_none (po_some (pv 5)))) (blkOk_by (own := [("_law_number_here", 11)]) (N := ["_law_table_here", "_law_others", "_law_handed", "_law_found", "_law_rests", "_law_one", "_law_row", "_law_other", "_law_kept", "_law_line", "_law_many", "_law_number_here"]) (sc := defScope s_law_right) (by decide +kernel)) (fun _ _ _ _ _ => (pg_name (i := 11) sc_law_right.nd rfl (by first | exact Or.inl rfl | exact Or.inr rfl))) (fun _ _ _ _ _ => pts_nil) (fun _ _ _ _ _ => (pe_op op_mod (pv 11) pe_int))) pa_nil)))))
      (pss_cons (ps_if (PW.pt (pw_or (pt_cmpR op_ne (pe_callB (isiK K) (by rfl) T.n_isinstance PyProof.Rows.boot_isinstance (pa_cons (pv 3) (pa_cons (pe_glob (v := .ref T.c_Ballots) (by rfl) T.g_Ballots rfl) pa_nil))) (pe_cmpR op_lt (pe_callB lenZ (by rfl) T.n_len PySem.boot_len (pa_cons (pe_callTy (setLK K) (by rfl) T.n_set bt_set (pa_cons (pv 4) pa_nil)) pa_nil)) pe_int (nomark _)) (nomark _)) (pw_or1 (pt_not (pt_val (pe_call (ok_law_due T) (hr.mono (by decide)) (by rfl) T.g_law_due T.F_law_due.kp (b_law_due T) .nil pass0 (pa_cons (pv 0) (pa_cons (pv 3) pa_nil)))))))) (pss_one (ps_ret pe_bl)) (pss_nil))
      (pss_cons (ps_if (pt_cmpR op_notBl ((pe_alt (pe_meth (pv 3) T.C_Ballots T.S_Ballots (ok_Ballots_shows T) (hr.mono (by decide)) (b_Ballots_shows T) .nil pass0 (pa_cons (pv 0) pa_nil)) (pe_meth (pv 3) T.C_Uneven T.S_Uneven (ok_Uneven_shows T) (hr.mono (by decide)) (b_Uneven_shows T) .nil pass0 (pa_cons (pv 0) pa_nil)))) pe_bl (nomark _)) (pss_one (ps_ret pe_bl)) (pss_nil))
      (pss_cons (ps_for PassesOwn.never rfl (piL K (pv 1)) (pg_name (i := 7) sc_law_right.nd rfl (by first | exact Or.inl rfl | exact Or.inr rfl))
        (pss_one (ps_if (pt_cmpR op_ne ((pe_alt (pe_meth (pv 3) T.C_Ballots T.S_Ballots (ok_Ballots_shows T) (hr.mono (by decide)) (b_Ballots_shows T) .nil pass0 (pa_cons (pv 7) pa_nil)) (pe_meth (pv 3) T.C_Uneven T.S_Uneven (ok_Uneven_shows T) (hr.mono (by decide)) (b_Uneven_shows T) .nil pass0 (pa_cons (pv 7) pa_nil)))) (pe_call (ok_law_due T) (hr.mono (by decide)) (by rfl) T.g_law_due T.F_law_due.kp (b_law_due T) .nil pass0 (pa_cons (pv 7) (pa_cons (pv 3) pa_nil))) (nomark _)) (pss_one (ps_ret pe_bl)) (pss_nil))))
      (pss_cons (ps_if (pt_val (pe_callB (isiK K) (by rfl) T.n_isinstance PyProof.Rows.boot_isinstance (pa_cons (pv 3) (pa_cons (pe_glob (v := .ref T.c_Ballots) (by rfl) T.g_Ballots rfl) pa_nil)))) (pss_cons (ps_setLc (i := 8) (own := [("_law_line", 9), ("_law_many", 10)]) rfl sc_law_right.nd rfl rfl (sw_true rfl rfl rfl (by decide +kernel)) (piL K (pe_slice (slLK K) (fldK K (pv 3)) (po_some pe_int) po_none)) (blkOk_by (own := [("_law_line", 9), ("_law_many", 10)]) (N := ["_law_table_here", "_law_others", "_law_handed", "_law_found", "_law_rests", "_law_one", "_law_row", "_law_other", "_law_kept", "_law_line", "_law_many", "_law_number_here"]) (sc := defScope s_law_right) (by decide +kernel)) (fun _ _ _ _ _ => (pgT K (n := 2) (pgs_cons (pg_name (i := 9) sc_law_right.nd rfl (by first | exact Or.inl rfl | exact Or.inr rfl)) (pgs_cons (pg_name (i := 10) sc_law_right.nd rfl (by first | exact Or.inl rfl | exact Or.inr rfl)) pgs_nil)))) (fun _ _ _ _ _ => pts_nil) (fun _ _ _ _ _ => (pe_callTy (listK K) (by rfl) T.n_list bt_list (pa_cons (pv 9) pa_nil))))
      (pss_cons (ps_for PassesOwn.never rfl (piL K (pe_slice (slLK K) (fldK K (pv 3)) po_none (po_some pe_int))) (pgT K (n := 2) (pgs_cons (pg_name (i := 9) sc_law_right.nd rfl (by first | exact Or.inl rfl | exact Or.inr rfl)) (pgs_cons (pg_name (i := 10) sc_law_right.nd rfl (by first | exact Or.inl rfl | exact Or.inr rfl)) pgs_nil)))
        (pss_one (ps_expr (pe_bm PySem.F.plainAttrs_list PySem.F.slot_list_append PySem.F.type_list_append mt_append (pv 9) (pa_cons pe_int pa_nil)))))
      (pss_cons (ps_if (pt_cmpR (neDK K hr.units) (pe_lc (own := [("_law_line", 9), ("_law_many", 10)]) rfl sc_law_right.nd (piL K (pe_slice (slLK K) (fldK K (pv 3)) (po_some pe_int) po_none)) (blkOk_by (own := [("_law_line", 9), ("_law_many", 10)]) (N := ["_law_table_here", "_law_others", "_law_handed", "_law_found", "_law_rests", "_law_one", "_law_row", "_law_other", "_law_kept", "_law_line", "_law_many", "_law_number_here"]) (sc := defScope s_law_right) (by decide +kernel)) (fun _ _ _ _ _ => (pgT K (n := 2) (pgs_cons (pg_name (i := 9) sc_law_right.nd rfl (by first | exact Or.inl rfl | exact Or.inr rfl)) (pgs_cons (pg_name (i := 10) sc_law_right.nd rfl (by first | exact Or.inl rfl | exact Or.inr rfl)) pgs_nil)))) (fun _ _ _ _ _ => pts_nil) (fun _ _ _ _ _ => (pv 9))) (pv 8) (nomark _)) (pss_one (ps_ret pe_bl)) (pss_nil))
      (pss_cons (ps_expr (pe_bm PySem.F.plainAttrs_list PySem.F.slot_list_append PySem.F.type_list_append mt_append (fldK K (pv 3)) (pa_cons (pe_tup (pa_cons (pe_lst (pa_cons pe_int pa_nil)) (pa_cons pe_int pa_nil))) pa_nil)))
      (pss_one (ps_if (PW.pt (pw_or (pt_cmpR op_ne ((pe_alt (pe_meth (pv 3) T.C_Ballots T.S_Ballots (ok_Ballots_shows T) (hr.mono (by decide)) (b_Ballots_shows T) .nil pass0 (pa_cons (pv 0) pa_nil)) (pe_meth (pv 3) T.C_Uneven T.S_Uneven (ok_Uneven_shows T) (hr.mono (by decide)) (b_Uneven_shows T) .nil pass0 (pa_cons (pv 0) pa_nil)))) (pe_call (ok_law_due T) (hr.mono (by decide)) (by rfl) T.g_law_due T.F_law_due.kp (b_law_due T) .nil pass0 (pa_cons (pv 0) (pa_cons (pv 3) pa_nil))) (nomark _)) (pw_or1 (pt_cmpR op_notBl ((pe_alt (pe_meth (pe_call (ok_told T) (hr.mono (by decide)) (by rfl) T.g_told T.F_told.kp (b_told T) .nil pass0 (pa_cons (pv 2) pa_nil)) T.C_Ballots T.S_Ballots (ok_Ballots_shows T) (hr.mono (by decide)) (b_Ballots_shows T) .nil pass0 (pa_cons (pv 0) pa_nil)) (pe_meth (pe_call (ok_told T) (hr.mono (by decide)) (by rfl) T.g_told T.F_told.kp (b_told T) .nil pass0 (pa_cons (pv 2) pa_nil)) T.C_Uneven T.S_Uneven (ok_Uneven_shows T) (hr.mono (by decide)) (b_Uneven_shows T) .nil pass0 (pa_cons (pv 0) pa_nil)))) pe_bl (nomark _))))) (pss_one (ps_ret pe_bl)) (pss_nil))))))) (pss_nil))
      (pss_one (ps_ret (pe_cmpR (eqDK K hr.units) (pv 2) (pv 0) (nomark _))))))))))))), ?_⟩
    refine ⟨_, rfl, t, rfl, ⟨_, hS⟩, fun D hD => ?_⟩
    refine lc_rows (walk_list (K := K) (a := t) (xs := xs)) hD (by omega) (fun H2 e2 => ex_l e2 hS) (fun i => rowV n (f i)) ?_ ?_
    · rintro i x Ha Ha' hi ea ⟨rfl, hx⟩ Qc hq
      obtain ⟨r, g1, g2⟩ := hat i (by omega)
      rw [g1] at hx
      cases hx
      exact ⟨rfl, _, rfl, r, _, rfl, .inl (ex_l ea g2), fun l nl => hq l _ nl (Ex.new nl) upd_same⟩
    intro H1 ps e1 hD1 hl1 R1
    have HT : Tab H H1 D ps n f := R1.tab hD hD1 (by rw [hl1, hl])
    refine ⟨_, rfl, _, n, f, rfl, hn1, hn, HT.rd, hA, fun H2 x e2 nx hT => ?_⟩
    have e12 := e1.trans e2
    obtain ⟨C, isB, sh, AF, hshn, hpar, hbal⟩ : ∃ C isB sh, AnsF T H2 x sh isB C ∧ sh n f = true ∧ (∀ d : List Int, d.Nodup → (∀ z, z ∈ d ↔ ∃ a b, b < a ∧ a < n ∧ z = f a b % 2) → decide ((d.length : Int) < 2) = isB) ∧ (isB = true → ∃ dx B ts ls bs, H2 x = some (.ins T.c_Ballots dx [("ballots", .ref B)]) ∧ BalsN H1 H2 B ts ls bs ∧ bs.all (okB n) = true ∧ bs.length ≤ 1000 ∧ Alike n f) := by
      cases hT with
      | bal dx B ts ls bs hx BN ok ec al len => exact ⟨_, true, _, ansF_bal T hx BN.w (okB_60 hn ok), shB_true ok ec, fun d hd hm => decide_eq_true ((rests_two hA hd hm).1 al), fun _ => ⟨dx, B, ts, ls, bs, hx, BN, ok, len, al⟩⟩
      | une dx t1 t2 a b hx h1 h2 hab hb odd => exact ⟨_, false, _, ansF_une T hx h1 h2, shU_told hab hb odd, fun d hd hm => decide_eq_false ((rests_two hA hd hm).2 a b hab hb odd), fun h => nomatch h⟩
    refine ⟨_, rfl, .ref x, .ref T.c_Answer, _, _, true, rfl, .own _, AF.ty _ (Ex.refl _), AF.kA, true, rfl, ?_⟩
    refine ⟨_, rfl, .ref x, .ref T.c_Ballots, _, _, isB, rfl, .own _, AF.ty _ (Ex.refl _), AF.kB, _, rfl, .ref x, .ref T.c_Uneven, _, _, !isB, rfl, .own _, AF.ty _ (Ex.refl _), AF.kU, rfl, _, rfl, itF (by rw [dec_bl]; cases isB <;> rfl) ?_⟩
    refine ⟨_, rfl, _, rfl, _, _, (HT.rd.mono e2).dp, (TT.mono e12).dp, shaped_tab _ _, shaped_tab _ _, _, rfl, itF (by rw [eqv_tab (fun _ _ _ _ => rfl)]; rfl) ?_⟩
    refine ⟨_, rfl, .ref x, .ref T.c_Ring, _, _, false, rfl, .own _, AF.ty _ (Ex.refl _), AF.kR, false, rfl, _, rfl, .ref x, .ref T.c_Unbeaten, _, _, false, rfl, .own _, AF.ty _ (Ex.refl _), AF.kN, false, rfl, ?_⟩
    refine ⟨Nat.zero_le _, fun Rr nR => ?_⟩
    have eR := Ex.new (o := .lst []) nR
    refine ⟨_, rfl, t, xs, rfl, ex_l (e12.trans eR) hS, ?_⟩
    refine for_it (walk_enum (K := K) (a := t) (xs := xs)) (fun i σ' H' => ∃ (y5 y6 : Option V) (ms : List Int), σ' = [some (.ref t), some (.ref o), some (.ref D), some (.ref x), some (.ref Rr), y5, y6, none, none, none, none, none] ∧ Ex H2 H' ∧ H' Rr = some (.lst (iv ms)) ∧ ms.length ≤ 20 * i ∧ ∀ z, z ∈ ms ↔ ∃ a b, b < a ∧ a < i ∧ z = f a b % 2)
      ⟨_, _, [], rfl, eR, upd_same, Nat.zero_le _, fun z => ⟨fun h => by simp at h, fun ⟨a, b, h1, h2, _⟩ => by omega⟩⟩ (fun i σ' H' _ ⟨_, _, _, _, e, _⟩ => ex_l (e12.trans e) hS) ?_ ?_
    · rintro i x' σ' H' H'' hi ⟨y5, y6, ms, rfl, e, hR, hml, hmem⟩ ⟨U, x1, x2, rfl, nU, rfl, h1, h2⟩
      cases h1
      have hin : i < n := by omega
      obtain ⟨r, g1, g2⟩ := hat i hin
      change xs[i]? = some x2 at h2
      rw [g1] at h2
      cases h2
      have eU := Ex.new (o := .tup [.int (i : Nat), .ref r]) nU
      refine ⟨U, _, rfl, st_of upd_same, rfl, _, _, rfl, _, [], rfl, rfl, ?_⟩
      refine ⟨_, rfl, .inl ⟨rfl, _, sq_of (eU _ _ hR)⟩, _, rfl, _, rfl, _, rfl, r, _, rfl, ex_l ((e12.trans e).trans eU) g2, fun c nc => ?_⟩
      have ec := Ex.new (o := .lst (cutV (rowV n (f i)) none (some (i : Int)))) nc
      have hcc : cutV (rowV n (f i)) none (some (i : Int)) = rowV i (f i) := by rw [cut_to, rowV_take (Nat.le_of_lt hin)]
      rw [hcc] at ec ⊢
      refine ⟨c, rfl, ⟨_, sq_of upd_same⟩, fun D2 hD2 => ?_⟩
      refine lc_vals (walk_list (K := K) (a := c) (xs := rowV i (f i))) hD2 (by rw [rowV_length]; omega) (fun H3 e3 => sq_of (e3 _ _ upd_same)) (fun j => V.int (f i j % 2)) ?_ ?_
      · rintro j x Hb Hb' hj eb ⟨rfl, hx⟩ Qc hq
        have hjn : j < i := by rw [rowV_length] at hj; exact hj
        rw [rowV_get hjn] at hx
        cases hx
        exact ⟨rfl, _, rfl, _, _, rfl, rfl, (by decide : (0 : Int) < 2), hq _ (Ex.refl _)⟩
      · intro H3 e3 hD3
        rw [rowV_length] at hD3
        have hR3 := e3 _ _ (ec _ _ (eU _ _ hR))
        refine ⟨Rr, D2, _, _, rfl, rfl, hR3, hD3, sz_of (by rw [iv_length, List.length_map, List.length_range]; omega), ?_⟩
        refine ⟨_, _, ms ++ (List.range i).map fun j => f i j % 2, rfl, ((e.trans (eU.trans ec)).trans e3).mut nR, ?_, ?_, fun z => ?_⟩
        · rw [upd_same]
          unfold iv
          rw [List.map_append, List.map_map]
          rfl
        · rw [List.length_append, List.length_map, List.length_range]
          omega
        · rw [List.mem_append, hmem z, List.mem_map]
          constructor
          · rintro (⟨a, b, h1, h2, h3⟩ | ⟨j, h1, h2⟩)
            · exact ⟨a, b, h1, by omega, h3⟩
            · exact ⟨i, j, List.mem_range.mp h1, by omega, h2.symm⟩
          · rintro ⟨a, b, h1, h2, h3⟩
            by_cases ha : a < i
            · exact .inl ⟨a, b, h1, ha, h3⟩
            · have ea : a = i := by omega
              subst ea
              exact .inr ⟨b, List.mem_range.mpr h1, h3.symm⟩
    · rintro σ' H' ⟨y5, y6, ms, rfl, e, hR, hml, hmem⟩
      refine ⟨_, rfl, .ref x, .ref T.c_Ballots, _, _, isB, rfl, .own _, AF.ty _ e, AF.kB, _, rfl, Rr, ms, rfl, sq_of hR, by omega, fun z0 d nz0 hd hdm hdl => ⟨z0, _, _, rfl, upd_same, by omega, ?_⟩⟩
      have hdB := hpar d hd fun z => by rw [hdm z, hmem z, hl]
      replace e := e.trans (Ex.new (o := .set (fun k => d.any (· == k)) d.length) nz0)
      refine ⟨_, _, rfl, rfl, rfl, _, rfl, itF (by rw [dec_bl, hdB, beq_self_eq_true]; rfl) ?_⟩
      refine AF.due _ _ 0 _ n f _ _ rfl rfl e (TT.mono (e12.trans e)) hn fun H3 e3 => ⟨true, by rw [hshn], ?_⟩
      have e23 := e.trans e3
      refine AF.shows _ _ 0 _ n f _ _ _ rfl rfl e23 (TT.mono (e12.trans e23)) hn fun H4 e4 => ⟨_, _, rfl, rfl, _, rfl, itF (by rw [hshn]; rfl) ?_⟩
      have e24 := e23.trans e4
      refine ⟨_, rfl, o, rfl, ⟨os, ex_l (e12.trans e24) hO⟩, for_list (K := K) (a := o) (xs := os) (fun i σ' H' => ∃ y5 y6 y7, σ' = [some (.ref t), some (.ref o), some (.ref D), some (.ref x), some (.ref Rr), y5, y6, y7, none, none, none, none] ∧ Ex H2 H')
        ⟨_, _, _, rfl, e24⟩ (fun i σ' H' _ ⟨_, _, _, _, e⟩ => ex_l (e12.trans e) hO) ?_ ?_⟩
      · rintro i u σ' H' hi ⟨y5, y6, y7, rfl, e⟩
        obtain ⟨n', g, hn', TG⟩ := hOs u (List.mem_of_getElem? hi)
        refine AF.shows _ _ 7 _ n' g _ _ _ rfl rfl e (TG.mono (e12.trans e)) hn' fun H5 e5 => ?_
        have e25 := e.trans e5
        refine AF.due _ _ 7 _ n' g _ _ rfl rfl e25 (TG.mono (e12.trans e25)) hn' fun H6 e6 => ⟨rfl, _, rfl, itF (by rw [decide_eq_true rfl]; rfl) ⟨_, _, _, rfl, e25.trans e6⟩⟩
      · rintro σ' H' ⟨y5, y6, y7, rfl, e⟩
        have fin : ∀ H9, Ex H9 H9 → Ex H2 H9 → Q (.bl (PyData.eqv (dTab n f) (dTab n f))) H9 := fun H9 _ e9 => by
          rw [eqv_tab (fun _ _ _ _ => rfl)]
          exact q _ (e12.trans e9)
        refine ⟨_, rfl, .ref x, .ref T.c_Ballots, _, _, isB, rfl, .own _, AF.ty _ e, AF.kB, isB, rfl, it2 (fun hb => ?_) (fun hb => ?_)⟩
        · obtain ⟨dx, B, ts, ls, bs, hx, BN, hok, hbl, hal⟩ := hbal hb
          have hx1 := e _ _ hx
          have BN1 := BN.mono e
          refine ⟨_, rfl, x, T.c_Ballots, dx, _, _, rfl, hx1, T.C_Ballots, T.a_Ballots_ballots, rfl, 1, rfl, B, _, rfl, sq_of BN1.top, fun c nc => ?_⟩
          have ec := Ex.new (o := .lst (cutV (ts.map V.ref) (some 1) none)) nc
          rw [ecut1] at ec ⊢
          have BN2 := BN1.mono ec
          refine ⟨c, rfl, ⟨_, sq_of upd_same⟩, fun Dk hDk => ?_⟩
          have hts1 : (ts.drop 1).length ≤ 1000 := by rw [List.length_drop, BN.lt]; omega
          refine lc_rows (walk_list (K := K) (a := c) (xs := (ts.drop 1).map V.ref)) hDk (by rw [List.length_map]; omega) (fun H3 e3 => sq_of (e3 _ _ upd_same)) (fun i => nv ((bs.drop 1).getD i ([], 0)).1) ?_ ?_
          · rintro i x' Ha Ha' hi ea ⟨rfl, hx'⟩ Qc hq
            rw [List.length_map, List.length_drop] at hi
            have h1 : i + 1 < ts.length := by omega
            have h2 : i + 1 < ls.length := by rw [BN.ll, ← BN.lt]; exact h1
            have h3 : i + 1 < bs.length := by rw [← BN.lt]; exact h1
            rw [List.getElem?_map, List.getElem?_drop, show 1 + i = i + 1 by omega, List.getElem?_eq_getElem h1] at hx'
            cases hx'
            obtain ⟨q1, q2⟩ := BN2.at_ (i + 1) _ _ _ (List.getElem?_eq_getElem h1) (List.getElem?_eq_getElem h2) (List.getElem?_eq_getElem h3)
            have eg : (bs.drop 1).getD i ([], 0) = bs[i + 1] := by
              rw [List.getD_eq_getElem?_getD, List.getElem?_drop, show 1 + i = i + 1 by omega, List.getElem?_eq_getElem h3]
              rfl
            rw [eg] at hq
            exact ⟨ts[i + 1], _, rfl, st_of (ea _ _ q1), rfl, .ref ls[i + 1], _, rfl, .int bs[i + 1].2, [], rfl, rfl, rfl, _, rfl, ls[i + 1], _, rfl, .inl (sq_of (ea _ _ q2)), fun l nl => hq l _ nl (Ex.new nl) upd_same⟩
          intro H5 pk e5 hDk5 hlk RK
          have BN5 := BN2.mono e5
          have hx5 := e5 _ _ (ec _ _ hx1)
          have e25 := (e.trans ec).trans e5
          refine ⟨_, rfl, x, T.c_Ballots, dx, _, _, rfl, hx5, T.C_Ballots, T.a_Ballots_ballots, rfl, 1, rfl, B, _, rfl, sq_of BN5.top, fun c2 nc2 => ?_⟩
          have ec2 := Ex.new (o := .lst (cutV (ts.map V.ref) none (some 1))) nc2
          rw [ecut0] at ec2 ⊢
          have BN6 := BN5.mono ec2
          refine ⟨c2, rfl, ⟨_, sq_of upd_same⟩, ?_⟩
          have hc2 : (upd H5 c2 (.lst ((ts.take 1).map V.ref))) c2 = some (.lst ((ts.take 1).map V.ref)) := upd_same
          have hx6 := ec2 _ _ hx5
          have hDk6 := ec2 _ _ hDk5
          have RK6 : ∀ i p, pk[i]? = some p → (upd H5 c2 (.lst ((ts.take 1).map V.ref))) p = some (.lst (nv ((bs.drop 1).getD i ([], 0)).1)) := fun i p h => ec2 _ _ (RK.at_ i p h)
          have e26 := e25.trans ec2
          have fk : ∀ p, p ∈ pk → H2 p = none := fun p hp => fresh_back (e.trans ec) (RK.fr p hp)
          have fDk : H2 Dk = none := fresh_back (e.trans ec) hDk
          have fc2 : H2 c2 = none := fresh_back e25 nc2
          generalize (upd H5 c2 (.lst ((ts.take 1).map V.ref))) = H6 at hc2 hx6 hDk6 RK6 e26 BN6
          have lsome : ∀ l, l ∈ ls → ∃ ks, H2 l = some (.lst (nv ks)) := fun l hl => by
            obtain ⟨i, hi, ei⟩ := List.mem_iff_getElem.mp hl
            have h3 : i < bs.length := by rw [← BN.ll]; exact hi
            have h1 : i < ts.length := by rw [BN.lt]; exact h3
            exact ⟨_, (BN.at_ i _ l _ (List.getElem?_eq_getElem h1) (by rw [List.getElem?_eq_getElem hi, ei]) (List.getElem?_eq_getElem h3)).2⟩
          refine for_list (K := K) (a := c2) (xs := (ts.take 1).map V.ref) (fun i σ' H' => ∃ y5 y6 y7 y9 y10, σ' = [some (.ref t), some (.ref o), some (.ref D), some (.ref x), some (.ref Rr), y5, y6, y7, some (.ref Dk), y9, y10, none] ∧ (∀ a o', (∀ l ∈ ls.take i, a ≠ l) → H6 a = some o' → H' a = some o') ∧ (∀ (j : Nat) (l : Addr) (b : List Nat × Int), j < i → j < 1 → ls[j]? = some l → bs[j]? = some b → H' l = some (.lst (nv (b.1 ++ [0])))))
            ⟨_, _, _, _, _, rfl, fun a o' _ h => h, fun j l b h => by omega⟩ (fun i σ' H' _ ⟨_, _, _, _, _, _, hk, _⟩ => sq_of (hk _ _ (fun l hl e => by
              obtain ⟨ks, hks⟩ := lsome l (List.mem_of_mem_take hl)
              rw [← e, fc2] at hks
              cases hks) hc2)) ?_ ?_
          · rintro i x' σ' H' hi ⟨y5, y6, y7, y9, y10, rfl, hk, hdone⟩
            have hi0 : i < ((ts.take 1).map V.ref).length := (List.getElem?_eq_some_iff.mp hi).1
            rw [List.length_map, List.length_take] at hi0
            have ei : i = 0 := by omega
            subst ei
            have h1 : 0 < ts.length := by omega
            have h2 : 0 < ls.length := by rw [BN.ll, ← BN.lt]; exact h1
            have h3 : 0 < bs.length := by rw [← BN.lt]; exact h1
            rw [List.getElem?_map, List.getElem?_take_of_lt (by decide), List.getElem?_eq_getElem h1] at hi
            cases hi
            obtain ⟨q1, q2⟩ := BN6.at_ 0 _ _ _ (List.getElem?_eq_getElem h1) (List.getElem?_eq_getElem h2) (List.getElem?_eq_getElem h3)
            have q1' := hk _ _ (fun l hl => by simp at hl) q1
            have q2' := hk _ _ (fun l hl => by simp at hl) q2
            refine ⟨ts[0], _, rfl, st_of q1', rfl, .ref ls[0], _, rfl, .int bs[0].2, [], rfl, rfl, ?_⟩
            have hb0 : bs[0].1.length < 60 := okB_60 hn hok _ (List.getElem_mem h3)
            refine ⟨_, rfl, .inl ⟨rfl, _, sq_of q2'⟩, ls[0], _, _, rfl, rfl, q2', sz_lt (by rw [nv_length]; omega), ?_⟩
            refine ⟨_, _, _, _, _, rfl, fun a o' hne ha => ?_, fun j l b hj hj1 hl hb => ?_⟩
            · have : a ≠ ls[0] := hne _ (List.mem_of_getElem? (i := 0) (by rw [List.getElem?_take_of_lt (by decide), List.getElem?_eq_getElem h2]))
              rw [upd_ne this]
              exact hk _ _ (fun l hl => by simp at hl) ha
            · have ej : j = 0 := by omega
              subst ej
              rw [List.getElem?_eq_getElem h2] at hl
              rw [List.getElem?_eq_getElem h3] at hb
              cases hl
              cases hb
              rw [upd_same]
              unfold nv
              rw [List.map_append]
              rfl
          · rintro σ' H7 ⟨y5, y6, y7, y9, y10, rfl, hk, hdone⟩
            have hltk : ∀ l, l ∈ ls.take ((ts.take 1).map V.ref).length → ls[0]? = some l := fun l hl => by
              rw [List.length_map, List.length_take] at hl
              cases hls : ls with
              | nil => rw [hls] at hl; simp at hl
              | cons l0 ls' =>
                rw [hls] at hl
                have h9 := List.mem_of_mem_take (i := 1) (l := l0 :: ls') (a := l) (by
                  by_cases h : ts.length = 0
                  · rw [h] at hl; simp at hl
                  · rw [show min 1 ts.length = 1 by omega] at hl; exact hl)
                have h8 : l ∈ (l0 :: ls').take 1 := by
                  by_cases h : ts.length = 0
                  · rw [h] at hl; simp at hl
                  · rw [show min 1 ts.length = 1 by omega] at hl; exact hl
                have : l = l0 := by simpa using h8
                rw [this]
                rfl
            have hk7 : ∀ a o', ls[0]? ≠ some a → H6 a = some o' → H7 a = some o' := fun a o' hne ha => hk a o' (fun l hl e => hne (by rw [e]; exact hltk l hl)) ha
            have nl0 : ∀ a, H2 a = none → ls[0]? ≠ some a := fun a ha e => by
              obtain ⟨ks, hks⟩ := lsome a (List.mem_of_getElem? e)
              rw [ha] at hks
              cases hks
            have nlx : ls[0]? ≠ some x := fun e => by
              obtain ⟨ks, hks⟩ := lsome x (List.mem_of_getElem? e)
              rw [hx] at hks
              cases hks
            have nlB : ls[0]? ≠ some B := fun e => balsN_neB BN e rfl
            have hx7 := hk7 _ _ nlx hx6
            have hB7 := hk7 _ _ nlB BN6.top
            have hDk7 := hk7 _ _ (nl0 _ fDk) hDk6
            refine ⟨_, rfl, x, T.c_Ballots, dx, _, _, rfl, hx7, T.C_Ballots, T.a_Ballots_ballots, rfl, 1, rfl, B, _, rfl, sq_of hB7, fun c3 nc3 => ?_⟩
            have ec3 := Ex.new (o := .lst (cutV (ts.map V.ref) (some 1) none)) nc3
            rw [ecut1] at ec3 ⊢
            refine ⟨c3, rfl, ⟨_, sq_of upd_same⟩, fun Dl hDl => ?_⟩
            have at7 : ∀ (i : Nat) (t l : Addr) (b : List Nat × Int), ts[i + 1]? = some t → ls[i + 1]? = some l → bs[i + 1]? = some b → H7 t = some (.tup [.ref l, .int b.2]) ∧ H7 l = some (.lst (nv b.1)) := fun i t' l b ht hl' hb' => by
              obtain ⟨q1, q2⟩ := BN6.at_ (i + 1) t' l b ht hl' hb'
              refine ⟨hk7 _ _ (fun e0 => ?_) q1, hk7 _ _ (fun e0 => ?_) q2⟩
              · obtain ⟨ks, hks⟩ := lsome t' (List.mem_of_getElem? e0)
                rw [e26 _ _ hks] at q1
                cases q1
              · have := nd_ix BN.nd e0 hl'
                omega
            refine lc_vals (walk_list (K := K) (a := c3) (xs := (ts.drop 1).map V.ref)) hDl (by rw [List.length_map]; omega) (fun H3 e3 => sq_of (e3 _ _ upd_same)) (fun i => V.ref ((ls.drop 1).getD i 0)) ?_ ?_
            · rintro i x' Ha Ha' hi ea ⟨rfl, hx'⟩ Qc hq
              rw [List.length_map, List.length_drop] at hi
              have h1 : i + 1 < ts.length := by omega
              have h2 : i + 1 < ls.length := by rw [BN.ll, ← BN.lt]; exact h1
              have h3 : i + 1 < bs.length := by rw [← BN.lt]; exact h1
              rw [List.getElem?_map, List.getElem?_drop, show 1 + i = i + 1 by omega, List.getElem?_eq_getElem h1] at hx'
              cases hx'
              obtain ⟨q1, q2⟩ := at7 i _ _ _ (List.getElem?_eq_getElem h1) (List.getElem?_eq_getElem h2) (List.getElem?_eq_getElem h3)
              have eg : (ls.drop 1).getD i 0 = ls[i + 1] := by
                rw [List.getD_eq_getElem?_getD, List.getElem?_drop, show 1 + i = i + 1 by omega, List.getElem?_eq_getElem h2]
                rfl
              rw [eg] at hq
              exact ⟨ts[i + 1], _, rfl, st_of (ea _ _ (ec3 _ _ q1)), rfl, .ref ls[i + 1], _, rfl, .int bs[i + 1].2, [], rfl, rfl, rfl, _, rfl, hq _ (Ex.refl _)⟩
            intro H8 e8 hDl8
            have e78 := ec3.trans e8
            have hmapl : ((List.range ((ts.drop 1).map V.ref).length).map fun i => V.ref ((ls.drop 1).getD i 0)) = (ls.drop 1).map V.ref := by
              have hlen : ((ts.drop 1).map V.ref).length = (ls.drop 1).length := by rw [List.length_map, List.length_drop, List.length_drop, BN.ll, BN.lt]
              rw [hlen]
              apply List.ext_getElem?
              intro i
              rw [List.getElem?_map, List.getElem?_map]
              by_cases hi : i < (ls.drop 1).length
              · rw [List.getElem?_range hi, List.getElem?_eq_getElem hi, Option.map_some, Option.map_some, List.getD_eq_getElem?_getD, List.getElem?_eq_getElem hi]
                rfl
              · rw [List.getElem?_eq_none (by rw [List.length_range]; omega), List.getElem?_eq_none (by omega)]
                rfl
            rw [hmapl] at hDl8
            refine ⟨_, rfl, _, _, dp_lines (ps := ls.drop 1) (bs := bs.drop 1) hDl8 (by rw [List.length_drop, List.length_drop, BN.ll]) (fun i p b hp hb' => ?_), dp_lines (ps := pk) (bs := bs.drop 1) (e78 _ _ hDk7) (by rw [hlk, List.length_map, List.length_drop, List.length_drop, BN.lt]) (fun i p b hp hb' => ?_), shaped_lines _, shaped_lines _, _, rfl, itF (by rw [SeqAt.eqv_refl _ (lay_lines _)]; rfl) ?_⟩
            · rw [List.getElem?_drop, show 1 + i = i + 1 by omega] at hp hb'
              have h1 : i + 1 < ts.length := by rw [BN.lt]; exact (List.getElem?_eq_some_iff.mp hb').1
              exact e78 _ _ (at7 i _ p b (List.getElem?_eq_getElem h1) hp hb').2
            · have h9 := hk7 _ _ (nl0 _ (fk p (List.mem_of_getElem? hp))) (RK6 i p hp)
              rw [List.getD_eq_getElem?_getD, hb'] at h9
              exact e78 _ _ h9
            have hx8 := e78 _ _ hx7
            have hB8 := e78 _ _ hB7
            refine ⟨_, rfl, x, T.c_Ballots, dx, _, _, rfl, hx8, T.C_Ballots, T.a_Ballots_ballots, rfl, .inl ⟨rfl, _, sq_of hB8⟩, (by decide : 1 ≤ sizeLine), fun p np => ⟨(by decide : 2 ≤ sizeLine), fun tp ntp => ?_⟩⟩
            have f1 := Ex.new (o := .lst [V.int 0]) np
            have f2 := Ex.new (o := .tup [.ref p, .int 1]) ntp
            refine ⟨B, _, _, rfl, rfl, f2 _ _ (f1 _ _ hB8), sz_lt (by rw [List.length_map, BN.lt]; omega), ?_⟩
            have nB : H1 B = none := BN.fD
            have npB : p ≠ B := (ne_of_fresh hB8 np).symm
            have ntB : tp ≠ B := (ne_of_fresh (f1 _ _ hB8) ntp).symm
            have nxB : x ≠ B := fun e0 => by
              rw [e0, BN.top] at hx
              cases hx
            have W9 : BalsW (upd (upd (upd H8 p (.lst [V.int 0])) tp (.tup [.ref p, .int 1])) B (.lst (ts.map V.ref ++ [.ref tp]))) (.ref B) ((bs.take 1).map (fun b => (b.1 ++ [0], b.2)) ++ bs.drop 1 ++ [([0], 1)]) := by
              refine balsW_bent BN6 upd_same (by rw [upd_ne ntB]; exact upd_same) (by rw [upd_ne npB]; exact f2 _ _ upd_same) (fun l b hl' hb' => ?_) (fun a o' ha hne h => ?_)
              · have h3 : 0 < bs.length := (List.getElem?_eq_some_iff.mp hb').1
                have h1 : 0 < ts.length := by rw [BN.lt]; exact h3
                have h9 := hdone 0 l b (by rw [List.length_map, List.length_take]; omega) (by decide) hl' hb'
                rw [upd_ne (balsN_neB BN hl')]
                exact f2 _ _ (f1 _ _ (e78 _ _ h9))
              · rw [upd_ne ha]
                exact f2 _ _ (f1 _ _ (e78 _ _ (hk7 _ _ hne h)))
            have hx9 : (upd (upd (upd H8 p (.lst [V.int 0])) tp (.tup [.ref p, .int 1])) B (.lst (ts.map V.ref ++ [.ref tp]))) x = some (.ins T.c_Ballots dx [("ballots", .ref B)]) := by
              rw [upd_ne nxB]
              exact f2 _ _ (f1 _ _ hx8)
            have eH1 : Ex H1 (upd (upd (upd H8 p (.lst [V.int 0])) tp (.tup [.ref p, .int 1])) B (.lst (ts.map V.ref ++ [.ref tp]))) := fun a o' ha => by
              have n1 : a ≠ B := fun e0 => by
                rw [e0, nB] at ha
                cases ha
              rw [upd_ne n1]
              refine f2 _ _ (f1 _ _ (e78 _ _ (hk7 _ _ (fun e0 => ?_) (e26 _ _ (e2 _ _ ha)))))
              rw [BN.fl a (List.mem_of_getElem? e0)] at ha
              cases ha
            generalize (upd (upd (upd H8 p (.lst [V.int 0])) tp (.tup [.ref p, .int 1])) B (.lst (ts.map V.ref ++ [.ref tp]))) = H9 at W9 hx9 eH1
            have AF2 := ansF_bal T hx9 W9 (fun b hb' => by
              rcases List.mem_append.mp hb' with h | h
              · rcases List.mem_append.mp h with h | h
                · obtain ⟨b1, h1, rfl⟩ := List.mem_map.mp h
                  have := okB_len (List.all_eq_true.mp hok b1 (List.mem_of_mem_take h1))
                  show (b1.1 ++ [0]).length < 60
                  rw [List.length_append, this]
                  show n + 1 < 60
                  omega
                · exact okB_60 hn hok b (List.mem_of_mem_drop h)
              · have : b = ([0], 1) := by simpa using h
                rw [this]
                show 1 < 60
                decide)
            refine AF2.shows _ _ 0 _ n f _ _ _ rfl rfl (Ex.refl _) (TT.mono (e1.trans eH1)) hn fun H10 e10 => ?_
            refine AF2.due _ _ 0 _ n f _ _ rfl rfl e10 (TT.mono ((e1.trans eH1).trans e10)) hn fun H11 e11 => ⟨rfl, _, rfl, itF (by rw [decide_eq_true rfl]; rfl) ?_⟩
            have e1x := (eH1.trans e10).trans e11
            refine .inl ⟨_, rfl, _, n, f, rfl, hn1, hn, HT.rd.mono e1x, hA, fun H12 x2 e12' nx2 hT2 => ?_⟩
            have e1y := e1x.trans e12'
            obtain ⟨dx2, B2, bs2, hx2, W2, ok2, ec2⟩ : ∃ dx B bs, H12 x2 = some (.ins T.c_Ballots dx [("ballots", .ref B)]) ∧ BalsW H12 (.ref B) bs ∧ bs.all (okB n) = true ∧ ∀ i j, i < n → j < n → cnt bs i j = f i j := by
              cases hT2 with
              | bal dx B ts ls bs hx BN ok ec al len => exact ⟨dx, B, bs, hx, BN.w, ok, ec⟩
              | une dx t1 t2 a b hx h1 h2 hab hb' odd =>
                have h5 := hal a b hab hb'
                omega
            refine ⟨x2, dx2, _, rfl, hx2, rfl, _, rfl, x2, dx2, _, _, bs2, n, f, rfl, hx2, W2.rd, okB_60 hn ok2, TT.mono (e1.trans e1y), hn, fun H13 e13 => ⟨_, _, rfl, rfl, _, rfl, itF (by rw [shB_true ok2 ec2]; rfl) ?_⟩⟩
            have e1z := e1y.trans e13
            refine ⟨_, rfl, _, rfl, _, _, (HT.rd.mono e1z).dp, (TT.mono (e1.trans e1z)).dp, shaped_tab _ _, shaped_tab _ _, ?_⟩
            rw [eqv_tab (fun _ _ _ _ => rfl)]
            exact q _ (e1.trans e1z)
        · exact ⟨_, rfl, _, rfl, _, _, (HT.rd.mono (e2.trans e)).dp, (TT.mono (e12.trans e)).dp, shaped_tab _ _, shaped_tab _ _, fin _ (Ex.refl _) e⟩
end
end Hc
namespace Hc
open PySem PySem.Spec PyProof.Rows L2 Evl
section
variable {P : Program} {w : World} {K : PySem.W.Frag} {mg : Str → Option Value} {base : Heap}
def spLaw (K : PySem.W.Frag) : Sp := fun vs H Q _ => ∃ (a : Addr) (ns : List Int) (B : Nat), vs = [.ref a] ∧ SqL K H a (iv ns) ∧ ns.length ≤ 63 ∧ (∀ z ∈ ns, Big B z) ∧ B ≤ 2000000 ∧ 64 ≤ B ∧ ∀ H', Q (.bl true) H'
theorem anti_bend {n a b : Nat} {f : Nat → Nat → Int} (hA : Anti n f) (hab : a ≠ b) (ha : a < n) (hb : b < n) : Anti n (fun i j => if i = b ∧ j = a then (if b = a ∧ a = b then f a b + 1 else f b a) - 1 else if i = a ∧ j = b then f a b + 1 else f i j) := fun i j hi hj => by
  dsimp only
  rw [if_neg (show ¬ (b = a ∧ a = b) by omega)]
  have h0 := hA a b ha hb
  by_cases h1 : i = b ∧ j = a
  · obtain ⟨rfl, rfl⟩ := h1
    rw [if_pos ⟨rfl, rfl⟩, if_neg (by omega), if_pos ⟨rfl, rfl⟩]
    omega
  · rw [if_neg h1]
    by_cases h2 : i = a ∧ j = b
    · obtain ⟨rfl, rfl⟩ := h2
      rw [if_pos ⟨rfl, rfl⟩, if_pos ⟨rfl, rfl⟩]
      omega
    · rw [if_neg h2, if_neg (by omega), if_neg (by omega)]
      exact hA i j hi hj
theorem ok_law (T : Tx K mg) : FnOk P w K mg base CX0 5 T.f_law T.d_law ["_law_script"] (spLaw K) := by
  refine T.F_law.ok sc_law (fun vs H Q E h => ?_) (fun cdv A outer s H vs Q E hr h => ?_)
  · obtain ⟨a, ns, B, rfl, _⟩ := h
    rfl
  · obtain ⟨a, ns, B, rfl, hS, h63, hB, hB2, hB3, q⟩ := h
    refine ⟨_, pss_cons (ps_set (i := 1) sc_law.nd rfl (Or.inl rfl) (pe_callB (sumK K) (by rfl) T.n_sum PyProof.Rows.boot_sum (pa_cons (pe_slice (slLK K) (pv 0) po_none (po_some pe_int)) pa_nil)))
      (pss_cons (ps_set (i := 2) sc_law.nd rfl (Or.inl rfl) (pe_op op_add pe_int (pe_op op_mod (pv 1) pe_int)))
      (Evl.pss_cut (ps_if (pt_cmpR op_eq (pe_op op_mod (pe_op op_fdivW (pv 1) pe_int) pe_int) pe_int (nomark _)) (pss_one (ps_set (i := 2) sc_law.nd rfl (Or.inl rfl) (pe_op op_add pe_int (pe_op op_mod (pe_op op_fdivW (pv 1) pe_int) (pe_ifExp (pt_cmpR op_eq (pe_op op_mod (pe_op op_fdivW (pv 1) pe_int) pe_int) pe_int (nomark _)) pe_int pe_int))))) (pss_nil))
      (pss_cons (ps_set (i := 3) sc_law.nd rfl (Or.inl rfl) (pe_call (ok_law_table T) (hr.mono (by decide)) (by rfl) T.g_law_table T.F_law_table.kp (b_law_table T) .nil pass0 (pa_cons (pv 0) (pa_cons (pv 2) pa_nil))))
      (pss_cons (ps_set (i := 4) sc_law.nd rfl (Or.inl rfl) (pe_call (ok_law_count T) (hr.mono (by decide)) (by rfl) T.g_law_count T.F_law_count.kp (b_law_count T) .nil pass0 (pa_cons (pv 2) (pa_cons (pe_call (ok_law_ballots T) (hr.mono (by decide)) (by rfl) T.g_law_ballots T.F_law_ballots.kp (b_law_ballots T) .nil pass0 (pa_cons (pe_slice (slLK K) (pv 0) po_none (po_some pe_int)) (pa_cons (pv 2) pa_nil))) pa_nil))))
      (pss_cons (ps_setLc (i := 5) (own := [("_law_row", 9)]) rfl sc_law.nd rfl rfl (sw_true rfl rfl rfl (by decide +kernel)) (piL K (pv 4)) (blkOk_by (own := [("_law_row", 9)]) (N := ["_law_script", "_law_whole", "_law_size", "_law_table_here", "_law_made", "_law_bent", "_law_one", "_law_other", "_law_some", "_law_row"]) (sc := defScope s_law) (by decide +kernel)) (fun _ _ _ _ _ => (pg_name (i := 9) sc_law.nd rfl (by first | exact Or.inl rfl | exact Or.inr rfl))) (fun _ _ _ _ _ => pts_nil) (fun _ _ _ _ _ => (pe_callTy (listK K) (by rfl) T.n_list bt_list (pa_cons (pv 9) pa_nil))))
      (pss_cons (ps_par (by rfl) (i := 6) (j := 7) sc_law.nd rfl rfl (by decide) rfl rfl (pa_cons (pe_op op_mod (pe_op op_fdivW (pv 1) pe_int) (pv 2)) (pa_cons (pe_op op_mod (pe_op op_fdivW (pv 1) pe_int) (pv 2)) pa_nil)) (by rfl))
      (Evl.pss_cut (ps_if (pt_cmpR op_ne (pv 6) (pv 7) (nomark _)) (pss_cons (ps_asg (pe_op op_add (pe_ix (ixLK K) (pe_ix (ixLK K) (pv 5) (pv 6) (fun _ _ => rfl)) (pv 7) (fun _ _ => rfl)) pe_int) (pg_sub (pe_ix (ixLK K) (pv 5) (pv 6) (fun _ _ => rfl)) (pv 7) set_list))
      (pss_one (ps_asg (pe_op op_sub (pe_ix (ixLK K) (pe_ix (ixLK K) (pv 5) (pv 7) (fun _ _ => rfl)) (pv 6) (fun _ _ => rfl)) pe_int) (pg_sub (pe_ix (ixLK K) (pv 5) (pv 7) (fun _ _ => rfl)) (pv 6) set_list)))) (pss_nil))
      (pss_cons (ps_for PassesOwn.never rfl (piL K (pe_lst (pa_cons (pv 3) (pa_cons (pv 4) (pa_cons (pv 5) pa_nil))))) (pg_name (i := 8) sc_law.nd rfl (by first | exact Or.inl rfl | exact Or.inr rfl))
        (pss_one (ps_if (pt_not (pt_val (pe_call (ok_law_right T) (hr.mono (by decide)) (by rfl) T.g_law_right T.F_law_right.kp (b_law_right T) .nil pass0 (pa_cons (pv 8) (pa_cons (pe_lst (pa_cons (pv 4) (pa_cons (pe_lc (own := [("_law_row", 9)]) rfl sc_law.nd (piL K (revLK K (pv 8))) (blkOk_by (own := [("_law_row", 9)]) (N := ["_law_script", "_law_whole", "_law_size", "_law_table_here", "_law_made", "_law_bent", "_law_one", "_law_other", "_law_some", "_law_row"]) (sc := defScope s_law) (by decide +kernel)) (fun _ _ _ _ _ => (pg_name (i := 9) sc_law.nd rfl (by first | exact Or.inl rfl | exact Or.inr rfl))) (fun _ _ _ _ _ => pts_nil) (fun _ _ _ _ _ => (revLK K (pv 9)))) pa_nil))) pa_nil))))) (pss_one (ps_ret pe_bl)) (pss_nil))))
      (pss_one (ps_ret (pe_and (pe_callB (isiK K) (by rfl) T.n_isinstance PyProof.Rows.boot_isinstance (pa_cons (pe_call (ok_told T) (hr.mono (by decide)) (by rfl) T.g_told T.F_told.kp (b_told T) .nil pass0 (pa_cons (pe_lst (pa_cons (pe_lst (pa_cons pe_int pa_nil)) pa_nil)) pa_nil)) (pa_cons (pe_glob (v := .ref T.c_Ballots) (by rfl) T.g_Ballots rfl) pa_nil))) (pe_one (pe_callB (isiK K) (by rfl) T.n_isinstance PyProof.Rows.boot_isinstance (pa_cons (pe_call (ok_told T) (hr.mono (by decide)) (by rfl) T.g_told T.F_told.kp (b_told T) .nil pass0 (pa_cons (pe_lst (pa_cons (pe_lst (pa_cons pe_int (pa_cons pe_int (pa_cons pe_int pa_nil)))) (pa_cons (pe_lst (pa_cons (pe_un un_neg pe_int) (pa_cons pe_int (pa_cons pe_int pa_nil)))) (pa_cons (pe_lst (pa_cons (pe_un un_neg pe_int) (pa_cons pe_int (pa_cons pe_int pa_nil)))) pa_nil)))) pa_nil)) (pa_cons (pe_glob (v := .ref T.c_Uneven) (by rfl) T.g_Uneven rfl) pa_nil))))))))))))))), ?_⟩
    refine ⟨.ref a, rfl, 63, rfl, a, iv ns, rfl, hS, fun c1 nc1 => ?_⟩
    have e1 : Ex _ (upd H c1 (.lst (cutV (iv ns) none (some 63)))) := Ex.new nc1
    have ec1 : cutV (iv ns) none (some 63) = (ns.take 63).map V.int := by
      rw [show (63 : Int) = ((63 : Nat) : Int) from rfl, cut_to]
      unfold iv
      rw [List.map_take]
    refine ⟨c1, ns.take 63, rfl, sq_of (by rw [upd_same, ec1]), ?_⟩
    generalize (ns.take 63).sum = wh
    generalize (upd H c1 (.lst (cutV (iv ns) none (some 63)))) = H1 at e1
    have m5 := Int.emod_nonneg wh (show (5 : Int) ≠ 0 by decide)
    have m5' := Int.emod_lt_of_pos wh (show (0 : Int) < 5 by decide)
    refine ⟨_, rfl, _, _, rfl, rfl, (by decide : (0 : Int) < 5), _, _, rfl, rfl, ?_⟩
    refine ⟨fun σ' H' => H1 = H' ∧ ∃ z : Int, 1 ≤ z ∧ z ≤ 20 ∧ σ' = [some (.ref a), some (.int wh), some (.int z), none, none, none, none, none, none, none], ?_, ?_⟩
    · refine ⟨_, rfl, _, _, rfl, rfl, divW_small (by decide) (by decide), _, _, rfl, rfl, (by decide : (0 : Int) < 16), rfl, _, rfl, it2 (fun _ => ?_) (fun _ => ?_)⟩
      · refine ⟨_, rfl, _, _, rfl, rfl, divW_small (by decide) (by decide), _, rfl, _, _, rfl, rfl, divW_small (by decide) (by decide), _, _, rfl, rfl, (by decide : (0 : Int) < 4), rfl, _, rfl, it2 (fun _ => ?_) (fun _ => ?_)⟩
        · have k0 := Int.emod_nonneg (wh / 80) (show (15 : Int) ≠ 0 by decide)
          have k1 := Int.emod_lt_of_pos (wh / 80) (show (0 : Int) < 15 by decide)
          exact ⟨_, _, rfl, rfl, (by decide : (0 : Int) < 15), _, _, rfl, rfl, rfl, _, by omega, by omega, rfl⟩
        · have k0 := Int.emod_nonneg (wh / 80) (show (3 : Int) ≠ 0 by decide)
          have k1 := Int.emod_lt_of_pos (wh / 80) (show (0 : Int) < 3 by decide)
          exact ⟨_, _, rfl, rfl, (by decide : (0 : Int) < 3), _, _, rfl, rfl, rfl, _, by omega, by omega, rfl⟩
      · exact ⟨rfl, _, by omega, by omega, rfl⟩
    rintro _ _ ⟨rfl, z, hz1, hz2, rfl⟩
    obtain ⟨n, rfl⟩ : ∃ n : Nat, z = (n : Int) := ⟨z.toNat, by omega⟩
    have hn1 : 1 ≤ n := by omega
    have hn : n ≤ 20 := by omega
    refine ⟨_, rfl, _, rfl, a, ns, n, B, rfl, ex_l e1 hS, hn, hB, hB2, hB3, fun H2 t1 rs1 f1 e2 T1 hA1 => ?_⟩
    have e12 := e1.trans e2
    refine ⟨_, rfl, .ref a, rfl, 9, rfl, a, iv ns, rfl, ex_l e12 hS, fun c2 nc2 => ?_⟩
    have ec2 : cutV (iv ns) none (some 9) = iv (ns.take 9) := by
      rw [show (9 : Int) = ((9 : Nat) : Int) from rfl, cut_to]
      unfold iv
      rw [List.map_take]
    rw [ec2]
    have e3 := Ex.new (o := .lst (iv (ns.take 9))) nc2
    refine ⟨_, rfl, c2, ns.take 9, n, B, rfl, sq_of upd_same, hn, fun z hz => hB z (List.mem_of_mem_take hz), hB2, fun H4 D xs bs e4 nD hD hP hok hlen => ?_⟩
    have hlt : ∀ b ∈ bs, ∀ k ∈ b.1, k < n := fun b hb => okB_lt (List.all_eq_true.mp hok b hb)
    refine ⟨n, _, bs, rfl, hn, ⟨D, xs, rfl, sq_of hD, hP⟩, hlt, fun H5 t2 rs2 e5 T2 => ?_⟩
    refine ⟨_, rfl, t2, rfl, ⟨_, sq_of T2.top⟩, fun D3 hD3 => ?_⟩
    refine lc_rows (walk_list (K := K) (a := t2) (xs := rs2.map V.ref)) hD3 (by rw [List.length_map, T2.len]; omega) (fun H e => sq_of (e _ _ T2.top)) (fun i => rowV n (cnt bs i)) ?_ ?_
    · rintro i x Ha Ha' hi ea ⟨rfl, hx⟩ Qc hq
      obtain ⟨r, g1, g2, g3, g4⟩ := T2.at_ (i := i) (by rw [List.length_map, T2.len] at hi; exact hi)
      rw [g3] at hx
      cases hx
      exact ⟨rfl, _, rfl, r, _, rfl, .inl (sq_of (ea _ _ g4)), fun l nl => hq l _ nl (Ex.new nl) upd_same⟩
    intro H6 ps e6 hD6 hl6 R6
    have T3 : Tab H5 H6 D3 ps n (cnt bs) := R6.tab hD3 hD6 (by rw [hl6, List.length_map, T2.len])
    have a0 := Int.emod_nonneg (wh / 7) (show (n : Int) ≠ 0 by omega)
    have a1 := Int.emod_lt_of_pos (wh / 7) (show (0 : Int) < (n : Int) by omega)
    have b0 := Int.emod_nonneg (wh / 49) (show (n : Int) ≠ 0 by omega)
    have b1 := Int.emod_lt_of_pos (wh / 49) (show (0 : Int) < (n : Int) by omega)
    obtain ⟨u, hu⟩ : ∃ k : Nat, wh / 7 % (n : Int) = (k : Int) := ⟨(wh / 7 % (n : Int)).toNat, by omega⟩
    obtain ⟨v, hv⟩ : ∃ k : Nat, wh / 49 % (n : Int) = (k : Int) := ⟨(wh / 49 % (n : Int)).toNat, by omega⟩
    have hun : u < n := by omega
    have hvn : v < n := by omega
    refine ⟨_, rfl, _, _, rfl, rfl, divW_small (by decide) (by decide), _, rfl, _, _, rfl, rfl, by omega, _, rfl, _, _, rfl, rfl, divW_small (by decide) (by decide), _, rfl, _, _, rfl, rfl, by omega, ?_⟩
    dsimp only
    rw [hu, hv]
    refine ⟨_, _, rfl, ?_⟩
    refine ⟨fun σ' H' => σ' = [some (.ref a), some (.int wh), some (.int n), some (.ref t1), some (.ref t2), some (.ref D3), some (.int u), some (.int v), none, none] ∧ Ex H5 H' ∧ ∃ f3, Tab H5 H' D3 ps n f3 ∧ Anti n f3, ?_, ?_⟩
    · refine ⟨_, rfl, _, rfl, rfl, _, rfl, it2 (fun h1 => ?_) (fun h1 => ?_)⟩
      · rw [dec_int] at h1
        have huv : u ≠ v := fun e => by
          rw [e, decide_eq_true rfl] at h1
          cases h1
        obtain ⟨r1, g1, m1, x1, c1⟩ := T3.at_ hun
        have T4 := T3.put (b := v) (z := cnt bs u v + 1) g1
        have e7 := fun o => T3.exMut (o := o) e6 m1
        obtain ⟨r2, g2, m2, x2, c2⟩ := T4.at_ hvn
        have T5 := T4.put (b := u) (z := (if v = u ∧ u = v then cnt bs u v + 1 else cnt bs v u) - 1) g2
        refine ⟨_, rfl, _, rfl, D3, _, u, .ref r1, rfl, rfl, sq_of T3.top, atI_nat x1, _, rfl, r1, _, v, .int _, rfl, rfl, sq_of c1, atI_nat (rowV_get hvn), _, _, rfl, rfl, _, rfl, _, rfl, D3, _, u, .ref r1, rfl, rfl, sq_of T3.top, atI_nat x1, _, rfl, r1, _, v, v, rfl, rfl, c1, ixN_nat (by rw [rowV_length]; exact hvn), ?_⟩
        refine ⟨_, rfl, _, rfl, D3, _, v, .ref r2, rfl, rfl, sq_of T4.top, atI_nat x2, _, rfl, r2, _, u, .int _, rfl, rfl, sq_of c2, atI_nat (rowV_get hun), _, _, rfl, rfl, _, rfl, _, rfl, D3, _, v, .ref r2, rfl, rfl, sq_of T4.top, atI_nat x2, _, rfl, r2, _, u, u, rfl, rfl, c2, ixN_nat (by rw [rowV_length]; exact hun), ?_⟩
        exact ⟨rfl, T4.exMut (e7 _) m2, _, T5, anti_bend (anti_cnt n bs) huv hun hvn⟩
      · exact ⟨rfl, e6, _, T3, anti_cnt n bs⟩
    rintro _ H7 ⟨rfl, e7, f3, T3, hA3⟩
    have e27 : Ex H2 H7 := ((e3.trans e4).trans e5).trans e7
    have hall : ∀ w ∈ [V.ref t1, V.ref t2, V.ref D3], ∃ (tw : Addr) (g : Nat → Nat → Int), w = .ref tw ∧ TabR K H7 w n g ∧ Anti n g := fun w hw => by
      rcases List.mem_cons.mp hw with rfl | hw
      · exact ⟨t1, f1, rfl, T1.rd.mono e27, hA1⟩
      · rcases List.mem_cons.mp hw with rfl | hw
        · exact ⟨t2, _, rfl, T2.rd.mono e7, anti_cnt n bs⟩
        · have : w = .ref D3 := by simpa using hw
          rw [this]
          exact ⟨D3, f3, rfl, T3.rd, hA3⟩
    refine ⟨_, rfl, _, rfl, _, rfl, (by decide : 3 ≤ sizeLine), fun L nL => ?_⟩
    have eL := Ex.new (o := .lst [.ref t1, .ref t2, .ref D3]) nL
    refine ⟨L, rfl, ⟨_, sq_of upd_same⟩, for_list (K := K) (a := L) (xs := [.ref t1, .ref t2, .ref D3]) (fun i σ' H' => ∃ y8, σ' = [some (.ref a), some (.int wh), some (.int n), some (.ref t1), some (.ref t2), some (.ref D3), some (.int u), some (.int v), y8, none] ∧ Ex (upd H7 L (.lst [.ref t1, .ref t2, .ref D3])) H')
      ⟨_, rfl, Ex.refl _⟩ (fun i σ' H' _ ⟨_, _, e⟩ => sq_of (e _ _ upd_same)) ?_ ?_⟩
    · rintro i x σ' H' hi ⟨y8, rfl, e⟩
      obtain ⟨tw, g, rfl, TG, hG⟩ := hall x (List.mem_of_getElem? hi)
      have TG1 := TG.mono (eL.trans e)
      obtain ⟨tw', xw, ew, hSw, hlw, hatw⟩ := TG1.at_
      cases ew
      refine ⟨_, rfl, _, rfl, _, rfl, tw, xw, rfl, hSw, fun p1 np1 => ⟨p1, rfl, ⟨_, sq_of upd_same⟩, fun D4 hD4 => ?_⟩⟩
      have ep1 := Ex.new (o := .lst xw.reverse) np1
      refine lc_rows (walk_list (K := K) (a := p1) (xs := xw.reverse)) hD4 (by rw [List.length_reverse]; omega) (fun H e => sq_of (e _ _ upd_same)) (fun i => rowV n (fun j => g (n - 1 - i) (n - 1 - j))) ?_ ?_
      · rintro j x Ha Ha' hj ea ⟨rfl, hx⟩ Qc hq
        rw [List.length_reverse] at hj
        obtain ⟨r, g1, g2⟩ := hatw (n - 1 - j) (by omega)
        rw [List.getElem?_reverse hj, hlw, g1] at hx
        cases hx
        refine ⟨rfl, _, rfl, r, _, rfl, ex_l (ep1.trans ea) g2, fun l nl => hq l _ nl (Ex.new nl) ?_⟩
        rw [upd_same, rowV_reverse]
      intro H8 ps8 e8 hD8 hl8 R8
      have T8 : Tab _ H8 D4 ps8 n (fun i j => g (n - 1 - i) (n - 1 - j)) := R8.tab hD4 hD8 (by rw [hl8, List.length_reverse, hlw])
      refine ⟨(by decide : 2 ≤ sizeLine), fun O nO => ?_⟩
      have eO := Ex.new (o := .lst [.ref t2, .ref D4]) nO
      have e9 := (ep1.trans e8).trans eO
      refine ⟨_, O, _, n, g, rfl, TG1.mono e9, hG, hn1, hn, sq_of upd_same, fun w hw => ?_, fun H10 e10 => ⟨true, rfl, _, rfl, (e.trans e9).trans e10⟩⟩
      rcases List.mem_cons.mp hw with rfl | hw
      · exact ⟨n, _, hn, (T2.rd.mono e7).mono ((eL.trans e).trans e9)⟩
      · have : w = .ref D4 := by simpa using hw
        rw [this]
        exact ⟨n, _, hn, (T8.rd.mono eO)⟩
    · rintro σ' H' ⟨y8, rfl, e⟩
      refine ⟨(by decide : 1 ≤ sizeLine), fun p1 np1 => ⟨(by decide : 1 ≤ sizeLine), fun p2 np2 => ?_⟩⟩
      have f1 := Ex.new (o := .lst [V.int 0]) np1
      have f2 := Ex.new (o := .lst [V.ref p1]) np2
      refine ⟨_, 1, litF [[0]], rfl, by decide, by decide, tabR_lit (rs := [p1]) [[0]] upd_same (by decide) (.cons (f2 _ _ upd_same) .nil), (fun i j hi hj => by
        have h1 : i = 0 := by omega
        have h2 : j = 0 := by omega
        subst h1 h2
        rfl), fun H8 x e8 nx hT => ?_⟩
      have : TyX K H8 (.ref x) (.ref T.c_Ballots) := by
        cases hT with
        | bal dx B ts ls bs hx BN ok ec al len => exact tyx_ins hx T.C_Ballots T.y_Ballots
        | une dx t1 t2 a b hx h1 h2 hab hb odd => omega
      refine ⟨.ref x, .ref T.c_Ballots, _, _, true, rfl, .own _, this, T.k_Ballots_Ballots, true, rfl, ?_⟩
      refine ⟨(by decide : 3 ≤ sizeLine), fun p1 np1 => ⟨_, rfl, (by decide : 3 ≤ sizeLine), fun p2 np2 => ⟨_, rfl, (by decide : 3 ≤ sizeLine), fun p3 np3 => ⟨(by decide : 3 ≤ sizeLine), fun p4 np4 => ?_⟩⟩⟩⟩
      have f1 := Ex.new (o := .lst [V.int 0, V.int 2, V.int 1]) np1
      have f2 := Ex.new (o := .lst [V.int (-2), V.int 0, V.int 0]) np2
      have f3 := Ex.new (o := .lst [V.int (-1), V.int 0, V.int 0]) np3
      have f4 := Ex.new (o := .lst [V.ref p1, V.ref p2, V.ref p3]) np4
      refine ⟨_, 3, litF [[0, 2, 1], [-2, 0, 0], [-1, 0, 0]], rfl, by decide, by decide, tabR_lit (rs := [p1, p2, p3]) [[0, 2, 1], [-2, 0, 0], [-1, 0, 0]] upd_same (by decide) (.cons (f4 _ _ (f3 _ _ (f2 _ _ upd_same))) (.cons (f4 _ _ (f3 _ _ upd_same)) (.cons (f4 _ _ upd_same) .nil))), ?_, fun H9 x e9 nx hT => ?_⟩
      · have : ∀ i j : Fin 3, litF [[0, 2, 1], [-2, 0, 0], [-1, 0, 0]] i j = - litF [[0, 2, 1], [-2, 0, 0], [-1, 0, 0]] j i := by decide
        exact fun i j hi hj => this ⟨i, hi⟩ ⟨j, hj⟩
      have : TyX K H9 (.ref x) (.ref T.c_Uneven) := by
        cases hT with
        | bal dx B ts ls bs hx BN ok ec al len =>
          have := al 0 2 (by decide) (by decide)
          exact absurd this (by decide)
        | une dx t1 t2 a b hx h1 h2 hab hb odd => exact tyx_ins hx T.C_Uneven T.y_Uneven
      exact ⟨.ref x, .ref T.c_Uneven, _, _, true, rfl, .own _, this, T.k_Uneven_Uneven, q _⟩
end
end Hc
namespace Hc
open PySem PySem.Spec PyProof.Rows L2 Evl
theorem tx_of {K : PySem.W.Frag} {h : Heap} {mg : Str → Option Value} (X : K.In h) (G : h.Ns mainGlobals mg)
    {c_Answer : Addr} {c_Ballots : Addr} {c_Uneven : Addr} {c_Unbeaten : Addr} {c_Ring : Addr} {f1 : Addr} {od1 an1 : Option Addr} {sl1 : Array (Option Value)} {oc1 kV1 dc1 pm1 cd1 ct1 : Value} {f2 : Addr} {od2 an2 : Option Addr} {sl2 : Array (Option Value)} {oc2 kV2 dc2 pm2 cd2 ct2 : Value} {f3 : Addr} {od3 an3 : Option Addr} {sl3 : Array (Option Value)} {oc3 kV3 dc3 pm3 cd3 ct3 : Value} {f4 : Addr} {od4 an4 : Option Addr} {sl4 : Array (Option Value)} {oc4 kV4 dc4 pm4 cd4 ct4 : Value} {f5 : Addr} {od5 an5 : Option Addr} {sl5 : Array (Option Value)} {oc5 kV5 dc5 pm5 cd5 ct5 : Value} {f6 : Addr} {od6 an6 : Option Addr} {sl6 : Array (Option Value)} {oc6 kV6 dc6 pm6 cd6 ct6 : Value} {f7 : Addr} {od7 an7 : Option Addr} {sl7 : Array (Option Value)} {oc7 kV7 dc7 pm7 cd7 ct7 : Value} {f8 : Addr} {od8 an8 : Option Addr} {sl8 : Array (Option Value)} {oc8 kV8 dc8 pm8 cd8 ct8 : Value} {f9 : Addr} {od9 an9 : Option Addr} {sl9 : Array (Option Value)} {oc9 kV9 dc9 pm9 cd9 ct9 : Value} {f10 : Addr} {od10 an10 : Option Addr} {sl10 : Array (Option Value)} {oc10 kV10 dc10 pm10 cd10 ct10 : Value} {f11 : Addr} {od11 an11 : Option Addr} {sl11 : Array (Option Value)} {oc11 kV11 dc11 pm11 cd11 ct11 : Value} {f12 : Addr} {od12 an12 : Option Addr} {sl12 : Array (Option Value)} {oc12 kV12 dc12 pm12 cd12 ct12 : Value} {f13 : Addr} {od13 an13 : Option Addr} {sl13 : Array (Option Value)} {oc13 kV13 dc13 pm13 cd13 ct13 : Value} {f14 : Addr} {od14 an14 : Option Addr} {sl14 : Array (Option Value)} {oc14 kV14 dc14 pm14 cd14 ct14 : Value} {f15 : Addr} {od15 an15 : Option Addr} {sl15 : Array (Option Value)} {oc15 kV15 dc15 pm15 cd15 ct15 : Value} {f16 : Addr} {od16 an16 : Option Addr} {sl16 : Array (Option Value)} {oc16 kV16 dc16 pm16 cd16 ct16 : Value} {f17 : Addr} {od17 an17 : Option Addr} {sl17 : Array (Option Value)} {oc17 kV17 dc17 pm17 cd17 ct17 : Value} {f18 : Addr} {od18 an18 : Option Addr} {sl18 : Array (Option Value)} {oc18 kV18 dc18 pm18 cd18 ct18 : Value} {f19 : Addr} {od19 an19 : Option Addr} {sl19 : Array (Option Value)} {oc19 kV19 dc19 pm19 cd19 ct19 : Value} {f20 : Addr} {od20 an20 : Option Addr} {sl20 : Array (Option Value)} {oc20 kV20 dc20 pm20 cd20 ct20 : Value} {f21 : Addr} {od21 an21 : Option Addr} {sl21 : Array (Option Value)} {oc21 kV21 dc21 pm21 cd21 ct21 : Value} {f22 : Addr} {od22 an22 : Option Addr} {sl22 : Array (Option Value)} {oc22 kV22 dc22 pm22 cd22 ct22 : Value} {f23 : Addr} {od23 an23 : Option Addr} {sl23 : Array (Option Value)} {oc23 kV23 dc23 pm23 cd23 ct23 : Value} {f24 : Addr} {od24 an24 : Option Addr} {sl24 : Array (Option Value)} {oc24 kV24 dc24 pm24 cd24 ct24 : Value} {t_MOST : Nat}
    (q_Answer : PySem.W.nsIn K mainGlobals "Answer" = some (some (.ref c_Answer)))
    (q_Ballots : PySem.W.nsIn K mainGlobals "Ballots" = some (some (.ref c_Ballots)))
    (q_Uneven : PySem.W.nsIn K mainGlobals "Uneven" = some (some (.ref c_Uneven)))
    (q_Unbeaten : PySem.W.nsIn K mainGlobals "Unbeaten" = some (some (.ref c_Unbeaten)))
    (q_Ring : PySem.W.nsIn K mainGlobals "Ring" = some (some (.ref c_Ring)))
    (a1 : PySem.W.nsIn K mainGlobals "is_number" = some (some (.ref f1)))
    (l1 : K.lookup f1 = some ⟨oc1, od1, .func (PySem.W.fnOf "is_number" "is_number" (defArgs s_is_number) (defBody s_is_number) (defScope s_is_number) .none kV1 dc1 pm1 an1 cd1 ct1), sl1⟩)
    (e1 : PySem.W.codeIn K cd1 "is_number" = true)
    (k1 : PySem.W.keepIn K (.ref f1) = true)
    (a2 : PySem.W.nsIn K mainGlobals "are_ballots" = some (some (.ref f2)))
    (l2 : K.lookup f2 = some ⟨oc2, od2, .func (PySem.W.fnOf "are_ballots" "are_ballots" (defArgs s_are_ballots) (defBody s_are_ballots) (defScope s_are_ballots) .none kV2 dc2 pm2 an2 cd2 ct2), sl2⟩)
    (e2 : PySem.W.codeIn K cd2 "are_ballots" = true)
    (k2 : PySem.W.keepIn K (.ref f2) = true)
    (a3 : PySem.W.nsIn K mainGlobals "asked_table" = some (some (.ref f3)))
    (l3 : K.lookup f3 = some ⟨oc3, od3, .func (PySem.W.fnOf "asked_table" "asked_table" (defArgs s_asked_table) (defBody s_asked_table) (defScope s_asked_table) .none kV3 dc3 pm3 an3 cd3 ct3), sl3⟩)
    (e3 : PySem.W.codeIn K cd3 "asked_table" = true)
    (k3 : PySem.W.keepIn K (.ref f3) = true)
    (a4 : PySem.W.nsIn K mainGlobals "count_of" = some (some (.ref f4)))
    (l4 : K.lookup f4 = some ⟨oc4, od4, .func (PySem.W.fnOf "count_of" "count_of" (defArgs s_count_of) (defBody s_count_of) (defScope s_count_of) .none kV4 dc4 pm4 an4 cd4 ct4), sl4⟩)
    (e4 : PySem.W.codeIn K cd4 "count_of" = true)
    (k4 : PySem.W.keepIn K (.ref f4) = true)
    (a5 : PySem.W.nsIn K mainGlobals "is_pair" = some (some (.ref f5)))
    (l5 : K.lookup f5 = some ⟨oc5, od5, .func (PySem.W.fnOf "is_pair" "is_pair" (defArgs s_is_pair) (defBody s_is_pair) (defScope s_is_pair) .none kV5 dc5 pm5 an5 cd5 ct5), sl5⟩)
    (e5 : PySem.W.codeIn K cd5 "is_pair" = true)
    (k5 : PySem.W.keepIn K (.ref f5) = true)
    (a6 : PySem.W.findIn K (.ref c_Ballots) "__init__" = some (some (.ref f6)))
    (i6 : PySem.W.isFn K (.ref f6) = true)
    (l6 : K.lookup f6 = some ⟨oc6, od6, .func (PySem.W.fnOf "__init__" "Ballots.__init__" (defArgs s_Ballots__init) (defBody s_Ballots__init) (defScope s_Ballots__init) .none kV6 dc6 pm6 an6 cd6 ct6), sl6⟩)
    (e6 : PySem.W.codeIn K cd6 "Ballots.__init__" = true)
    (k6 : PySem.W.keepIn K (.ref f6) = true)
    (a7 : PySem.W.findIn K (.ref c_Ballots) "shows" = some (some (.ref f7)))
    (i7 : PySem.W.isFn K (.ref f7) = true)
    (l7 : K.lookup f7 = some ⟨oc7, od7, .func (PySem.W.fnOf "shows" "Ballots.shows" (defArgs s_Ballots_shows) (defBody s_Ballots_shows) (defScope s_Ballots_shows) .none kV7 dc7 pm7 an7 cd7 ct7), sl7⟩)
    (e7 : PySem.W.codeIn K cd7 "Ballots.shows" = true)
    (k7 : PySem.W.keepIn K (.ref f7) = true)
    (a8 : PySem.W.findIn K (.ref c_Uneven) "__init__" = some (some (.ref f8)))
    (i8 : PySem.W.isFn K (.ref f8) = true)
    (l8 : K.lookup f8 = some ⟨oc8, od8, .func (PySem.W.fnOf "__init__" "Uneven.__init__" (defArgs s_Uneven__init) (defBody s_Uneven__init) (defScope s_Uneven__init) .none kV8 dc8 pm8 an8 cd8 ct8), sl8⟩)
    (e8 : PySem.W.codeIn K cd8 "Uneven.__init__" = true)
    (k8 : PySem.W.keepIn K (.ref f8) = true)
    (a9 : PySem.W.findIn K (.ref c_Uneven) "shows" = some (some (.ref f9)))
    (i9 : PySem.W.isFn K (.ref f9) = true)
    (l9 : K.lookup f9 = some ⟨oc9, od9, .func (PySem.W.fnOf "shows" "Uneven.shows" (defArgs s_Uneven_shows) (defBody s_Uneven_shows) (defScope s_Uneven_shows) .none kV9 dc9 pm9 an9 cd9 ct9), sl9⟩)
    (e9 : PySem.W.codeIn K cd9 "Uneven.shows" = true)
    (k9 : PySem.W.keepIn K (.ref f9) = true)
    (a10 : PySem.W.findIn K (.ref c_Unbeaten) "__init__" = some (some (.ref f10)))
    (i10 : PySem.W.isFn K (.ref f10) = true)
    (l10 : K.lookup f10 = some ⟨oc10, od10, .func (PySem.W.fnOf "__init__" "Unbeaten.__init__" (defArgs s_Unbeaten__init) (defBody s_Unbeaten__init) (defScope s_Unbeaten__init) .none kV10 dc10 pm10 an10 cd10 ct10), sl10⟩)
    (e10 : PySem.W.codeIn K cd10 "Unbeaten.__init__" = true)
    (k10 : PySem.W.keepIn K (.ref f10) = true)
    (a11 : PySem.W.findIn K (.ref c_Unbeaten) "shows" = some (some (.ref f11)))
    (i11 : PySem.W.isFn K (.ref f11) = true)
    (l11 : K.lookup f11 = some ⟨oc11, od11, .func (PySem.W.fnOf "shows" "Unbeaten.shows" (defArgs s_Unbeaten_shows) (defBody s_Unbeaten_shows) (defScope s_Unbeaten_shows) .none kV11 dc11 pm11 an11 cd11 ct11), sl11⟩)
    (e11 : PySem.W.codeIn K cd11 "Unbeaten.shows" = true)
    (k11 : PySem.W.keepIn K (.ref f11) = true)
    (a12 : PySem.W.findIn K (.ref c_Ring) "__init__" = some (some (.ref f12)))
    (i12 : PySem.W.isFn K (.ref f12) = true)
    (l12 : K.lookup f12 = some ⟨oc12, od12, .func (PySem.W.fnOf "__init__" "Ring.__init__" (defArgs s_Ring__init) (defBody s_Ring__init) (defScope s_Ring__init) .none kV12 dc12 pm12 an12 cd12 ct12), sl12⟩)
    (e12 : PySem.W.codeIn K cd12 "Ring.__init__" = true)
    (k12 : PySem.W.keepIn K (.ref f12) = true)
    (a13 : PySem.W.findIn K (.ref c_Ring) "shows" = some (some (.ref f13)))
    (i13 : PySem.W.isFn K (.ref f13) = true)
    (l13 : K.lookup f13 = some ⟨oc13, od13, .func (PySem.W.fnOf "shows" "Ring.shows" (defArgs s_Ring_shows) (defBody s_Ring_shows) (defScope s_Ring_shows) .none kV13 dc13 pm13 an13 cd13 ct13), sl13⟩)
    (e13 : PySem.W.codeIn K cd13 "Ring.shows" = true)
    (k13 : PySem.W.keepIn K (.ref f13) = true)
    (a14 : PySem.W.nsIn K mainGlobals "two_ballots" = some (some (.ref f14)))
    (l14 : K.lookup f14 = some ⟨oc14, od14, .func (PySem.W.fnOf "two_ballots" "two_ballots" (defArgs s_two_ballots) (defBody s_two_ballots) (defScope s_two_ballots) .none kV14 dc14 pm14 an14 cd14 ct14), sl14⟩)
    (e14 : PySem.W.codeIn K cd14 "two_ballots" = true)
    (k14 : PySem.W.keepIn K (.ref f14) = true)
    (a15 : PySem.W.nsIn K mainGlobals "told" = some (some (.ref f15)))
    (l15 : K.lookup f15 = some ⟨oc15, od15, .func (PySem.W.fnOf "told" "told" (defArgs s_told) (defBody s_told) (defScope s_told) .none kV15 dc15 pm15 an15 cd15 ct15), sl15⟩)
    (e15 : PySem.W.codeIn K cd15 "told" = true)
    (k15 : PySem.W.keepIn K (.ref f15) = true)
    (a16 : PySem.W.nsIn K mainGlobals "_law_number" = some (some (.ref f16)))
    (l16 : K.lookup f16 = some ⟨oc16, od16, .func (PySem.W.fnOf "_law_number" "_law_number" (defArgs s_law_number) (defBody s_law_number) (defScope s_law_number) .none kV16 dc16 pm16 an16 cd16 ct16), sl16⟩)
    (e16 : PySem.W.codeIn K cd16 "_law_number" = true)
    (k16 : PySem.W.keepIn K (.ref f16) = true)
    (a17 : PySem.W.nsIn K mainGlobals "_law_table" = some (some (.ref f17)))
    (l17 : K.lookup f17 = some ⟨oc17, od17, .func (PySem.W.fnOf "_law_table" "_law_table" (defArgs s_law_table) (defBody s_law_table) (defScope s_law_table) .none kV17 dc17 pm17 an17 cd17 ct17), sl17⟩)
    (e17 : PySem.W.codeIn K cd17 "_law_table" = true)
    (k17 : PySem.W.keepIn K (.ref f17) = true)
    (a18 : PySem.W.nsIn K mainGlobals "_law_ballots" = some (some (.ref f18)))
    (l18 : K.lookup f18 = some ⟨oc18, od18, .func (PySem.W.fnOf "_law_ballots" "_law_ballots" (defArgs s_law_ballots) (defBody s_law_ballots) (defScope s_law_ballots) .none kV18 dc18 pm18 an18 cd18 ct18), sl18⟩)
    (e18 : PySem.W.codeIn K cd18 "_law_ballots" = true)
    (k18 : PySem.W.keepIn K (.ref f18) = true)
    (a19 : PySem.W.nsIn K mainGlobals "_law_count" = some (some (.ref f19)))
    (l19 : K.lookup f19 = some ⟨oc19, od19, .func (PySem.W.fnOf "_law_count" "_law_count" (defArgs s_law_count) (defBody s_law_count) (defScope s_law_count) .none kV19 dc19 pm19 an19 cd19 ct19), sl19⟩)
    (e19 : PySem.W.codeIn K cd19 "_law_count" = true)
    (k19 : PySem.W.keepIn K (.ref f19) = true)
    (a20 : PySem.W.nsIn K mainGlobals "_law_are_ballots" = some (some (.ref f20)))
    (l20 : K.lookup f20 = some ⟨oc20, od20, .func (PySem.W.fnOf "_law_are_ballots" "_law_are_ballots" (defArgs s_law_are_ballots) (defBody s_law_are_ballots) (defScope s_law_are_ballots) .none kV20 dc20 pm20 an20 cd20 ct20), sl20⟩)
    (e20 : PySem.W.codeIn K cd20 "_law_are_ballots" = true)
    (k20 : PySem.W.keepIn K (.ref f20) = true)
    (a21 : PySem.W.nsIn K mainGlobals "_law_pair" = some (some (.ref f21)))
    (l21 : K.lookup f21 = some ⟨oc21, od21, .func (PySem.W.fnOf "_law_pair" "_law_pair" (defArgs s_law_pair) (defBody s_law_pair) (defScope s_law_pair) .none kV21 dc21 pm21 an21 cd21 ct21), sl21⟩)
    (e21 : PySem.W.codeIn K cd21 "_law_pair" = true)
    (k21 : PySem.W.keepIn K (.ref f21) = true)
    (a22 : PySem.W.nsIn K mainGlobals "_law_due" = some (some (.ref f22)))
    (l22 : K.lookup f22 = some ⟨oc22, od22, .func (PySem.W.fnOf "_law_due" "_law_due" (defArgs s_law_due) (defBody s_law_due) (defScope s_law_due) .none kV22 dc22 pm22 an22 cd22 ct22), sl22⟩)
    (e22 : PySem.W.codeIn K cd22 "_law_due" = true)
    (k22 : PySem.W.keepIn K (.ref f22) = true)
    (a23 : PySem.W.nsIn K mainGlobals "_law_right" = some (some (.ref f23)))
    (l23 : K.lookup f23 = some ⟨oc23, od23, .func (PySem.W.fnOf "_law_right" "_law_right" (defArgs s_law_right) (defBody s_law_right) (defScope s_law_right) .none kV23 dc23 pm23 an23 cd23 ct23), sl23⟩)
    (e23 : PySem.W.codeIn K cd23 "_law_right" = true)
    (k23 : PySem.W.keepIn K (.ref f23) = true)
    (a24 : PySem.W.nsIn K mainGlobals "law" = some (some (.ref f24)))
    (l24 : K.lookup f24 = some ⟨oc24, od24, .func (PySem.W.fnOf "law" "law" (defArgs s_law) (defBody s_law) (defScope s_law) .none kV24 dc24 pm24 an24 cd24 ct24), sl24⟩)
    (e24 : PySem.W.codeIn K cd24 "law" = true)
    (k24 : PySem.W.keepIn K (.ref f24) = true)
    (qhn : PySem.W.specialIn K (.builtin "object.__class__") "__get__" = some (some (.builtin "getset_descriptor.__get__")))
    (qht : PySem.W.takesIn K (.builtin "object.__class__") = some true)
    (pg_Ballots : PySem.W.plainGet K c_Ballots Str.empty = true)
    (hd_Ballots : PySem.W.hasDictIn K c_Ballots = true)
    (po_Ballots : PySem.W.plainOver K c_Ballots = true)
    (sa_Ballots : PySem.W.findIn K (.ref c_Ballots) "__setattr__" = some (some (.builtin "object.__setattr__")))
    (ha_Ballots : PySem.W.findIn K (.ref c_Ballots) "__class__" = some (some (.builtin "object.__class__")))
    (hm_Ballots : PySem.W.mroIn K c_Ballots (.type "object") = some true)
    (mk_Ballots : PySem.W.makesIn K c_Ballots = true)
    (kc_Ballots : PySem.W.keepIn K (.ref c_Ballots) = true)
    (n_Ballots_ballots : PySem.W.findIn K (.ref c_Ballots) "ballots" = some none)
    (k_Ballots_Answer : PySem.W.kitOne K (.ref c_Ballots) (.ref c_Answer) = some true)
    (k_Ballots_Ballots : PySem.W.kitOne K (.ref c_Ballots) (.ref c_Ballots) = some true)
    (k_Ballots_Uneven : PySem.W.kitOne K (.ref c_Ballots) (.ref c_Uneven) = some false)
    (k_Ballots_Unbeaten : PySem.W.kitOne K (.ref c_Ballots) (.ref c_Unbeaten) = some false)
    (k_Ballots_Ring : PySem.W.kitOne K (.ref c_Ballots) (.ref c_Ring) = some false)
    (pg_Uneven : PySem.W.plainGet K c_Uneven Str.empty = true)
    (hd_Uneven : PySem.W.hasDictIn K c_Uneven = true)
    (po_Uneven : PySem.W.plainOver K c_Uneven = true)
    (sa_Uneven : PySem.W.findIn K (.ref c_Uneven) "__setattr__" = some (some (.builtin "object.__setattr__")))
    (ha_Uneven : PySem.W.findIn K (.ref c_Uneven) "__class__" = some (some (.builtin "object.__class__")))
    (hm_Uneven : PySem.W.mroIn K c_Uneven (.type "object") = some true)
    (mk_Uneven : PySem.W.makesIn K c_Uneven = true)
    (kc_Uneven : PySem.W.keepIn K (.ref c_Uneven) = true)
    (n_Uneven_one : PySem.W.findIn K (.ref c_Uneven) "one" = some none)
    (n_Uneven_other : PySem.W.findIn K (.ref c_Uneven) "other" = some none)
    (k_Uneven_Answer : PySem.W.kitOne K (.ref c_Uneven) (.ref c_Answer) = some true)
    (k_Uneven_Ballots : PySem.W.kitOne K (.ref c_Uneven) (.ref c_Ballots) = some false)
    (k_Uneven_Uneven : PySem.W.kitOne K (.ref c_Uneven) (.ref c_Uneven) = some true)
    (k_Uneven_Unbeaten : PySem.W.kitOne K (.ref c_Uneven) (.ref c_Unbeaten) = some false)
    (k_Uneven_Ring : PySem.W.kitOne K (.ref c_Uneven) (.ref c_Ring) = some false)
    (pg_Unbeaten : PySem.W.plainGet K c_Unbeaten Str.empty = true)
    (hd_Unbeaten : PySem.W.hasDictIn K c_Unbeaten = true)
    (po_Unbeaten : PySem.W.plainOver K c_Unbeaten = true)
    (sa_Unbeaten : PySem.W.findIn K (.ref c_Unbeaten) "__setattr__" = some (some (.builtin "object.__setattr__")))
    (ha_Unbeaten : PySem.W.findIn K (.ref c_Unbeaten) "__class__" = some (some (.builtin "object.__class__")))
    (hm_Unbeaten : PySem.W.mroIn K c_Unbeaten (.type "object") = some true)
    (mk_Unbeaten : PySem.W.makesIn K c_Unbeaten = true)
    (kc_Unbeaten : PySem.W.keepIn K (.ref c_Unbeaten) = true)
    (n_Unbeaten_who : PySem.W.findIn K (.ref c_Unbeaten) "who" = some none)
    (k_Unbeaten_Answer : PySem.W.kitOne K (.ref c_Unbeaten) (.ref c_Answer) = some true)
    (k_Unbeaten_Ballots : PySem.W.kitOne K (.ref c_Unbeaten) (.ref c_Ballots) = some false)
    (k_Unbeaten_Uneven : PySem.W.kitOne K (.ref c_Unbeaten) (.ref c_Uneven) = some false)
    (k_Unbeaten_Unbeaten : PySem.W.kitOne K (.ref c_Unbeaten) (.ref c_Unbeaten) = some true)
    (k_Unbeaten_Ring : PySem.W.kitOne K (.ref c_Unbeaten) (.ref c_Ring) = some false)
    (pg_Ring : PySem.W.plainGet K c_Ring Str.empty = true)
    (hd_Ring : PySem.W.hasDictIn K c_Ring = true)
    (po_Ring : PySem.W.plainOver K c_Ring = true)
    (sa_Ring : PySem.W.findIn K (.ref c_Ring) "__setattr__" = some (some (.builtin "object.__setattr__")))
    (ha_Ring : PySem.W.findIn K (.ref c_Ring) "__class__" = some (some (.builtin "object.__class__")))
    (hm_Ring : PySem.W.mroIn K c_Ring (.type "object") = some true)
    (mk_Ring : PySem.W.makesIn K c_Ring = true)
    (kc_Ring : PySem.W.keepIn K (.ref c_Ring) = true)
    (n_Ring_way : PySem.W.findIn K (.ref c_Ring) "way" = some none)
    (k_Ring_Answer : PySem.W.kitOne K (.ref c_Ring) (.ref c_Answer) = some true)
    (k_Ring_Ballots : PySem.W.kitOne K (.ref c_Ring) (.ref c_Ballots) = some false)
    (k_Ring_Uneven : PySem.W.kitOne K (.ref c_Ring) (.ref c_Uneven) = some false)
    (k_Ring_Unbeaten : PySem.W.kitOne K (.ref c_Ring) (.ref c_Unbeaten) = some false)
    (k_Ring_Ring : PySem.W.kitOne K (.ref c_Ring) (.ref c_Ring) = some true)
    (a_MOST : PySem.W.nsIn K mainGlobals "MOST" = some (some (.int 20 t_MOST)))
    (z_all : PySem.W.nsIn K mainGlobals "all" = some none)
    (z_any : PySem.W.nsIn K mainGlobals "any" = some none)
    (z_bool : PySem.W.nsIn K mainGlobals "bool" = some none)
    (z_enumerate : PySem.W.nsIn K mainGlobals "enumerate" = some none)
    (z_int : PySem.W.nsIn K mainGlobals "int" = some none)
    (z_isinstance : PySem.W.nsIn K mainGlobals "isinstance" = some none)
    (z_len : PySem.W.nsIn K mainGlobals "len" = some none)
    (z_list : PySem.W.nsIn K mainGlobals "list" = some none)
    (z_max : PySem.W.nsIn K mainGlobals "max" = some none)
    (z_min : PySem.W.nsIn K mainGlobals "min" = some none)
    (z_range : PySem.W.nsIn K mainGlobals "range" = some none)
    (z_set : PySem.W.nsIn K mainGlobals "set" = some none)
    (z_sorted : PySem.W.nsIn K mainGlobals "sorted" = some none)
    (z_sum : PySem.W.nsIn K mainGlobals "sum" = some none)
    (z_tuple : PySem.W.nsIn K mainGlobals "tuple" = some none) :
    ∃ T : Tx K mg, T.d_law = PySem.W.fnOf "law" "law" (defArgs s_law) (defBody s_law) (defScope s_law) .none kV24 dc24 pm24 an24 cd24 ct24 :=
  ⟨{ c_Answer := c_Answer,
      g_Answer := PySem.W.mg_of X G q_Answer,
      c_Ballots := c_Ballots,
      g_Ballots := PySem.W.mg_of X G q_Ballots,
      c_Uneven := c_Uneven,
      g_Uneven := PySem.W.mg_of X G q_Uneven,
      c_Unbeaten := c_Unbeaten,
      g_Unbeaten := PySem.W.mg_of X G q_Unbeaten,
      c_Ring := c_Ring,
      g_Ring := PySem.W.mg_of X G q_Ring,
      f_is_number := f1,
      d_is_number := _,
      F_is_number := fun_mk (st := s_is_number) l1 e1 k1,
      g_is_number := PySem.W.mg_of X G a1,
      f_are_ballots := f2,
      d_are_ballots := _,
      F_are_ballots := fun_mk (st := s_are_ballots) l2 e2 k2,
      g_are_ballots := PySem.W.mg_of X G a2,
      f_asked_table := f3,
      d_asked_table := _,
      F_asked_table := fun_mk (st := s_asked_table) l3 e3 k3,
      g_asked_table := PySem.W.mg_of X G a3,
      f_count_of := f4,
      d_count_of := _,
      F_count_of := fun_mk (st := s_count_of) l4 e4 k4,
      g_count_of := PySem.W.mg_of X G a4,
      f_is_pair := f5,
      d_is_pair := _,
      F_is_pair := fun_mk (st := s_is_pair) l5 e5 k5,
      g_is_pair := PySem.W.mg_of X G a5,
      f_Ballots__init := f6,
      d_Ballots__init := _,
      F_Ballots__init := fun_mk (st := s_Ballots__init) l6 e6 k6,
      f_Ballots_shows := f7,
      d_Ballots_shows := _,
      F_Ballots_shows := fun_mk (st := s_Ballots_shows) l7 e7 k7,
      f_Uneven__init := f8,
      d_Uneven__init := _,
      F_Uneven__init := fun_mk (st := s_Uneven__init) l8 e8 k8,
      f_Uneven_shows := f9,
      d_Uneven_shows := _,
      F_Uneven_shows := fun_mk (st := s_Uneven_shows) l9 e9 k9,
      f_Unbeaten__init := f10,
      d_Unbeaten__init := _,
      F_Unbeaten__init := fun_mk (st := s_Unbeaten__init) l10 e10 k10,
      f_Unbeaten_shows := f11,
      d_Unbeaten_shows := _,
      F_Unbeaten_shows := fun_mk (st := s_Unbeaten_shows) l11 e11 k11,
      f_Ring__init := f12,
      d_Ring__init := _,
      F_Ring__init := fun_mk (st := s_Ring__init) l12 e12 k12,
      f_Ring_shows := f13,
      d_Ring_shows := _,
      F_Ring_shows := fun_mk (st := s_Ring_shows) l13 e13 k13,
      f_two_ballots := f14,
      d_two_ballots := _,
      F_two_ballots := fun_mk (st := s_two_ballots) l14 e14 k14,
      g_two_ballots := PySem.W.mg_of X G a14,
      f_told := f15,
      d_told := _,
      F_told := fun_mk (st := s_told) l15 e15 k15,
      g_told := PySem.W.mg_of X G a15,
      f_law_number := f16,
      d_law_number := _,
      F_law_number := fun_mk (st := s_law_number) l16 e16 k16,
      g_law_number := PySem.W.mg_of X G a16,
      f_law_table := f17,
      d_law_table := _,
      F_law_table := fun_mk (st := s_law_table) l17 e17 k17,
      g_law_table := PySem.W.mg_of X G a17,
      f_law_ballots := f18,
      d_law_ballots := _,
      F_law_ballots := fun_mk (st := s_law_ballots) l18 e18 k18,
      g_law_ballots := PySem.W.mg_of X G a18,
      f_law_count := f19,
      d_law_count := _,
      F_law_count := fun_mk (st := s_law_count) l19 e19 k19,
      g_law_count := PySem.W.mg_of X G a19,
      f_law_are_ballots := f20,
      d_law_are_ballots := _,
      F_law_are_ballots := fun_mk (st := s_law_are_ballots) l20 e20 k20,
      g_law_are_ballots := PySem.W.mg_of X G a20,
      f_law_pair := f21,
      d_law_pair := _,
      F_law_pair := fun_mk (st := s_law_pair) l21 e21 k21,
      g_law_pair := PySem.W.mg_of X G a21,
      f_law_due := f22,
      d_law_due := _,
      F_law_due := fun_mk (st := s_law_due) l22 e22 k22,
      g_law_due := PySem.W.mg_of X G a22,
      f_law_right := f23,
      d_law_right := _,
      F_law_right := fun_mk (st := s_law_right) l23 e23 k23,
      g_law_right := PySem.W.mg_of X G a23,
      f_law := f24,
      d_law := _,
      F_law := fun_mk (st := s_law) l24 e24 k24,
      g_law := PySem.W.mg_of X G a24,
      C_Ballots := ⟨pg_Ballots, hd_Ballots, po_Ballots, sa_Ballots⟩,
      y_Ballots := fun _ _ _ _ e => .base (.ins e ⟨pg_Ballots, hd_Ballots, po_Ballots, sa_Ballots⟩ ha_Ballots qhn qht hm_Ballots),
      M_Ballots := ⟨mk_Ballots, a6, i6, kc_Ballots⟩,
      S_Ballots := ⟨a7, i7, k7⟩,
      a_Ballots_ballots := n_Ballots_ballots,
      k_Ballots_Answer := k_Ballots_Answer,
      k_Ballots_Ballots := k_Ballots_Ballots,
      k_Ballots_Uneven := k_Ballots_Uneven,
      k_Ballots_Unbeaten := k_Ballots_Unbeaten,
      k_Ballots_Ring := k_Ballots_Ring,
      C_Uneven := ⟨pg_Uneven, hd_Uneven, po_Uneven, sa_Uneven⟩,
      y_Uneven := fun _ _ _ _ e => .base (.ins e ⟨pg_Uneven, hd_Uneven, po_Uneven, sa_Uneven⟩ ha_Uneven qhn qht hm_Uneven),
      M_Uneven := ⟨mk_Uneven, a8, i8, kc_Uneven⟩,
      S_Uneven := ⟨a9, i9, k9⟩,
      a_Uneven_one := n_Uneven_one,
      a_Uneven_other := n_Uneven_other,
      k_Uneven_Answer := k_Uneven_Answer,
      k_Uneven_Ballots := k_Uneven_Ballots,
      k_Uneven_Uneven := k_Uneven_Uneven,
      k_Uneven_Unbeaten := k_Uneven_Unbeaten,
      k_Uneven_Ring := k_Uneven_Ring,
      C_Unbeaten := ⟨pg_Unbeaten, hd_Unbeaten, po_Unbeaten, sa_Unbeaten⟩,
      y_Unbeaten := fun _ _ _ _ e => .base (.ins e ⟨pg_Unbeaten, hd_Unbeaten, po_Unbeaten, sa_Unbeaten⟩ ha_Unbeaten qhn qht hm_Unbeaten),
      M_Unbeaten := ⟨mk_Unbeaten, a10, i10, kc_Unbeaten⟩,
      S_Unbeaten := ⟨a11, i11, k11⟩,
      a_Unbeaten_who := n_Unbeaten_who,
      k_Unbeaten_Answer := k_Unbeaten_Answer,
      k_Unbeaten_Ballots := k_Unbeaten_Ballots,
      k_Unbeaten_Uneven := k_Unbeaten_Uneven,
      k_Unbeaten_Unbeaten := k_Unbeaten_Unbeaten,
      k_Unbeaten_Ring := k_Unbeaten_Ring,
      C_Ring := ⟨pg_Ring, hd_Ring, po_Ring, sa_Ring⟩,
      y_Ring := fun _ _ _ _ e => .base (.ins e ⟨pg_Ring, hd_Ring, po_Ring, sa_Ring⟩ ha_Ring qhn qht hm_Ring),
      M_Ring := ⟨mk_Ring, a12, i12, kc_Ring⟩,
      S_Ring := ⟨a13, i13, k13⟩,
      a_Ring_way := n_Ring_way,
      k_Ring_Answer := k_Ring_Answer,
      k_Ring_Ballots := k_Ring_Ballots,
      k_Ring_Uneven := k_Ring_Uneven,
      k_Ring_Unbeaten := k_Ring_Unbeaten,
      k_Ring_Ring := k_Ring_Ring,
      g_MOST := ⟨t_MOST, PySem.W.mg_of X G a_MOST⟩,
      n_all := PySem.W.mg_none_of X G z_all,
      n_any := PySem.W.mg_none_of X G z_any,
      n_bool := PySem.W.mg_none_of X G z_bool,
      n_enumerate := PySem.W.mg_none_of X G z_enumerate,
      n_int := PySem.W.mg_none_of X G z_int,
      n_isinstance := PySem.W.mg_none_of X G z_isinstance,
      n_len := PySem.W.mg_none_of X G z_len,
      n_list := PySem.W.mg_none_of X G z_list,
      n_max := PySem.W.mg_none_of X G z_max,
      n_min := PySem.W.mg_none_of X G z_min,
      n_range := PySem.W.mg_none_of X G z_range,
      n_set := PySem.W.mg_none_of X G z_set,
      n_sorted := PySem.W.mg_none_of X G z_sorted,
      n_sum := PySem.W.mg_none_of X G z_sum,
      n_tuple := PySem.W.mg_none_of X G z_tuple }, rfl⟩
theorem law_of {l : PySem.W.OpenLaw} {w : World} {K : PySem.W.Frag} {mg : Str → Option Value} {fa : Addr} (hfa : mg "law" = some (.ref fa)) {kV dc pm cd ct : Value} {an : Option Addr} (hT : ∃ T : Tx K mg, T.d_law = PySem.W.fnOf "law" "law" (defArgs s_law) (defBody s_law) (defScope s_law) .none kV dc pm an cd ct) :
    ∃ fd : FuncData, (∀ (s : Shared) (v : Value), BindsTo s fd ⟨[v], []⟩ [("_law_script", v)]) ∧ ∀ base : Heap, K.In base → base.Ns mainGlobals mg → FnOk l.prog w K mg base CX0 5 fa fd ["_law_script"] (spLaw K) := by
  obtain ⟨T, e⟩ := hT
  have e2 := hfa.symm.trans T.g_law
  cases e2
  exact ⟨T.d_law, fun s v => by rw [e]; exact .of_eq rfl, fun base _ _ => ok_law T⟩
theorem all_of {l : PySem.W.OpenLaw} {w : World} {K : PySem.W.Frag} {h : Heap} {mg : Str → Option Value} {fa : Addr} (X : K.In h) (G : h.Ns mainGlobals mg) (hfa : mg "law" = some (.ref fa))
    {c_Answer : Addr} {c_Ballots : Addr} {c_Uneven : Addr} {c_Unbeaten : Addr} {c_Ring : Addr} {f1 : Addr} {od1 an1 : Option Addr} {sl1 : Array (Option Value)} {oc1 kV1 dc1 pm1 cd1 ct1 : Value} {f2 : Addr} {od2 an2 : Option Addr} {sl2 : Array (Option Value)} {oc2 kV2 dc2 pm2 cd2 ct2 : Value} {f3 : Addr} {od3 an3 : Option Addr} {sl3 : Array (Option Value)} {oc3 kV3 dc3 pm3 cd3 ct3 : Value} {f4 : Addr} {od4 an4 : Option Addr} {sl4 : Array (Option Value)} {oc4 kV4 dc4 pm4 cd4 ct4 : Value} {f5 : Addr} {od5 an5 : Option Addr} {sl5 : Array (Option Value)} {oc5 kV5 dc5 pm5 cd5 ct5 : Value} {f6 : Addr} {od6 an6 : Option Addr} {sl6 : Array (Option Value)} {oc6 kV6 dc6 pm6 cd6 ct6 : Value} {f7 : Addr} {od7 an7 : Option Addr} {sl7 : Array (Option Value)} {oc7 kV7 dc7 pm7 cd7 ct7 : Value} {f8 : Addr} {od8 an8 : Option Addr} {sl8 : Array (Option Value)} {oc8 kV8 dc8 pm8 cd8 ct8 : Value} {f9 : Addr} {od9 an9 : Option Addr} {sl9 : Array (Option Value)} {oc9 kV9 dc9 pm9 cd9 ct9 : Value} {f10 : Addr} {od10 an10 : Option Addr} {sl10 : Array (Option Value)} {oc10 kV10 dc10 pm10 cd10 ct10 : Value} {f11 : Addr} {od11 an11 : Option Addr} {sl11 : Array (Option Value)} {oc11 kV11 dc11 pm11 cd11 ct11 : Value} {f12 : Addr} {od12 an12 : Option Addr} {sl12 : Array (Option Value)} {oc12 kV12 dc12 pm12 cd12 ct12 : Value} {f13 : Addr} {od13 an13 : Option Addr} {sl13 : Array (Option Value)} {oc13 kV13 dc13 pm13 cd13 ct13 : Value} {f14 : Addr} {od14 an14 : Option Addr} {sl14 : Array (Option Value)} {oc14 kV14 dc14 pm14 cd14 ct14 : Value} {f15 : Addr} {od15 an15 : Option Addr} {sl15 : Array (Option Value)} {oc15 kV15 dc15 pm15 cd15 ct15 : Value} {f16 : Addr} {od16 an16 : Option Addr} {sl16 : Array (Option Value)} {oc16 kV16 dc16 pm16 cd16 ct16 : Value} {f17 : Addr} {od17 an17 : Option Addr} {sl17 : Array (Option Value)} {oc17 kV17 dc17 pm17 cd17 ct17 : Value} {f18 : Addr} {od18 an18 : Option Addr} {sl18 : Array (Option Value)} {oc18 kV18 dc18 pm18 cd18 ct18 : Value} {f19 : Addr} {od19 an19 : Option Addr} {sl19 : Array (Option Value)} {oc19 kV19 dc19 pm19 cd19 ct19 : Value} {f20 : Addr} {od20 an20 : Option Addr} {sl20 : Array (Option Value)} {oc20 kV20 dc20 pm20 cd20 ct20 : Value} {f21 : Addr} {od21 an21 : Option Addr} {sl21 : Array (Option Value)} {oc21 kV21 dc21 pm21 cd21 ct21 : Value} {f22 : Addr} {od22 an22 : Option Addr} {sl22 : Array (Option Value)} {oc22 kV22 dc22 pm22 cd22 ct22 : Value} {f23 : Addr} {od23 an23 : Option Addr} {sl23 : Array (Option Value)} {oc23 kV23 dc23 pm23 cd23 ct23 : Value} {f24 : Addr} {od24 an24 : Option Addr} {sl24 : Array (Option Value)} {oc24 kV24 dc24 pm24 cd24 ct24 : Value} {t_MOST : Nat}
    (q_Answer : PySem.W.nsIn K mainGlobals "Answer" = some (some (.ref c_Answer)))
    (q_Ballots : PySem.W.nsIn K mainGlobals "Ballots" = some (some (.ref c_Ballots)))
    (q_Uneven : PySem.W.nsIn K mainGlobals "Uneven" = some (some (.ref c_Uneven)))
    (q_Unbeaten : PySem.W.nsIn K mainGlobals "Unbeaten" = some (some (.ref c_Unbeaten)))
    (q_Ring : PySem.W.nsIn K mainGlobals "Ring" = some (some (.ref c_Ring)))
    (a1 : PySem.W.nsIn K mainGlobals "is_number" = some (some (.ref f1)))
    (l1 : K.lookup f1 = some ⟨oc1, od1, .func (PySem.W.fnOf "is_number" "is_number" (defArgs s_is_number) (defBody s_is_number) (defScope s_is_number) .none kV1 dc1 pm1 an1 cd1 ct1), sl1⟩)
    (e1 : PySem.W.codeIn K cd1 "is_number" = true)
    (k1 : PySem.W.keepIn K (.ref f1) = true)
    (a2 : PySem.W.nsIn K mainGlobals "are_ballots" = some (some (.ref f2)))
    (l2 : K.lookup f2 = some ⟨oc2, od2, .func (PySem.W.fnOf "are_ballots" "are_ballots" (defArgs s_are_ballots) (defBody s_are_ballots) (defScope s_are_ballots) .none kV2 dc2 pm2 an2 cd2 ct2), sl2⟩)
    (e2 : PySem.W.codeIn K cd2 "are_ballots" = true)
    (k2 : PySem.W.keepIn K (.ref f2) = true)
    (a3 : PySem.W.nsIn K mainGlobals "asked_table" = some (some (.ref f3)))
    (l3 : K.lookup f3 = some ⟨oc3, od3, .func (PySem.W.fnOf "asked_table" "asked_table" (defArgs s_asked_table) (defBody s_asked_table) (defScope s_asked_table) .none kV3 dc3 pm3 an3 cd3 ct3), sl3⟩)
    (e3 : PySem.W.codeIn K cd3 "asked_table" = true)
    (k3 : PySem.W.keepIn K (.ref f3) = true)
    (a4 : PySem.W.nsIn K mainGlobals "count_of" = some (some (.ref f4)))
    (l4 : K.lookup f4 = some ⟨oc4, od4, .func (PySem.W.fnOf "count_of" "count_of" (defArgs s_count_of) (defBody s_count_of) (defScope s_count_of) .none kV4 dc4 pm4 an4 cd4 ct4), sl4⟩)
    (e4 : PySem.W.codeIn K cd4 "count_of" = true)
    (k4 : PySem.W.keepIn K (.ref f4) = true)
    (a5 : PySem.W.nsIn K mainGlobals "is_pair" = some (some (.ref f5)))
    (l5 : K.lookup f5 = some ⟨oc5, od5, .func (PySem.W.fnOf "is_pair" "is_pair" (defArgs s_is_pair) (defBody s_is_pair) (defScope s_is_pair) .none kV5 dc5 pm5 an5 cd5 ct5), sl5⟩)
    (e5 : PySem.W.codeIn K cd5 "is_pair" = true)
    (k5 : PySem.W.keepIn K (.ref f5) = true)
    (a6 : PySem.W.findIn K (.ref c_Ballots) "__init__" = some (some (.ref f6)))
    (i6 : PySem.W.isFn K (.ref f6) = true)
    (l6 : K.lookup f6 = some ⟨oc6, od6, .func (PySem.W.fnOf "__init__" "Ballots.__init__" (defArgs s_Ballots__init) (defBody s_Ballots__init) (defScope s_Ballots__init) .none kV6 dc6 pm6 an6 cd6 ct6), sl6⟩)
    (e6 : PySem.W.codeIn K cd6 "Ballots.__init__" = true)
    (k6 : PySem.W.keepIn K (.ref f6) = true)
    (a7 : PySem.W.findIn K (.ref c_Ballots) "shows" = some (some (.ref f7)))
    (i7 : PySem.W.isFn K (.ref f7) = true)
    (l7 : K.lookup f7 = some ⟨oc7, od7, .func (PySem.W.fnOf "shows" "Ballots.shows" (defArgs s_Ballots_shows) (defBody s_Ballots_shows) (defScope s_Ballots_shows) .none kV7 dc7 pm7 an7 cd7 ct7), sl7⟩)
    (e7 : PySem.W.codeIn K cd7 "Ballots.shows" = true)
    (k7 : PySem.W.keepIn K (.ref f7) = true)
    (a8 : PySem.W.findIn K (.ref c_Uneven) "__init__" = some (some (.ref f8)))
    (i8 : PySem.W.isFn K (.ref f8) = true)
    (l8 : K.lookup f8 = some ⟨oc8, od8, .func (PySem.W.fnOf "__init__" "Uneven.__init__" (defArgs s_Uneven__init) (defBody s_Uneven__init) (defScope s_Uneven__init) .none kV8 dc8 pm8 an8 cd8 ct8), sl8⟩)
    (e8 : PySem.W.codeIn K cd8 "Uneven.__init__" = true)
    (k8 : PySem.W.keepIn K (.ref f8) = true)
    (a9 : PySem.W.findIn K (.ref c_Uneven) "shows" = some (some (.ref f9)))
    (i9 : PySem.W.isFn K (.ref f9) = true)
    (l9 : K.lookup f9 = some ⟨oc9, od9, .func (PySem.W.fnOf "shows" "Uneven.shows" (defArgs s_Uneven_shows) (defBody s_Uneven_shows) (defScope s_Uneven_shows) .none kV9 dc9 pm9 an9 cd9 ct9), sl9⟩)
    (e9 : PySem.W.codeIn K cd9 "Uneven.shows" = true)
    (k9 : PySem.W.keepIn K (.ref f9) = true)
    (a10 : PySem.W.findIn K (.ref c_Unbeaten) "__init__" = some (some (.ref f10)))
    (i10 : PySem.W.isFn K (.ref f10) = true)
    (l10 : K.lookup f10 = some ⟨oc10, od10, .func (PySem.W.fnOf "__init__" "Unbeaten.__init__" (defArgs s_Unbeaten__init) (defBody s_Unbeaten__init) (defScope s_Unbeaten__init) .none kV10 dc10 pm10 an10 cd10 ct10), sl10⟩)
    (e10 : PySem.W.codeIn K cd10 "Unbeaten.__init__" = true)
    (k10 : PySem.W.keepIn K (.ref f10) = true)
    (a11 : PySem.W.findIn K (.ref c_Unbeaten) "shows" = some (some (.ref f11)))
    (i11 : PySem.W.isFn K (.ref f11) = true)
    (l11 : K.lookup f11 = some ⟨oc11, od11, .func (PySem.W.fnOf "shows" "Unbeaten.shows" (defArgs s_Unbeaten_shows) (defBody s_Unbeaten_shows) (defScope s_Unbeaten_shows) .none kV11 dc11 pm11 an11 cd11 ct11), sl11⟩)
    (e11 : PySem.W.codeIn K cd11 "Unbeaten.shows" = true)
    (k11 : PySem.W.keepIn K (.ref f11) = true)
    (a12 : PySem.W.findIn K (.ref c_Ring) "__init__" = some (some (.ref f12)))
    (i12 : PySem.W.isFn K (.ref f12) = true)
    (l12 : K.lookup f12 = some ⟨oc12, od12, .func (PySem.W.fnOf "__init__" "Ring.__init__" (defArgs s_Ring__init) (defBody s_Ring__init) (defScope s_Ring__init) .none kV12 dc12 pm12 an12 cd12 ct12), sl12⟩)
    (e12 : PySem.W.codeIn K cd12 "Ring.__init__" = true)
    (k12 : PySem.W.keepIn K (.ref f12) = true)
    (a13 : PySem.W.findIn K (.ref c_Ring) "shows" = some (some (.ref f13)))
    (i13 : PySem.W.isFn K (.ref f13) = true)
    (l13 : K.lookup f13 = some ⟨oc13, od13, .func (PySem.W.fnOf "shows" "Ring.shows" (defArgs s_Ring_shows) (defBody s_Ring_shows) (defScope s_Ring_shows) .none kV13 dc13 pm13 an13 cd13 ct13), sl13⟩)
    (e13 : PySem.W.codeIn K cd13 "Ring.shows" = true)
    (k13 : PySem.W.keepIn K (.ref f13) = true)
    (a14 : PySem.W.nsIn K mainGlobals "two_ballots" = some (some (.ref f14)))
    (l14 : K.lookup f14 = some ⟨oc14, od14, .func (PySem.W.fnOf "two_ballots" "two_ballots" (defArgs s_two_ballots) (defBody s_two_ballots) (defScope s_two_ballots) .none kV14 dc14 pm14 an14 cd14 ct14), sl14⟩)
    (e14 : PySem.W.codeIn K cd14 "two_ballots" = true)
    (k14 : PySem.W.keepIn K (.ref f14) = true)
    (a15 : PySem.W.nsIn K mainGlobals "told" = some (some (.ref f15)))
    (l15 : K.lookup f15 = some ⟨oc15, od15, .func (PySem.W.fnOf "told" "told" (defArgs s_told) (defBody s_told) (defScope s_told) .none kV15 dc15 pm15 an15 cd15 ct15), sl15⟩)
    (e15 : PySem.W.codeIn K cd15 "told" = true)
    (k15 : PySem.W.keepIn K (.ref f15) = true)
    (a16 : PySem.W.nsIn K mainGlobals "_law_number" = some (some (.ref f16)))
    (l16 : K.lookup f16 = some ⟨oc16, od16, .func (PySem.W.fnOf "_law_number" "_law_number" (defArgs s_law_number) (defBody s_law_number) (defScope s_law_number) .none kV16 dc16 pm16 an16 cd16 ct16), sl16⟩)
    (e16 : PySem.W.codeIn K cd16 "_law_number" = true)
    (k16 : PySem.W.keepIn K (.ref f16) = true)
    (a17 : PySem.W.nsIn K mainGlobals "_law_table" = some (some (.ref f17)))
    (l17 : K.lookup f17 = some ⟨oc17, od17, .func (PySem.W.fnOf "_law_table" "_law_table" (defArgs s_law_table) (defBody s_law_table) (defScope s_law_table) .none kV17 dc17 pm17 an17 cd17 ct17), sl17⟩)
    (e17 : PySem.W.codeIn K cd17 "_law_table" = true)
    (k17 : PySem.W.keepIn K (.ref f17) = true)
    (a18 : PySem.W.nsIn K mainGlobals "_law_ballots" = some (some (.ref f18)))
    (l18 : K.lookup f18 = some ⟨oc18, od18, .func (PySem.W.fnOf "_law_ballots" "_law_ballots" (defArgs s_law_ballots) (defBody s_law_ballots) (defScope s_law_ballots) .none kV18 dc18 pm18 an18 cd18 ct18), sl18⟩)
    (e18 : PySem.W.codeIn K cd18 "_law_ballots" = true)
    (k18 : PySem.W.keepIn K (.ref f18) = true)
    (a19 : PySem.W.nsIn K mainGlobals "_law_count" = some (some (.ref f19)))
    (l19 : K.lookup f19 = some ⟨oc19, od19, .func (PySem.W.fnOf "_law_count" "_law_count" (defArgs s_law_count) (defBody s_law_count) (defScope s_law_count) .none kV19 dc19 pm19 an19 cd19 ct19), sl19⟩)
    (e19 : PySem.W.codeIn K cd19 "_law_count" = true)
    (k19 : PySem.W.keepIn K (.ref f19) = true)
    (a20 : PySem.W.nsIn K mainGlobals "_law_are_ballots" = some (some (.ref f20)))
    (l20 : K.lookup f20 = some ⟨oc20, od20, .func (PySem.W.fnOf "_law_are_ballots" "_law_are_ballots" (defArgs s_law_are_ballots) (defBody s_law_are_ballots) (defScope s_law_are_ballots) .none kV20 dc20 pm20 an20 cd20 ct20), sl20⟩)
    (e20 : PySem.W.codeIn K cd20 "_law_are_ballots" = true)
    (k20 : PySem.W.keepIn K (.ref f20) = true)
    (a21 : PySem.W.nsIn K mainGlobals "_law_pair" = some (some (.ref f21)))
    (l21 : K.lookup f21 = some ⟨oc21, od21, .func (PySem.W.fnOf "_law_pair" "_law_pair" (defArgs s_law_pair) (defBody s_law_pair) (defScope s_law_pair) .none kV21 dc21 pm21 an21 cd21 ct21), sl21⟩)
    (e21 : PySem.W.codeIn K cd21 "_law_pair" = true)
    (k21 : PySem.W.keepIn K (.ref f21) = true)
    (a22 : PySem.W.nsIn K mainGlobals "_law_due" = some (some (.ref f22)))
    (l22 : K.lookup f22 = some ⟨oc22, od22, .func (PySem.W.fnOf "_law_due" "_law_due" (defArgs s_law_due) (defBody s_law_due) (defScope s_law_due) .none kV22 dc22 pm22 an22 cd22 ct22), sl22⟩)
    (e22 : PySem.W.codeIn K cd22 "_law_due" = true)
    (k22 : PySem.W.keepIn K (.ref f22) = true)
    (a23 : PySem.W.nsIn K mainGlobals "_law_right" = some (some (.ref f23)))
    (l23 : K.lookup f23 = some ⟨oc23, od23, .func (PySem.W.fnOf "_law_right" "_law_right" (defArgs s_law_right) (defBody s_law_right) (defScope s_law_right) .none kV23 dc23 pm23 an23 cd23 ct23), sl23⟩)
    (e23 : PySem.W.codeIn K cd23 "_law_right" = true)
    (k23 : PySem.W.keepIn K (.ref f23) = true)
    (a24 : PySem.W.nsIn K mainGlobals "law" = some (some (.ref f24)))
    (l24 : K.lookup f24 = some ⟨oc24, od24, .func (PySem.W.fnOf "law" "law" (defArgs s_law) (defBody s_law) (defScope s_law) .none kV24 dc24 pm24 an24 cd24 ct24), sl24⟩)
    (e24 : PySem.W.codeIn K cd24 "law" = true)
    (k24 : PySem.W.keepIn K (.ref f24) = true)
    (qhn : PySem.W.specialIn K (.builtin "object.__class__") "__get__" = some (some (.builtin "getset_descriptor.__get__")))
    (qht : PySem.W.takesIn K (.builtin "object.__class__") = some true)
    (pg_Ballots : PySem.W.plainGet K c_Ballots Str.empty = true)
    (hd_Ballots : PySem.W.hasDictIn K c_Ballots = true)
    (po_Ballots : PySem.W.plainOver K c_Ballots = true)
    (sa_Ballots : PySem.W.findIn K (.ref c_Ballots) "__setattr__" = some (some (.builtin "object.__setattr__")))
    (ha_Ballots : PySem.W.findIn K (.ref c_Ballots) "__class__" = some (some (.builtin "object.__class__")))
    (hm_Ballots : PySem.W.mroIn K c_Ballots (.type "object") = some true)
    (mk_Ballots : PySem.W.makesIn K c_Ballots = true)
    (kc_Ballots : PySem.W.keepIn K (.ref c_Ballots) = true)
    (n_Ballots_ballots : PySem.W.findIn K (.ref c_Ballots) "ballots" = some none)
    (k_Ballots_Answer : PySem.W.kitOne K (.ref c_Ballots) (.ref c_Answer) = some true)
    (k_Ballots_Ballots : PySem.W.kitOne K (.ref c_Ballots) (.ref c_Ballots) = some true)
    (k_Ballots_Uneven : PySem.W.kitOne K (.ref c_Ballots) (.ref c_Uneven) = some false)
    (k_Ballots_Unbeaten : PySem.W.kitOne K (.ref c_Ballots) (.ref c_Unbeaten) = some false)
    (k_Ballots_Ring : PySem.W.kitOne K (.ref c_Ballots) (.ref c_Ring) = some false)
    (pg_Uneven : PySem.W.plainGet K c_Uneven Str.empty = true)
    (hd_Uneven : PySem.W.hasDictIn K c_Uneven = true)
    (po_Uneven : PySem.W.plainOver K c_Uneven = true)
    (sa_Uneven : PySem.W.findIn K (.ref c_Uneven) "__setattr__" = some (some (.builtin "object.__setattr__")))
    (ha_Uneven : PySem.W.findIn K (.ref c_Uneven) "__class__" = some (some (.builtin "object.__class__")))
    (hm_Uneven : PySem.W.mroIn K c_Uneven (.type "object") = some true)
    (mk_Uneven : PySem.W.makesIn K c_Uneven = true)
    (kc_Uneven : PySem.W.keepIn K (.ref c_Uneven) = true)
    (n_Uneven_one : PySem.W.findIn K (.ref c_Uneven) "one" = some none)
    (n_Uneven_other : PySem.W.findIn K (.ref c_Uneven) "other" = some none)
    (k_Uneven_Answer : PySem.W.kitOne K (.ref c_Uneven) (.ref c_Answer) = some true)
    (k_Uneven_Ballots : PySem.W.kitOne K (.ref c_Uneven) (.ref c_Ballots) = some false)
    (k_Uneven_Uneven : PySem.W.kitOne K (.ref c_Uneven) (.ref c_Uneven) = some true)
    (k_Uneven_Unbeaten : PySem.W.kitOne K (.ref c_Uneven) (.ref c_Unbeaten) = some false)
    (k_Uneven_Ring : PySem.W.kitOne K (.ref c_Uneven) (.ref c_Ring) = some false)
    (pg_Unbeaten : PySem.W.plainGet K c_Unbeaten Str.empty = true)
    (hd_Unbeaten : PySem.W.hasDictIn K c_Unbeaten = true)
    (po_Unbeaten : PySem.W.plainOver K c_Unbeaten = true)
    (sa_Unbeaten : PySem.W.findIn K (.ref c_Unbeaten) "__setattr__" = some (some (.builtin "object.__setattr__")))
    (ha_Unbeaten : PySem.W.findIn K (.ref c_Unbeaten) "__class__" = some (some (.builtin "object.__class__")))
    (hm_Unbeaten : PySem.W.mroIn K c_Unbeaten (.type "object") = some true)
    (mk_Unbeaten : PySem.W.makesIn K c_Unbeaten = true)
    (kc_Unbeaten : PySem.W.keepIn K (.ref c_Unbeaten) = true)
    (n_Unbeaten_who : PySem.W.findIn K (.ref c_Unbeaten) "who" = some none)
    (k_Unbeaten_Answer : PySem.W.kitOne K (.ref c_Unbeaten) (.ref c_Answer) = some true)
    (k_Unbeaten_Ballots : PySem.W.kitOne K (.ref c_Unbeaten) (.ref c_Ballots) = some false)
    (k_Unbeaten_Uneven : PySem.W.kitOne K (.ref c_Unbeaten) (.ref c_Uneven) = some false)
    (k_Unbeaten_Unbeaten : PySem.W.kitOne K (.ref c_Unbeaten) (.ref c_Unbeaten) = some true)
    (k_Unbeaten_Ring : PySem.W.kitOne K (.ref c_Unbeaten) (.ref c_Ring) = some false)
    (pg_Ring : PySem.W.plainGet K c_Ring Str.empty = true)
    (hd_Ring : PySem.W.hasDictIn K c_Ring = true)
    (po_Ring : PySem.W.plainOver K c_Ring = true)
    (sa_Ring : PySem.W.findIn K (.ref c_Ring) "__setattr__" = some (some (.builtin "object.__setattr__")))
    (ha_Ring : PySem.W.findIn K (.ref c_Ring) "__class__" = some (some (.builtin "object.__class__")))
    (hm_Ring : PySem.W.mroIn K c_Ring (.type "object") = some true)
    (mk_Ring : PySem.W.makesIn K c_Ring = true)
    (kc_Ring : PySem.W.keepIn K (.ref c_Ring) = true)
    (n_Ring_way : PySem.W.findIn K (.ref c_Ring) "way" = some none)
    (k_Ring_Answer : PySem.W.kitOne K (.ref c_Ring) (.ref c_Answer) = some true)
    (k_Ring_Ballots : PySem.W.kitOne K (.ref c_Ring) (.ref c_Ballots) = some false)
    (k_Ring_Uneven : PySem.W.kitOne K (.ref c_Ring) (.ref c_Uneven) = some false)
    (k_Ring_Unbeaten : PySem.W.kitOne K (.ref c_Ring) (.ref c_Unbeaten) = some false)
    (k_Ring_Ring : PySem.W.kitOne K (.ref c_Ring) (.ref c_Ring) = some true)
    (a_MOST : PySem.W.nsIn K mainGlobals "MOST" = some (some (.int 20 t_MOST)))
    (z_all : PySem.W.nsIn K mainGlobals "all" = some none)
    (z_any : PySem.W.nsIn K mainGlobals "any" = some none)
    (z_bool : PySem.W.nsIn K mainGlobals "bool" = some none)
    (z_enumerate : PySem.W.nsIn K mainGlobals "enumerate" = some none)
    (z_int : PySem.W.nsIn K mainGlobals "int" = some none)
    (z_isinstance : PySem.W.nsIn K mainGlobals "isinstance" = some none)
    (z_len : PySem.W.nsIn K mainGlobals "len" = some none)
    (z_list : PySem.W.nsIn K mainGlobals "list" = some none)
    (z_max : PySem.W.nsIn K mainGlobals "max" = some none)
    (z_min : PySem.W.nsIn K mainGlobals "min" = some none)
    (z_range : PySem.W.nsIn K mainGlobals "range" = some none)
    (z_set : PySem.W.nsIn K mainGlobals "set" = some none)
    (z_sorted : PySem.W.nsIn K mainGlobals "sorted" = some none)
    (z_sum : PySem.W.nsIn K mainGlobals "sum" = some none)
    (z_tuple : PySem.W.nsIn K mainGlobals "tuple" = some none) :
    ∃ fd : FuncData, (∀ (s : Shared) (v : Value), BindsTo s fd ⟨[v], []⟩ [("_law_script", v)]) ∧ ∀ base : Heap, K.In base → base.Ns mainGlobals mg → FnOk l.prog w K mg base CX0 5 fa fd ["_law_script"] (spLaw K) :=
  law_of hfa (tx_of X G q_Answer q_Ballots q_Uneven q_Unbeaten q_Ring a1 l1 e1 k1 a2 l2 e2 k2 a3 l3 e3 k3 a4 l4 e4 k4 a5 l5 e5 k5 a6 i6 l6 e6 k6 a7 i7 l7 e7 k7 a8 i8 l8 e8 k8 a9 i9 l9 e9 k9 a10 i10 l10 e10 k10 a11 i11 l11 e11 k11 a12 i12 l12 e12 k12 a13 i13 l13 e13 k13 a14 l14 e14 k14 a15 l15 e15 k15 a16 l16 e16 k16 a17 l17 e17 k17 a18 l18 e18 k18 a19 l19 e19 k19 a20 l20 e20 k20 a21 l21 e21 k21 a22 l22 e22 k22 a23 l23 e23 k23 a24 l24 e24 k24 qhn qht pg_Ballots hd_Ballots po_Ballots sa_Ballots ha_Ballots hm_Ballots mk_Ballots kc_Ballots n_Ballots_ballots k_Ballots_Answer k_Ballots_Ballots k_Ballots_Uneven k_Ballots_Unbeaten k_Ballots_Ring pg_Uneven hd_Uneven po_Uneven sa_Uneven ha_Uneven hm_Uneven mk_Uneven kc_Uneven n_Uneven_one n_Uneven_other k_Uneven_Answer k_Uneven_Ballots k_Uneven_Uneven k_Uneven_Unbeaten k_Uneven_Ring pg_Unbeaten hd_Unbeaten po_Unbeaten sa_Unbeaten ha_Unbeaten hm_Unbeaten mk_Unbeaten kc_Unbeaten n_Unbeaten_who k_Unbeaten_Answer k_Unbeaten_Ballots k_Unbeaten_Uneven k_Unbeaten_Unbeaten k_Unbeaten_Ring pg_Ring hd_Ring po_Ring sa_Ring ha_Ring hm_Ring mk_Ring kc_Ring n_Ring_way k_Ring_Answer k_Ring_Ballots k_Ring_Uneven k_Ring_Unbeaten k_Ring_Ring a_MOST z_all z_any z_bool z_enumerate z_int z_isinstance z_len z_list z_max z_min z_range z_set z_sorted z_sum z_tuple)
end Hc
open PySem PySem.W PyProof.Rows
set_option maxHeartbeats 0 in
theorem PySem.Challenge.cw_headcounts_k02_whole_told_holds : PySem.Challenge.rw_headcounts_k02_whole_told.Holds := by
  w_on; o_law; k_head; (case hw => w_witness2)
  k_fill
  refine L2.walk_ofB (l := PySem.Challenge.rw_headcounts_k02_whole_told) (n := 63) (k := 5) (x := "_law_script") (CX := fun _ => L2.CX0) (sp := fun w => Hc.spLaw _) rfl (by decide) rfl ⟨rfl, by decide, by decide⟩ (fun w h Y => PySem.W.kIn_of Y) ?F (fun _ _ a ns hl hb _ hS => ⟨a, ns, 1048576, rfl, hS, hl, fun z hz => Hc.big_of_bits (hb z hz), by decide, by decide, fun _ => rfl⟩) (fun _ _ _ _ _ h => h)
  case F =>
    intro w mg fa h KX G hmg
    refine' Hc.all_of KX G hmg ?q_Answer ?q_Ballots ?q_Uneven ?q_Unbeaten ?q_Ring ?a1 ?l1 ?e1 ?k1 ?a2 ?l2 ?e2 ?k2 ?a3 ?l3 ?e3 ?k3 ?a4 ?l4 ?e4 ?k4 ?a5 ?l5 ?e5 ?k5 ?a6 ?i6 ?l6 ?e6 ?k6 ?a7 ?i7 ?l7 ?e7 ?k7 ?a8 ?i8 ?l8 ?e8 ?k8 ?a9 ?i9 ?l9 ?e9 ?k9 ?a10 ?i10 ?l10 ?e10 ?k10 ?a11 ?i11 ?l11 ?e11 ?k11 ?a12 ?i12 ?l12 ?e12 ?k12 ?a13 ?i13 ?l13 ?e13 ?k13 ?a14 ?l14 ?e14 ?k14 ?a15 ?l15 ?e15 ?k15 ?a16 ?l16 ?e16 ?k16 ?a17 ?l17 ?e17 ?k17 ?a18 ?l18 ?e18 ?k18 ?a19 ?l19 ?e19 ?k19 ?a20 ?l20 ?e20 ?k20 ?a21 ?l21 ?e21 ?k21 ?a22 ?l22 ?e22 ?k22 ?a23 ?l23 ?e23 ?k23 ?a24 ?l24 ?e24 ?k24 ?qhn ?qht ?pg_Ballots ?hd_Ballots ?po_Ballots ?sa_Ballots ?ha_Ballots ?hm_Ballots ?mk_Ballots ?kc_Ballots ?n_Ballots_ballots ?k_Ballots_Answer ?k_Ballots_Ballots ?k_Ballots_Uneven ?k_Ballots_Unbeaten ?k_Ballots_Ring ?pg_Uneven ?hd_Uneven ?po_Uneven ?sa_Uneven ?ha_Uneven ?hm_Uneven ?mk_Uneven ?kc_Uneven ?n_Uneven_one ?n_Uneven_other ?k_Uneven_Answer ?k_Uneven_Ballots ?k_Uneven_Uneven ?k_Uneven_Unbeaten ?k_Uneven_Ring ?pg_Unbeaten ?hd_Unbeaten ?po_Unbeaten ?sa_Unbeaten ?ha_Unbeaten ?hm_Unbeaten ?mk_Unbeaten ?kc_Unbeaten ?n_Unbeaten_who ?k_Unbeaten_Answer ?k_Unbeaten_Ballots ?k_Unbeaten_Uneven ?k_Unbeaten_Unbeaten ?k_Unbeaten_Ring ?pg_Ring ?hd_Ring ?po_Ring ?sa_Ring ?ha_Ring ?hm_Ring ?mk_Ring ?kc_Ring ?n_Ring_way ?k_Ring_Answer ?k_Ring_Ballots ?k_Ring_Uneven ?k_Ring_Unbeaten ?k_Ring_Ring ?a_MOST ?z_all ?z_any ?z_bool ?z_enumerate ?z_int ?z_isinstance ?z_len ?z_list ?z_max ?z_min ?z_range ?z_set ?z_sorted ?z_sum ?z_tuple
    (case q_Answer => k_is); (case q_Ballots => k_is); (case q_Uneven => k_is); (case q_Unbeaten => k_is); (case q_Ring => k_is); (case a1 => k_is); (case l1 => k_is); (case e1 => k_is); (case k1 => k_is); (case a2 => k_is); (case l2 => k_is); (case e2 => k_is); (case k2 => k_is); (case a3 => k_is); (case l3 => k_is); (case e3 => k_is); (case k3 => k_is); (case a4 => k_is); (case l4 => k_is); (case e4 => k_is); (case k4 => k_is); (case a5 => k_is); (case l5 => k_is); (case e5 => k_is); (case k5 => k_is); (case a6 => k_is); (case i6 => k_is); (case l6 => k_is); (case e6 => k_is); (case k6 => k_is); (case a7 => k_is); (case i7 => k_is); (case l7 => k_is); (case e7 => k_is); (case k7 => k_is); (case a8 => k_is); (case i8 => k_is); (case l8 => k_is); (case e8 => k_is); (case k8 => k_is); (case a9 => k_is); (case i9 => k_is); (case l9 => k_is); (case e9 => k_is); (case k9 => k_is); (case a10 => k_is); (case i10 => k_is); (case l10 => k_is); (case e10 => k_is); (case k10 => k_is); (case a11 => k_is); (case i11 => k_is); (case l11 => k_is); (case e11 => k_is); (case k11 => k_is); (case a12 => k_is); (case i12 => k_is); (case l12 => k_is); (case e12 => k_is); (case k12 => k_is); (case a13 => k_is); (case i13 => k_is); (case l13 => k_is); (case e13 => k_is); (case k13 => k_is); (case a14 => k_is); (case l14 => k_is); (case e14 => k_is); (case k14 => k_is); (case a15 => k_is); (case l15 => k_is); (case e15 => k_is); (case k15 => k_is); (case a16 => k_is); (case l16 => k_is); (case e16 => k_is); (case k16 => k_is); (case a17 => k_is); (case l17 => k_is); (case e17 => k_is); (case k17 => k_is); (case a18 => k_is); (case l18 => k_is); (case e18 => k_is); (case k18 => k_is); (case a19 => k_is); (case l19 => k_is); (case e19 => k_is); (case k19 => k_is); (case a20 => k_is); (case l20 => k_is); (case e20 => k_is); (case k20 => k_is); (case a21 => k_is); (case l21 => k_is); (case e21 => k_is); (case k21 => k_is); (case a22 => k_is); (case l22 => k_is); (case e22 => k_is); (case k22 => k_is); (case a23 => k_is); (case l23 => k_is); (case e23 => k_is); (case k23 => k_is); (case a24 => k_is); (case l24 => k_is); (case e24 => k_is); (case k24 => k_is); (case qhn => k_is); (case qht => k_is); (case pg_Ballots => k_is); (case hd_Ballots => k_is); (case po_Ballots => k_is); (case sa_Ballots => k_is); (case ha_Ballots => k_is); (case hm_Ballots => k_is); (case mk_Ballots => k_is); (case kc_Ballots => k_is); (case n_Ballots_ballots => k_is); (case k_Ballots_Answer => kit_is); (case k_Ballots_Ballots => kit_is); (case k_Ballots_Uneven => kit_is); (case k_Ballots_Unbeaten => kit_is); (case k_Ballots_Ring => kit_is); (case pg_Uneven => k_is); (case hd_Uneven => k_is); (case po_Uneven => k_is); (case sa_Uneven => k_is); (case ha_Uneven => k_is); (case hm_Uneven => k_is); (case mk_Uneven => k_is); (case kc_Uneven => k_is); (case n_Uneven_one => k_is); (case n_Uneven_other => k_is); (case k_Uneven_Answer => kit_is); (case k_Uneven_Ballots => kit_is); (case k_Uneven_Uneven => kit_is); (case k_Uneven_Unbeaten => kit_is); (case k_Uneven_Ring => kit_is); (case pg_Unbeaten => k_is); (case hd_Unbeaten => k_is); (case po_Unbeaten => k_is); (case sa_Unbeaten => k_is); (case ha_Unbeaten => k_is); (case hm_Unbeaten => k_is); (case mk_Unbeaten => k_is); (case kc_Unbeaten => k_is); (case n_Unbeaten_who => k_is); (case k_Unbeaten_Answer => kit_is); (case k_Unbeaten_Ballots => kit_is); (case k_Unbeaten_Uneven => kit_is); (case k_Unbeaten_Unbeaten => kit_is); (case k_Unbeaten_Ring => kit_is); (case pg_Ring => k_is); (case hd_Ring => k_is); (case po_Ring => k_is); (case sa_Ring => k_is); (case ha_Ring => k_is); (case hm_Ring => k_is); (case mk_Ring => k_is); (case kc_Ring => k_is); (case n_Ring_way => k_is); (case k_Ring_Answer => kit_is); (case k_Ring_Ballots => kit_is); (case k_Ring_Uneven => kit_is); (case k_Ring_Unbeaten => kit_is); (case k_Ring_Ring => kit_is); (case a_MOST => k_is); (case z_all => k_is); (case z_any => k_is); (case z_bool => k_is); (case z_enumerate => k_is); (case z_int => k_is); (case z_isinstance => k_is); (case z_len => k_is); (case z_list => k_is); (case z_max => k_is); (case z_min => k_is); (case z_range => k_is); (case z_set => k_is); (case z_sorted => k_is); (case z_sum => k_is); (case z_tuple => k_is)
