import PyProof.Rows.All
import Wide.All
import OpenK.AllK
import Wide.FinOn
import HandS.Base
import HandS.Call
import HandS.List
import HandS.Comp
import HandS.Ends
import HandS.Dict
import HandS.Iter
import HandS.Words
import HandS.WordsList
import HandS.Conv
import HandS.Wide
import HandS.Evl
import HandS.Zip
import HandS.EndBits
import HandS.Walk
import HandS.IsInst
import HandS.Style
import PySem.Challenge.RW_headcounts_k01_whole_counted
set_option Elab.async false
set_option linter.all false
set_option maxRecDepth 100000
set_option maxHeartbeats 4000000
/-! Plain laws of counting: no program in sight. -/
namespace Hc

/-- what one pair (a ahead of b) adds to the cell (i, j) -/
def dlt (i j a b : Nat) : Int := (if a = i ∧ b = j then 1 else 0) - (if b = i ∧ a = j then 1 else 0)
def dsum (i j a : Nat) (l : List Nat) : Int := (l.map fun b => dlt i j a b).sum
def psum (i j : Nat) : List Nat → Int
  | [] => 0
  | a :: l => dsum i j a l + psum i j l
/-- the first p places taken as the one ahead -/
def psA (i j : Nat) : Nat → List Nat → Int
  | 0, _ => 0
  | _ + 1, [] => 0
  | p + 1, a :: l => dsum i j a l + psA i j p l
def cnt (bs : List (List Nat × Int)) (i j : Nat) : Int := (bs.map fun b => b.2 * psum i j b.1).sum

theorem dlt_swap (i j a b : Nat) : dlt i j b a = - dlt i j a b := by
  unfold dlt
  have e1 : (b = i ∧ a = j) ↔ (b = i ∧ a = j) := Iff.rfl
  by_cases h1 : a = i ∧ b = j <;> by_cases h2 : b = i ∧ a = j <;> simp [h1, h2] <;> omega
theorem dlt_neg (i j a b : Nat) : dlt j i a b = - dlt i j a b := by
  unfold dlt
  have e1 : (a = j ∧ b = i) ↔ (b = i ∧ a = j) := And.comm
  have e2 : (b = j ∧ a = i) ↔ (a = i ∧ b = j) := And.comm
  simp only [e1, e2]
  omega
theorem sum_append_int : ∀ (l m : List Int), (l ++ m).sum = l.sum + m.sum
  | [], m => by simp
  | a :: l, m => by rw [List.cons_append, List.sum_cons, List.sum_cons, sum_append_int l m]; omega
theorem dsum_append (i j a : Nat) (l m : List Nat) : dsum i j a (l ++ m) = dsum i j a l + dsum i j a m := by
  unfold dsum
  rw [List.map_append, sum_append_int]
theorem dsum_nil (i j a : Nat) : dsum i j a [] = 0 := rfl
theorem dsum_cons (i j a b : Nat) (l : List Nat) : dsum i j a (b :: l) = dlt i j a b + dsum i j a l := by
  unfold dsum
  rw [List.map_cons, List.sum_cons]
theorem dsum_one (i j a b : Nat) : dsum i j a [b] = dlt i j a b := by rw [dsum_cons, dsum_nil]; omega
theorem dsum_take_succ (i j a : Nat) (l : List Nat) (q : Nat) (x : Nat) (h : l[q]? = some x) : dsum i j a (l.take (q + 1)) = dsum i j a (l.take q) + dlt i j a x := by
  rw [List.take_add_one, h, dsum_append]
  show _ + dsum i j a [x] = _
  rw [dsum_one]
/-- the mirror image: those ahead of y -/
def esum (i j y : Nat) (l : List Nat) : Int := (l.map fun b => dlt i j b y).sum
theorem esum_append (i j a : Nat) (l m : List Nat) : esum i j a (l ++ m) = esum i j a l + esum i j a m := by
  unfold esum
  rw [List.map_append, sum_append_int]
theorem esum_cons (i j a b : Nat) (l : List Nat) : esum i j a (b :: l) = dlt i j b a + esum i j a l := by
  unfold esum
  rw [List.map_cons, List.sum_cons]
theorem esum_nil (i j a : Nat) : esum i j a [] = 0 := rfl
theorem esum_take_succ (i j a : Nat) (l : List Nat) (q : Nat) (x : Nat) (h : l[q]? = some x) : esum i j a (l.take (q + 1)) = esum i j a (l.take q) + dlt i j x a := by
  rw [List.take_add_one, h, esum_append]
  show _ + esum i j a [x] = _
  rw [esum_cons, esum_nil]
  omega
theorem esum_dsum (i j y : Nat) : ∀ l : List Nat, esum i j y l = - dsum i j y l
  | [] => rfl
  | a :: l => by rw [esum_cons, dsum_cons, esum_dsum i j y l, dlt_swap]; omega
theorem psum_snoc (i j y : Nat) : ∀ l : List Nat, psum i j (l ++ [y]) = psum i j l + esum i j y l
  | [] => by simp [psum, dsum, esum]
  | a :: l => by
    show dsum i j a (l ++ [y]) + psum i j (l ++ [y]) = dsum i j a l + psum i j l + esum i j y (a :: l)
    rw [psum_snoc i j y l, dsum_append, dsum_one, esum_cons]
    omega
theorem dsum_reverse (i j a : Nat) : ∀ l : List Nat, dsum i j a l.reverse = dsum i j a l
  | [] => rfl
  | b :: l => by rw [List.reverse_cons, dsum_append, dsum_reverse i j a l, dsum_one, dsum_cons]; omega
theorem psum_reverse (i j : Nat) : ∀ l : List Nat, psum i j l.reverse = - psum i j l
  | [] => rfl
  | a :: l => by
    rw [List.reverse_cons, psum_snoc, psum_reverse i j l, esum_dsum, dsum_reverse]
    show - psum i j l + - dsum i j a l = - (dsum i j a l + psum i j l)
    omega
theorem psum_swap (i j : Nat) : ∀ l : List Nat, psum j i l = - psum i j l
  | [] => rfl
  | a :: l => by
    show dsum j i a l + psum j i l = -(dsum i j a l + psum i j l)
    have e : dsum j i a l = - dsum i j a l := by
      induction l with
      | nil => rfl
      | cons b l ih => rw [dsum_cons, dsum_cons, ih, dlt_neg]; omega
    rw [e, psum_swap i j l]
    omega
theorem psA_succ (i j : Nat) : ∀ (p : Nat) (l : List Nat) (a : Nat), l[p]? = some a → psA i j (p + 1) l = psA i j p l + dsum i j a (l.drop (p + 1))
  | 0, [], _, h => by simp at h
  | 0, b :: l, a, h => by
    have e : b = a := by simpa using h
    subst e
    show dsum i j b l + psA i j 0 l = psA i j 0 (b :: l) + dsum i j b l
    show dsum i j b l + 0 = 0 + dsum i j b l
    omega
  | p + 1, [], _, h => by simp at h
  | p + 1, b :: l, a, h => by
    have h' : l[p]? = some a := by simpa using h
    show dsum i j b l + psA i j (p + 1) l = dsum i j b l + psA i j p l + dsum i j a (l.drop (p + 1))
    rw [psA_succ i j p l a h']
    omega
theorem psA_all (i j : Nat) : ∀ (l : List Nat), psA i j l.length l = psum i j l
  | [] => rfl
  | a :: l => by
    show dsum i j a l + psA i j l.length l = dsum i j a l + psum i j l
    rw [psA_all i j l]
/-- the first q places, each with those ahead of it -/
theorem psum_take_succ (i j : Nat) (l : List Nat) (q y : Nat) (h : l[q]? = some y) : psum i j (l.take (q + 1)) = psum i j (l.take q) + esum i j y (l.take q) := by
  rw [List.take_add_one, h]
  exact psum_snoc i j y (l.take q)

/-- a pair put into a table, two cells at once -/
theorem put_two (f : Nat → Nat → Int) (k m : Nat) (z : Int) (i j : Nat) : (if i = m ∧ j = k then (if m = k ∧ k = m then f k m + z else f m k) - z else if i = k ∧ j = m then f k m + z else f i j) = f i j + z * dlt i j k m := by
  unfold dlt
  by_cases h1 : i = m ∧ j = k
  · obtain ⟨rfl, rfl⟩ := h1
    by_cases h2 : i = j
    · subst h2
      simp
    · have h3 : ¬ j = i := fun e => h2 e.symm
      simp [h2, h3]
      omega
  · rw [if_neg h1]
    by_cases h2 : i = k ∧ j = m
    · obtain ⟨rfl, rfl⟩ := h2
      have h3 : ¬ (i = j) := fun e => h1 ⟨e, e.symm⟩
      have h4 : ¬ (j = i) := fun e => h3 e.symm
      simp [h3, h4]
    · have h3 : ¬ (k = i ∧ m = j) := fun e => h2 ⟨e.1.symm, e.2.symm⟩
      have h4 : ¬ (m = i ∧ k = j) := fun e => h1 ⟨e.1.symm, e.2.symm⟩
      rw [if_neg h2, if_neg h3, if_neg h4]
      simp
theorem cnt_nil (i j : Nat) : cnt [] i j = 0 := rfl
theorem cnt_append (bs cs : List (List Nat × Int)) (i j : Nat) : cnt (bs ++ cs) i j = cnt bs i j + cnt cs i j := by
  unfold cnt
  rw [List.map_append, sum_append_int]
theorem cnt_take_succ (bs : List (List Nat × Int)) (k : Nat) (b : List Nat × Int) (h : bs[k]? = some b) (i j : Nat) : cnt (bs.take (k + 1)) i j = cnt (bs.take k) i j + b.2 * psum i j b.1 := by
  rw [List.take_add_one, h, cnt_append]
  show _ + (b.2 * psum i j b.1 + 0) = _
  omega
theorem cnt_reverse (bs : List (List Nat × Int)) (i j : Nat) : cnt (bs.map fun b => (b.1.reverse, b.2)) i j = - cnt bs i j := by
  induction bs with
  | nil => rfl
  | cons b bs ih =>
    have e1 : cnt (b :: bs) i j = b.2 * psum i j b.1 + cnt bs i j := by unfold cnt; rw [List.map_cons, List.sum_cons]
    have e2 : cnt ((b :: bs).map fun b => (b.1.reverse, b.2)) i j = b.2 * psum i j b.1.reverse + cnt (bs.map fun b => (b.1.reverse, b.2)) i j := by unfold cnt; rw [List.map_cons, List.map_cons, List.sum_cons]
    rw [e1, e2, ih, psum_reverse, Int.mul_neg]
    omega
theorem cnt_swap (bs : List (List Nat × Int)) (i j : Nat) : cnt bs j i = - cnt bs i j := by
  induction bs with
  | nil => rfl
  | cons b bs ih =>
    have e1 : ∀ i j, cnt (b :: bs) i j = b.2 * psum i j b.1 + cnt bs i j := fun i j => by unfold cnt; rw [List.map_cons, List.sum_cons]
    rw [e1, e1, ih, psum_swap, Int.mul_neg]
    omega
theorem cnt_parts (bs : List (List Nat × Int)) (k i j : Nat) : cnt (bs.take k) i j + cnt (bs.drop k) i j = cnt bs i j := by
  rw [← cnt_append, List.take_append_drop]
end Hc

namespace Hc
open PySem PySem.Spec PyProof.Rows L2 Evl

theorem bt_int : bootBuiltins "int" = some (.type "int") := PyProof.Rows.boot_int
theorem bt_bool : bootBuiltins "bool" = some (.type "bool") := PyProof.Rows.boot_bool
theorem bt_list : bootBuiltins "list" = some (.type "list") := PyProof.Rows.boot_list
theorem bt_tuple : bootBuiltins "tuple" = some (.type "tuple") := PyProof.Rows.boot_tuple
theorem bt_set : bootBuiltins "set" = some (.type "set") := PyProof.Rows.boot_set
theorem bt_str : bootBuiltins "str" = some (.type "str") := PyProof.Rows.boot_str
/-- products of any two ints that the model multiplies -/
theorem op_mulG {X : Cx} : OpR X (binaryOp .Mult) (rI (fun i j => IntMulOk i j) fun i j => .int (i * j)) := opI fun _ _ _ _ _ _ _ hc q => mul_int q hc

/-! ### lists of ints, rows -/
def iv (ns : List Int) : List V := ns.map V.int
def nv (ks : List Nat) : List V := ks.map fun (k : Nat) => V.int (k : Int)
def rowV (n : Nat) (g : Nat → Int) : List V := (List.range n).map fun j => V.int (g j)
theorem nv_iv (ks : List Nat) : nv ks = iv (ks.map fun (k : Nat) => (k : Int)) := by
  unfold nv iv
  rw [List.map_map]
  rfl
theorem iv_length (ns : List Int) : (iv ns).length = ns.length := by unfold iv; rw [List.length_map]
theorem nv_length (ks : List Nat) : (nv ks).length = ks.length := by unfold nv; rw [List.length_map]
theorem rowV_length (n : Nat) (g : Nat → Int) : (rowV n g).length = n := by
  unfold rowV
  rw [List.length_map, List.length_range]
theorem rowV_get {n j : Nat} {g : Nat → Int} (h : j < n) : (rowV n g)[j]? = some (.int (g j)) := by
  unfold rowV
  rw [List.getElem?_map, List.getElem?_range h]
  rfl
theorem rowV_iv (n : Nat) (g : Nat → Int) : rowV n g = iv ((List.range n).map g) := by
  unfold rowV iv
  rw [List.map_map]
  rfl
theorem rowV_congr {n : Nat} {g g' : Nat → Int} (h : ∀ j, j < n → g j = g' j) : rowV n g = rowV n g' := by
  unfold rowV
  refine List.map_congr_left fun j hj => ?_
  rw [h j (List.mem_range.mp hj)]
theorem rowV_set {n b : Nat} {g : Nat → Int} {v : Int} : (rowV n g).set b (.int v) = rowV n (fun j => if j = b then v else g j) := by
  apply List.ext_getElem?
  intro j
  rw [List.getElem?_set]
  by_cases hj : j < n
  · rw [rowV_length, rowV_get (g := fun j => if j = b then v else g j) hj]
    by_cases e : b = j
    · subst e
      rw [if_pos rfl, if_pos hj, if_pos rfl]
    · rw [if_neg e, rowV_get hj, if_neg (fun q => e q.symm)]
  · have e1 : (rowV n g)[j]? = none := List.getElem?_eq_none (by rw [rowV_length]; omega)
    have e2 : (rowV n (fun j => if j = b then v else g j))[j]? = none := List.getElem?_eq_none (by rw [rowV_length]; omega)
    rw [e1, e2, rowV_length]
    split
    · split
      · omega
      · rfl
    · rfl
theorem nv_get {ks : List Nat} {i : Nat} {x : V} (h : (nv ks)[i]? = some x) : ∃ k, ks[i]? = some k ∧ x = .int (k : Int) := by
  unfold nv at h
  rw [List.getElem?_map] at h
  cases e : ks[i]? with
  | none => rw [e] at h; cases h
  | some k => rw [e] at h; exact ⟨k, rfl, (Option.some.inj h).symm⟩
theorem iv_get {ks : List Int} {i : Nat} {x : V} (h : (iv ks)[i]? = some x) : ∃ k, ks[i]? = some k ∧ x = .int k := by
  unfold iv at h
  rw [List.getElem?_map] at h
  cases e : ks[i]? with
  | none => rw [e] at h; cases h
  | some k => rw [e] at h; exact ⟨k, rfl, (Option.some.inj h).symm⟩
theorem sq_mono {K : PySem.W.Frag} {H H' : Hp} {a : Addr} {xs : List V} (e : Ex H H') (h : SqL K H a xs) : SqL K H' a xs := ex_l e h
theorem iv_flat (ns : List Int) : (iv ns).all flatV = true := by
  unfold iv
  rw [List.all_map]
  exact List.all_eq_true.mpr fun _ _ => rfl

/-! ### cuts -/
theorem cut_from (xs : List V) (k : Nat) : cutV xs (some (k : Int)) none = xs.drop k := by
  unfold cutV
  rw [HT.sIx_nat, HT.sIx_none]
  by_cases h : k ≤ xs.length
  · rw [Nat.min_eq_left h]
    exact List.take_of_length_le (by rw [List.length_drop]; omega)
  · rw [Nat.min_eq_right (by omega), List.drop_length, List.drop_of_length_le (by omega)]
    simp
theorem cut_to (xs : List V) (k : Nat) : cutV xs none (some (k : Int)) = xs.take k := by
  unfold cutV
  rw [HT.sIx_nat, HT.sIx_none]
  show (xs.drop 0).take (min k xs.length - 0) = xs.take k
  rw [List.drop_zero, Nat.sub_zero]
  by_cases h : k ≤ xs.length
  · rw [Nat.min_eq_left h]
  · rw [Nat.min_eq_right (by omega), List.take_length, List.take_of_length_le (by omega)]
theorem cut_m1 (xs : List V) : cutV xs none (some (-1)) = xs.dropLast := by
  unfold cutV
  rw [HT.sIx_none]
  show (xs.drop 0).take ((if (-1 : Int) < 0 then ((-1 : Int) + (xs.length : Int)).toNat else min (-1 : Int).toNat xs.length) - 0) = xs.dropLast
  rw [if_pos (by omega), List.drop_zero, Nat.sub_zero, List.dropLast_eq_take]
  congr 1
  omega

/-! ### tables -/
structure Tab (H0 H : Hp) (t : Addr) (rs : List Addr) (n : Nat) (f : Nat → Nat → Int) : Prop where
  len : rs.length = n
  top : H t = some (.lst (rs.map V.ref))
  row : ∀ i r, rs[i]? = some r → H r = some (.lst (rowV n (f i)))
  nd : rs.Nodup
  ft : H0 t = none
  fr : ∀ r, r ∈ rs → H0 r = none
def TabR (K : PySem.W.Frag) (H : Hp) (v : V) (n : Nat) (f : Nat → Nat → Int) : Prop :=
  ∃ (t : Addr) (rs : List Addr), v = V.ref t ∧ rs.length = n ∧ SqL K H t (rs.map V.ref) ∧ ∀ i r, rs[i]? = some r → SqL K H r (rowV n (f i))
section
variable {K : PySem.W.Frag} {H0 H H' : Hp} {t : Addr} {rs : List Addr} {n : Nat} {f f' : Nat → Nat → Int} {v : V}
theorem Tab.notop (T : Tab H0 H t rs n f) : t ∉ rs := fun h => by
  obtain ⟨i, hi, e⟩ := List.mem_iff_getElem.mp h
  have e1 : rs[i]? = some t := by rw [List.getElem?_eq_getElem hi, e]
  have h1 := T.row i t e1
  rw [T.top] at h1
  have h2 : rs.map V.ref = rowV n (f i) := by injection Option.some.inj h1
  have h3 : (rs.map V.ref)[i]? = (rowV n (f i))[i]? := by rw [h2]
  rw [List.getElem?_map, e1, rowV_get (by rw [← T.len]; exact hi)] at h3
  injection h3 with h4
  cases h4
theorem Tab.mono (T : Tab H0 H t rs n f) (e : Ex H H') : Tab H0 H' t rs n f :=
  ⟨T.len, e _ _ T.top, fun i r h => e _ _ (T.row i r h), T.nd, T.ft, T.fr⟩
theorem Tab.congr (T : Tab H0 H t rs n f) (h : ∀ i j, i < n → j < n → f i j = f' i j) : Tab H0 H t rs n f' :=
  ⟨T.len, T.top, fun i r e => by
    have hi : i < n := by rw [← T.len]; exact (List.getElem?_eq_some_iff.mp e).1
    rw [← rowV_congr (fun j hj => h i j hi hj)]
    exact T.row i r e, T.nd, T.ft, T.fr⟩
theorem Tab.base {Hb : Hp} (T : Tab H0 H t rs n f) (e : Ex Hb H0) : Tab Hb H t rs n f :=
  ⟨T.len, T.top, T.row, T.nd, fresh_back e T.ft, fun r h => fresh_back e (T.fr r h)⟩
theorem Tab.at_ {i : Nat} (T : Tab H0 H t rs n f) (h : i < n) : ∃ r, rs[i]? = some r ∧ r ∈ rs ∧ (rs.map V.ref)[i]? = some (V.ref r) ∧ H r = some (.lst (rowV n (f i))) := by
  have hi : i < rs.length := by rw [T.len]; exact h
  refine ⟨rs[i], List.getElem?_eq_getElem hi, List.getElem_mem hi, ?_, T.row i _ (List.getElem?_eq_getElem hi)⟩
  rw [List.getElem?_map, List.getElem?_eq_getElem hi]
  rfl
theorem nodup_at {α : Type} {l : List α} (h : l.Nodup) {i j : Nat} {x : α} (a : l[i]? = some x) (b : l[j]? = some x) : i = j := nd_ix h a b
/-- one cell is set -/
theorem Tab.put {a b : Nat} {r : Addr} {z : Int} (T : Tab H0 H t rs n f) (hr : rs[a]? = some r) : Tab H0 (upd H r (.lst ((rowV n (f a)).set b (.int z)))) t rs n (fun i j => if i = a ∧ j = b then z else f i j) := by
  have hm : r ∈ rs := List.mem_of_getElem? hr
  have nt : t ≠ r := fun e => T.notop (e ▸ hm)
  refine ⟨T.len, by rw [upd_ne nt]; exact T.top, fun i r' h => ?_, T.nd, T.ft, T.fr⟩
  by_cases e : r' = r
  · subst e
    have ei : i = a := nd_ix T.nd h hr
    subst ei
    rw [upd_same, rowV_set]
    congr 2
    refine rowV_congr fun j _ => ?_
    by_cases ej : j = b
    · rw [if_pos ej, if_pos ⟨rfl, ej⟩]
    · rw [if_neg ej, if_neg (fun q => ej q.2)]
  · rw [upd_ne e, T.row i r' h]
    congr 2
    refine rowV_congr fun j _ => ?_
    have ei : i ≠ a := fun q => e (by subst q; rw [h] at hr; exact Option.some.inj hr)
    rw [if_neg (fun q => ei q.1)]
/-- what is older stands when a row is written -/
theorem Tab.exMut {r : Addr} {o : HO} (T : Tab H0 H t rs n f) (e : Ex H0 H) (hr : r ∈ rs) : Ex H0 (upd H r o) := e.mut (T.fr r hr)
theorem Tab.rd (T : Tab H0 H t rs n f) : TabR K H (.ref t) n f := ⟨t, rs, rfl, T.len, sq_of T.top, fun i r h => sq_of (T.row i r h)⟩
theorem TabR.mono (T : TabR K H v n f) (e : Ex H H') : TabR K H' v n f := by
  obtain ⟨t, rs, h1, h2, h3, h4⟩ := T
  exact ⟨t, rs, h1, h2, ex_l e h3, fun i r h => ex_l e (h4 i r h)⟩
theorem TabR.congr (T : TabR K H v n f) (h : ∀ i j, i < n → j < n → f i j = f' i j) : TabR K H v n f' := by
  obtain ⟨t, rs, h1, h2, h3, h4⟩ := T
  refine ⟨t, rs, h1, h2, h3, fun i r e => ?_⟩
  have hi : i < n := by rw [← h2]; exact (List.getElem?_eq_some_iff.mp e).1
  rw [← rowV_congr (fun j hj => h i j hi hj)]
  exact h4 i r e
theorem TabR.at_ (T : TabR K H v n f) : ∃ (t : Addr) (xs : List V), v = .ref t ∧ SqL K H t xs ∧ xs.length = n ∧ ∀ i, i < n → ∃ r, xs[i]? = some (.ref r) ∧ SqL K H r (rowV n (f i)) := by
  obtain ⟨t, rs, h1, h2, h3, h4⟩ := T
  refine ⟨t, _, h1, h3, by rw [List.length_map]; exact h2, fun i hi => ?_⟩
  have hi' : i < rs.length := by omega
  refine ⟨rs[i], ?_, h4 i _ (List.getElem?_eq_getElem hi')⟩
  rw [List.getElem?_map, List.getElem?_eq_getElem hi']
  rfl
end

/-! ### deep data -/
def dRow (n : Nat) (g : Nat → Int) : PyData := .list ((List.range n).map fun j => .int (g j))
def dTab (n : Nat) (f : Nat → Nat → Int) : PyData := .list ((List.range n).map fun i => dRow n (f i))
def dBal (b : List Nat × Int) : PyData := .tuple [.list (b.1.map fun (k : Nat) => .int (k : Int)), .int b.2]
def dBals (bs : List (List Nat × Int)) : PyData := .list (bs.map dBal)
theorem dpAll_of {K : PySem.W.Frag} {H : Hp} : ∀ {xs : List V} {ds : List PyData}, xs.length = ds.length → (∀ (i : Nat) (x : V) (d : PyData), xs[i]? = some x → ds[i]? = some d → Dp K H x d) → DpAll K H xs ds
  | [], [], _, _ => .nil
  | x :: xs, d :: ds, hl, h => .cons (h 0 x d rfl rfl) (dpAll_of (by simpa using hl) fun i y e hy he => h (i + 1) y e (by simpa using hy) (by simpa using he))
  | [], _ :: _, hl, _ => by simp at hl
  | _ :: _, [], hl, _ => by simp at hl
theorem dpAll_ints {K : PySem.W.Frag} {H : Hp} : ∀ (ns : List Int), DpAll K H (iv ns) (ns.map PyData.int)
  | [] => .nil
  | n :: ns => .cons (.int n) (dpAll_ints ns)
theorem dp_ints {K : PySem.W.Frag} {H : Hp} {a : Addr} {ns : List Int} (h : SqL K H a (iv ns)) : Dp K H (.ref a) (.list (ns.map PyData.int)) := .lst h (dpAll_ints ns)
theorem dp_row {K : PySem.W.Frag} {H : Hp} {a : Addr} {n : Nat} {g : Nat → Int} (h : SqL K H a (rowV n g)) : Dp K H (.ref a) (dRow n g) := by
  rw [rowV_iv] at h
  have e := dp_ints h
  rw [List.map_map] at e
  exact e
theorem TabR.dp {K : PySem.W.Frag} {H : Hp} {v : V} {n : Nat} {f : Nat → Nat → Int} (T : TabR K H v n f) : Dp K H v (dTab n f) := by
  obtain ⟨t, rs, rfl, h2, h3, h4⟩ := T
  refine .lst h3 (dpAll_of (by rw [List.length_map, List.length_map, List.length_range, h2]) fun i x d hx hd => ?_)
  rw [List.getElem?_map] at hx hd
  cases e : rs[i]? with
  | none => rw [e] at hx; cases hx
  | some r =>
    rw [e] at hx
    have hi : i < n := by rw [← h2]; exact (List.getElem?_eq_some_iff.mp e).1
    rw [List.getElem?_range hi] at hd
    cases hx
    cases hd
    exact dp_row (h4 i r e)
theorem lay_all : ∀ (ds : List PyData), (∀ d ∈ ds, d.canLay0 = true) → PyData.canLayAll0 ds = true
  | [], _ => by simp [PyData.canLayAll0]
  | d :: ds, h => by
    rw [PyData.canLayAll0, h d (List.mem_cons_self ..), lay_all ds fun e he => h e (List.mem_cons_of_mem _ he)]
    rfl
theorem lay_list (ds : List PyData) (h : ∀ d ∈ ds, d.canLay0 = true) : (PyData.list ds).canLay0 = true := by
  rw [PyData.canLay0]
  exact lay_all ds h
theorem lay_tup (ds : List PyData) (h : ∀ d ∈ ds, d.canLay0 = true) : (PyData.tuple ds).canLay0 = true := by
  rw [PyData.canLay0]
  exact lay_all ds h
theorem lay_int (i : Int) : (PyData.int i).canLay0 = true := by simp [PyData.canLay0]
theorem lay_row (n : Nat) (g : Nat → Int) : (dRow n g).canLay0 = true := lay_list _ fun d hd => by
  obtain ⟨j, _, rfl⟩ := List.mem_map.mp hd
  exact lay_int _
theorem lay_tab (n : Nat) (f : Nat → Nat → Int) : (dTab n f).canLay0 = true := lay_list _ fun d hd => by
  obtain ⟨j, _, rfl⟩ := List.mem_map.mp hd
  exact lay_row _ _
theorem lay_bal (b : List Nat × Int) : (dBal b).canLay0 = true := lay_tup _ fun d hd => by
  rcases List.mem_cons.mp hd with rfl | hd
  · refine lay_list _ fun e he => ?_
    obtain ⟨j, _, rfl⟩ := List.mem_map.mp he
    exact lay_int _
  · rcases List.mem_cons.mp hd with rfl | hd
    · exact lay_int _
    · cases hd
theorem lay_bals (bs : List (List Nat × Int)) : (dBals bs).canLay0 = true := lay_list _ fun d hd => by
  obtain ⟨b, _, rfl⟩ := List.mem_map.mp hd
  exact lay_bal _
end Hc

namespace Hc
open PySem PySem.Spec PyProof.Rows L2 Evl

theorem depth_all : ∀ (ds : List PyData) (k : Nat), (∀ d ∈ ds, d.depth ≤ k) → PyData.depthAll ds ≤ k
  | [], k, _ => by rw [PyData.depthAll]; exact Nat.zero_le _
  | d :: ds, k, h => by
    rw [PyData.depthAll]
    exact Nat.max_le.mpr ⟨h d (List.mem_cons_self ..), depth_all ds k fun e he => h e (List.mem_cons_of_mem _ he)⟩
theorem depth_list {ds : List PyData} {k : Nat} (h : ∀ d ∈ ds, d.depth ≤ k) : (PyData.list ds).depth ≤ k + 1 := by
  rw [PyData.depth]
  exact Nat.succ_le_succ (depth_all ds k h)
theorem depth_tup {ds : List PyData} {k : Nat} (h : ∀ d ∈ ds, d.depth ≤ k) : (PyData.tuple ds).depth ≤ k + 1 := by
  rw [PyData.depth]
  exact Nat.succ_le_succ (depth_all ds k h)
theorem depth_int (i : Int) : (PyData.int i).depth ≤ 0 := by rw [PyData.depth]; exact Nat.le_refl _
theorem shaped_of {d : PyData} {k : Nat} (h : d.canLay0 = true) (hk : d.depth ≤ k) (h6 : k ≤ 64) : SeqAt.shaped d = true := by
  unfold SeqAt.shaped
  rw [h, decide_eq_true (Nat.le_trans hk h6)]
  rfl
theorem depth_ints (ns : List Int) : (PyData.list (ns.map PyData.int)).depth ≤ 1 := depth_list fun d hd => by
  obtain ⟨j, _, rfl⟩ := List.mem_map.mp hd
  exact depth_int _
theorem shaped_ints (ns : List Int) : SeqAt.shaped (.list (ns.map PyData.int)) = true := shaped_of (lay_list _ fun d hd => by
  obtain ⟨j, _, rfl⟩ := List.mem_map.mp hd
  exact lay_int _) (depth_ints ns) (by decide)
theorem depth_row (n : Nat) (g : Nat → Int) : (dRow n g).depth ≤ 1 := depth_list fun d hd => by
  obtain ⟨j, _, rfl⟩ := List.mem_map.mp hd
  exact depth_int _
theorem shaped_row (n : Nat) (g : Nat → Int) : SeqAt.shaped (dRow n g) = true := shaped_of (lay_row n g) (depth_row n g) (by decide)
theorem depth_tab (n : Nat) (f : Nat → Nat → Int) : (dTab n f).depth ≤ 2 := depth_list fun d hd => by
  obtain ⟨j, _, rfl⟩ := List.mem_map.mp hd
  exact depth_row _ _
theorem shaped_tab (n : Nat) (f : Nat → Nat → Int) : SeqAt.shaped (dTab n f) = true := shaped_of (lay_tab n f) (depth_tab n f) (by decide)
theorem depth_bal (b : List Nat × Int) : (dBal b).depth ≤ 2 := depth_tup fun d hd => by
  rcases List.mem_cons.mp hd with rfl | hd
  · refine depth_list fun e he => ?_
    obtain ⟨j, _, rfl⟩ := List.mem_map.mp he
    exact depth_int _
  · rcases List.mem_cons.mp hd with rfl | hd
    · exact Nat.le_trans (depth_int _) (Nat.zero_le _)
    · cases hd
theorem shaped_bals (bs : List (List Nat × Int)) : SeqAt.shaped (dBals bs) = true := shaped_of (lay_bals bs) (depth_list fun d hd => by
  obtain ⟨b, _, rfl⟩ := List.mem_map.mp hd
  exact depth_bal b) (by decide)
theorem dTab_congr {n : Nat} {f g : Nat → Nat → Int} (h : ∀ i j, i < n → j < n → f i j = g i j) : dTab n f = dTab n g := by
  unfold dTab dRow
  congr 1
  refine List.map_congr_left fun i hi => ?_
  congr 1
  refine List.map_congr_left fun j hj => ?_
  rw [h i j (List.mem_range.mp hi) (List.mem_range.mp hj)]
theorem eqv_tab {n : Nat} {f g : Nat → Nat → Int} (h : ∀ i j, i < n → j < n → f i j = g i j) : PyData.eqv (dTab n f) (dTab n g) = true := by
  rw [dTab_congr h]
  exact SeqAt.eqv_refl _ (lay_tab n g)

/-! ### ballots -/
theorem Paired.get {α β : Type} {F : α → β → Prop} : ∀ {l : List α} {m : List β} {i : Nat} {x : α}, Paired F l m → l[i]? = some x → ∃ y, m[i]? = some y ∧ F x y
  | _, _, _, _, .nil, h => by simp at h
  | _, _, 0, _, .cons r _, h => by
    cases (show some _ = some _ from h)
    exact ⟨_, rfl, r⟩
  | _, _, i + 1, x, .cons _ t, h => by
    obtain ⟨y, h1, h2⟩ := Paired.get (i := i) (x := x) t (by simpa using h)
    exact ⟨y, by simpa using h1, h2⟩
theorem Paired.take {α β : Type} {F : α → β → Prop} : ∀ {l : List α} {m : List β} (k : Nat), Paired F l m → Paired F (l.take k) (m.take k)
  | _, _, 0, _ => .nil
  | _, _, _ + 1, .nil => .nil
  | _, _, k + 1, .cons r t => .cons r (Paired.take k t)
theorem Paired.drop {α β : Type} {F : α → β → Prop} : ∀ {l : List α} {m : List β} (k : Nat), Paired F l m → Paired F (l.drop k) (m.drop k)
  | _, _, 0, r => r
  | _, _, _ + 1, .nil => .nil
  | _, _, k + 1, .cons _ t => Paired.drop k t
theorem Paired.append {α β : Type} {F : α → β → Prop} : ∀ {l l' : List α} {m m' : List β}, Paired F l m → Paired F l' m' → Paired F (l ++ l') (m ++ m')
  | _, _, _, _, .nil, s => s
  | _, _, _, _, .cons r t, s => .cons r (Paired.append t s)
theorem Paired.len {α β : Type} {F : α → β → Prop} : ∀ {l : List α} {m : List β}, Paired F l m → l.length = m.length
  | _, _, .nil => rfl
  | _, _, .cons _ t => by rw [List.length_cons, List.length_cons, Paired.len t]
def BalR (K : PySem.W.Frag) (H : Hp) (x : V) (b : List Nat × Int) : Prop := ∃ (t l : Addr), x = .ref t ∧ SqT K H t [.ref l, .int b.2] ∧ SqL K H l (nv b.1)
def BalsR (K : PySem.W.Frag) (H : Hp) (v : V) (bs : List (List Nat × Int)) : Prop := ∃ (a : Addr) (xs : List V), v = .ref a ∧ SqL K H a xs ∧ Paired (BalR K H) xs bs
section
variable {K : PySem.W.Frag} {H H' : Hp} {v x : V} {bs : List (List Nat × Int)} {b : List Nat × Int}
theorem BalR.mono (h : BalR K H x b) (e : Ex H H') : BalR K H' x b := by
  obtain ⟨t, l, h1, h2, h3⟩ := h
  exact ⟨t, l, h1, ex_t e h2, ex_l e h3⟩
theorem BalsR.mono (h : BalsR K H v bs) (e : Ex H H') : BalsR K H' v bs := by
  obtain ⟨a, xs, h1, h2, h3⟩ := h
  exact ⟨a, xs, h1, ex_l e h2, Paired.mapP h3 fun _ _ q => q.mono e⟩
theorem BalR.dp (h : BalR K H x b) : Dp K H x (dBal b) := by
  obtain ⟨t, l, rfl, h2, h3⟩ := h
  refine .tup h2 (.cons ?_ (.cons (.int _) .nil))
  rw [nv_iv] at h3
  have e := dp_ints h3
  rw [List.map_map] at e
  exact e
theorem BalsR.dp (h : BalsR K H v bs) : Dp K H v (dBals bs) := by
  obtain ⟨a, xs, rfl, h2, h3⟩ := h
  refine .lst h2 (dpAll_of (by rw [List.length_map]; exact Paired.len h3) fun i x d hx hd => ?_)
  obtain ⟨b, hb, r⟩ := Paired.get h3 hx
  rw [List.getElem?_map, hb] at hd
  cases hd
  exact r.dp
end

/-! ### comprehensions -/
/-- all but D stands -/
def ExB (D : Addr) (H H' : Hp) : Prop := ∀ a o, a ≠ D → H a = some o → H' a = some o
theorem Ex.exB {D : Addr} {H H' : Hp} (e : Ex H H') : ExB D H H' := fun a o _ h => e a o h
theorem exB_upd {D : Addr} {H : Hp} {o : HO} : ExB D H (upd H D o) := fun a u n h => by rw [upd_ne n]; exact h
section
variable {J : It} {n : Nat} {G : Hp → Prop} {Y : Nat → Hp → V → Hp → Prop} {g : TG} {tt : TT} {te : TE} {vs : List Nat} {σ : L2.St} {H1 : Hp} {D : Addr} {Qd : Hp → Prop}
/-- every turn gives one item; what is known of the items so far -/
theorem lc_acc (w : Walk J n G Y) (hD : H1 D = none) (hn : n ≤ 100000) (hG : ∀ H, Ex H1 H → G H) (I : List V → Hp → Prop) (hI : ∀ ys Ha Hb, I ys Ha → ExB D Ha Hb → I ys Hb) (h0 : I [] (upd H1 D (.lst [])))
    (hs : ∀ (i : Nat) (x : V) (H H' : Hp) (ys : List V), i < n → Ex H1 H → H D = some (.lst ys) → ys.length = i → I ys H → Y i H x H' → ∀ Qc : VK, (∀ y H4, Ex H H4 → I (ys ++ [y]) H4 → Qc y H4) → g x (wipe σ vs) H' fun σ2 H2 => wipe σ2 vs = wipe σ vs ∧ te σ2 H2 Qc)
    (hd : ∀ H ys, Ex H1 H → H D = some (.lst ys) → ys.length = n → I ys H → Qd H) :
    ∃ W : Nat → Nat → Hp → Prop, (∃ m, W 0 m (upd H1 D (.lst []))) ∧ ∀ i m H, W i m H → (J.stop i H ∧ Qd H) ∨ (J.go i H ∧ ∃ Nx : Hp → Prop, (∀ H', Nx H' → ∃ m', m' < m ∧ W (i + 1) m' H') ∧ ∀ x H', J.yld i H x H' → g x (wipe σ vs) H' fun σ2 H2 => wipe σ2 vs = wipe σ vs ∧ tYes σ2 H2 fun b H3 => if b = true then te σ2 H3 fun y H4 => ∃ acc, H4 D = some (.lst acc) ∧ acc.length < sizeLine ∧ Nx (upd H4 D (.lst (acc ++ [y]))) else Nx H3) := by
  refine lc_it w (fun i H => ∃ ys, Ex H1 H ∧ H D = some (.lst ys) ∧ ys.length = i ∧ I ys H) ⟨[], Ex.new hD, upd_same, rfl, h0⟩ (fun i H _ ⟨_, e, _⟩ => hG H e) ?_ (fun H ⟨ys, e, h1, h2, h3⟩ => hd H ys e h1 h2 h3)
  rintro i x H H' hi ⟨ys, e, h1, h2, h3⟩ hy
  exact hs i x H H' ys hi e h1 h2 h3 hy _ fun y H4 e4 h5 => ⟨ys, e4 _ _ h1, sz_lt (by omega), ys ++ [y], (e.trans e4).mut hD, upd_same, by rw [List.length_append, h2]; rfl, hI _ _ _ h5 exB_upd⟩
/-- items by value -/
theorem lc_vals (w : Walk J n G Y) (hD : H1 D = none) (hn : n ≤ 100000) (hG : ∀ H, Ex H1 H → G H) (v : Nat → V)
    (hs : ∀ (i : Nat) (x : V) (H H' : Hp), i < n → Ex H1 H → Y i H x H' → ∀ Qc : VK, (∀ H4, Ex H H4 → Qc (v i) H4) → g x (wipe σ vs) H' fun σ2 H2 => wipe σ2 vs = wipe σ vs ∧ te σ2 H2 Qc)
    (hd : ∀ H, Ex H1 H → H D = some (.lst ((List.range n).map v)) → Qd H) :
    ∃ W : Nat → Nat → Hp → Prop, (∃ m, W 0 m (upd H1 D (.lst []))) ∧ ∀ i m H, W i m H → (J.stop i H ∧ Qd H) ∨ (J.go i H ∧ ∃ Nx : Hp → Prop, (∀ H', Nx H' → ∃ m', m' < m ∧ W (i + 1) m' H') ∧ ∀ x H', J.yld i H x H' → g x (wipe σ vs) H' fun σ2 H2 => wipe σ2 vs = wipe σ vs ∧ tYes σ2 H2 fun b H3 => if b = true then te σ2 H3 fun y H4 => ∃ acc, H4 D = some (.lst acc) ∧ acc.length < sizeLine ∧ Nx (upd H4 D (.lst (acc ++ [y]))) else Nx H3) := by
  refine lc_acc w hD hn hG (fun ys _ => ys = (List.range ys.length).map v) (fun _ _ _ h _ => h) rfl ?_ (fun H ys e h1 h2 h3 => hd H e (by rw [h1, h3, h2]))
  intro i x H H' ys hi e h1 h2 h3 hy Qc hq
  refine hs i x H H' hi e hy Qc fun H4 e4 => hq _ H4 e4 ?_
  rw [List.length_append, List.length_singleton, List.range_succ, List.map_append, ← h3, h2]
  rfl
/-- new lists -/
structure Rows (H0 H : Hp) (ps : List Addr) (L : Nat → List V) : Prop where
  at_ : ∀ i p, ps[i]? = some p → H p = some (.lst (L i))
  nd : ps.Nodup
  fr : ∀ p, p ∈ ps → H0 p = none
theorem lc_rows (w : Walk J n G Y) (hD : H1 D = none) (hn : n ≤ 100000) (hG : ∀ H, Ex H1 H → G H) (L : Nat → List V)
    (hs : ∀ (i : Nat) (x : V) (H H' : Hp), i < n → Ex H1 H → Y i H x H' → ∀ Qc : VK, (∀ p H4, H p = none → Ex H H4 → H4 p = some (.lst (L i)) → Qc (.ref p) H4) → g x (wipe σ vs) H' fun σ2 H2 => wipe σ2 vs = wipe σ vs ∧ te σ2 H2 Qc)
    (hd : ∀ H ps, Ex H1 H → H D = some (.lst (ps.map V.ref)) → ps.length = n → Rows H1 H ps L → Qd H) :
    ∃ W : Nat → Nat → Hp → Prop, (∃ m, W 0 m (upd H1 D (.lst []))) ∧ ∀ i m H, W i m H → (J.stop i H ∧ Qd H) ∨ (J.go i H ∧ ∃ Nx : Hp → Prop, (∀ H', Nx H' → ∃ m', m' < m ∧ W (i + 1) m' H') ∧ ∀ x H', J.yld i H x H' → g x (wipe σ vs) H' fun σ2 H2 => wipe σ2 vs = wipe σ vs ∧ tYes σ2 H2 fun b H3 => if b = true then te σ2 H3 fun y H4 => ∃ acc, H4 D = some (.lst acc) ∧ acc.length < sizeLine ∧ Nx (upd H4 D (.lst (acc ++ [y]))) else Nx H3) := by
  refine lc_acc w hD hn hG (fun ys H => ∃ ps, ys = ps.map V.ref ∧ D ∉ ps ∧ Rows H1 H ps L) ?_ ⟨[], rfl, by simp, fun _ _ h => by simp at h, List.nodup_nil, fun _ h => by simp at h⟩ ?_ ?_
  · rintro ys Ha Hb ⟨ps, h1, h2, h3⟩ e
    exact ⟨ps, h1, h2, fun i p h => e _ _ (fun q => h2 (q ▸ List.mem_of_getElem? h)) (h3.at_ i p h), h3.nd, h3.fr⟩
  · rintro i x H H' ys hi e h1 h2 ⟨ps, h3, h4, h5⟩ hy Qc hq
    refine hs i x H H' hi e hy Qc fun p H4 np e4 hp => hq _ H4 e4 ⟨ps ++ [p], ?_, ?_, ?_, ?_, ?_⟩
    · rw [h3, List.map_append]
      rfl
    · intro hm
      rcases List.mem_append.mp hm with q | q
      · exact h4 q
      · have e5 : D = p := by simpa using q
        rw [e5, np] at h1
        cases h1
    · intro k q hk
      have hl : ps.length = i := by rw [← h2, h3, List.length_map]
      rw [List.getElem?_append] at hk
      split at hk
      · exact e4 _ _ (h5.at_ k q hk)
      · rename_i hge
        have ek : k - ps.length = 0 := by
          have := (List.getElem?_eq_some_iff.mp hk).1
          simp at this
          omega
        rw [ek] at hk
        have e6 : q = p := by simpa using hk.symm
        rw [e6, hp, show k = i by omega]
    · rw [List.nodup_append]
      refine ⟨h5.nd, by simp, ?_⟩
      intro a ha b hb e7
      have e8 : b = p := by simpa using hb
      obtain ⟨k, hk, ek⟩ := List.mem_iff_getElem.mp ha
      have := h5.at_ k a (by rw [List.getElem?_eq_getElem hk, ek])
      rw [e7, e8, np] at this
      cases this
    · intro q hq'
      rcases List.mem_append.mp hq' with z | z
      · exact h5.fr q z
      · have e8 : q = p := by simpa using z
        rw [e8]
        exact fresh_back e np
  · rintro H ys e h1 h2 ⟨ps, h3, h4, h5⟩
    exact hd H ps e (by rw [h1, h3]) (by rw [← h2, h3, List.length_map]) h5
/-- new pairs of a new list of candidates and a number -/
structure BalsN (H0 H : Hp) (D : Addr) (ts ls : List Addr) (bs : List (List Nat × Int)) : Prop where
  top : H D = some (.lst (ts.map V.ref))
  lt : ts.length = bs.length
  ll : ls.length = bs.length
  at_ : ∀ (i : Nat) (t l : Addr) (b : List Nat × Int), ts[i]? = some t → ls[i]? = some l → bs[i]? = some b → H t = some (.tup [.ref l, .int b.2]) ∧ H l = some (.lst (nv b.1))
  nd : ls.Nodup
  fl : ∀ l, l ∈ ls → H0 l = none
  ft : ∀ t, t ∈ ts → H0 t = none
  fD : H0 D = none
theorem BalsN.rd {K : PySem.W.Frag} {H0 H : Hp} {D : Addr} {ts ls : List Addr} {bs : List (List Nat × Int)} (B : BalsN H0 H D ts ls bs) : BalsR K H (.ref D) bs := by
  refine ⟨D, _, rfl, sq_of B.top, ?_⟩
  have gen : ∀ (ts ls : List Addr) (bs : List (List Nat × Int)), ts.length = bs.length → ls.length = bs.length → (∀ (i : Nat) (t l : Addr) (b : List Nat × Int), ts[i]? = some t → ls[i]? = some l → bs[i]? = some b → H t = some (.tup [.ref l, .int b.2]) ∧ H l = some (.lst (nv b.1))) → Paired (BalR K H) (ts.map V.ref) bs := by
    intro ts
    induction ts with
    | nil =>
      intro ls bs hl _ _
      cases bs with
      | nil => exact .nil
      | cons _ _ => simp at hl
    | cons t ts ih =>
      intro ls bs hl hl2 h
      cases bs with
      | nil => simp at hl
      | cons b bs =>
        cases ls with
        | nil => simp at hl2
        | cons l ls =>
          obtain ⟨q1, q2⟩ := h 0 t l b rfl rfl rfl
          refine .cons ⟨t, l, rfl, st_of q1, sq_of q2⟩ (ih ls bs (by simpa using hl) (by simpa using hl2) fun i t' l' b' a1 a2 a3 => h (i + 1) t' l' b' (by simpa using a1) (by simpa using a2) (by simpa using a3))
  exact gen ts ls bs B.lt B.ll B.at_
theorem lc_bals (w : Walk J n G Y) (hD : H1 D = none) (hn : n ≤ 100000) (hG : ∀ H, Ex H1 H → G H) (bs : List (List Nat × Int)) (hbs : bs.length = n)
    (hs : ∀ (i : Nat) (x : V) (H H' : Hp) (b : List Nat × Int), i < n → bs[i]? = some b → Ex H1 H → Y i H x H' → ∀ Qc : VK, (∀ p l H4, H p = none → H l = none → Ex H H4 → H4 p = some (.tup [.ref l, .int b.2]) → H4 l = some (.lst (nv b.1)) → Qc (.ref p) H4) → g x (wipe σ vs) H' fun σ2 H2 => wipe σ2 vs = wipe σ vs ∧ te σ2 H2 Qc)
    (hd : ∀ H ts ls, Ex H1 H → BalsN H1 H D ts ls bs → Qd H) :
    ∃ W : Nat → Nat → Hp → Prop, (∃ m, W 0 m (upd H1 D (.lst []))) ∧ ∀ i m H, W i m H → (J.stop i H ∧ Qd H) ∨ (J.go i H ∧ ∃ Nx : Hp → Prop, (∀ H', Nx H' → ∃ m', m' < m ∧ W (i + 1) m' H') ∧ ∀ x H', J.yld i H x H' → g x (wipe σ vs) H' fun σ2 H2 => wipe σ2 vs = wipe σ vs ∧ tYes σ2 H2 fun b H3 => if b = true then te σ2 H3 fun y H4 => ∃ acc, H4 D = some (.lst acc) ∧ acc.length < sizeLine ∧ Nx (upd H4 D (.lst (acc ++ [y]))) else Nx H3) := by
  refine lc_acc w hD hn hG (fun ys H => ∃ ts ls : List Addr, ys = ts.map V.ref ∧ ls.length = ts.length ∧ D ∉ ts ∧ D ∉ ls ∧ (∀ (i : Nat) (t l : Addr) (b : List Nat × Int), ts[i]? = some t → ls[i]? = some l → bs[i]? = some b → H t = some (.tup [.ref l, .int b.2]) ∧ H l = some (.lst (nv b.1))) ∧ ls.Nodup ∧ (∀ l, l ∈ ls → H1 l = none) ∧ (∀ l, l ∈ ts → H1 l = none) ∧ (∀ l, l ∈ ls → H l ≠ none)) ?_ ⟨[], [], rfl, rfl, by simp, by simp, fun _ _ _ _ h => by simp at h, List.nodup_nil, fun _ h => by simp at h, fun _ h => by simp at h, fun _ h => by simp at h⟩ ?_ ?_
  · rintro ys Ha Hb ⟨ts, ls, h1, h2, h3, h4, h5, h6, h7, h8, h9⟩ e
    refine ⟨ts, ls, h1, h2, h3, h4, fun i t l b ht hl hb => ?_, h6, h7, h8, fun l hl => ?_⟩
    · obtain ⟨q1, q2⟩ := h5 i t l b ht hl hb
      exact ⟨e _ _ (fun q => h3 (q ▸ List.mem_of_getElem? ht)) q1, e _ _ (fun q => h4 (q ▸ List.mem_of_getElem? hl)) q2⟩
    · have := h9 l hl
      cases q : Ha l with
      | none => exact absurd q this
      | some o =>
        rw [e _ _ (fun q => h4 (q ▸ hl)) q]
        simp
  · rintro i x H H' ys hi e h1 h2 ⟨ts, ls, h3, h4, h5, h6, h7, h8, h9, h10, h11⟩ hy Qc hq
    have hb : i < bs.length := by omega
    have eL : ts.length = i := by rw [← h2, h3, List.length_map]
    refine hs i x H H' bs[i] hi (List.getElem?_eq_getElem hb) e hy Qc fun p l H4 np nl e4 hp hl => hq _ H4 e4 ⟨ts ++ [p], ls ++ [l], ?_, ?_, ?_, ?_, ?_, ?_, ?_, ?_, ?_⟩
    · rw [h3, List.map_append]
      rfl
    · rw [List.length_append, List.length_append, h4]
      rfl
    · intro hm
      rcases List.mem_append.mp hm with q | q
      · exact h5 q
      · have e5 : D = p := by simpa using q
        rw [e5, np] at h1
        cases h1
    · intro hm
      rcases List.mem_append.mp hm with q | q
      · exact h6 q
      · have e5 : D = l := by simpa using q
        rw [e5, nl] at h1
        cases h1
    · intro k t l' b ht hl' hbk
      rw [List.getElem?_append] at ht hl'
      by_cases hk : k < ts.length
      · rw [if_pos hk] at ht
        rw [if_pos (by omega)] at hl'
        obtain ⟨q1, q2⟩ := h7 k t l' b ht hl' hbk
        exact ⟨e4 _ _ q1, e4 _ _ q2⟩
      · rw [if_neg hk] at ht
        rw [if_neg (by omega)] at hl'
        have ek : k - ts.length = 0 := by
          have := (List.getElem?_eq_some_iff.mp ht).1
          simp at this
          omega
        rw [ek] at ht
        rw [h4, ek] at hl'
        have e6 : t = p := by simpa using ht.symm
        have e7 : l' = l := by simpa using hl'.symm
        have e8 : k = i := by omega
        subst e8
        rw [List.getElem?_eq_getElem hb] at hbk
        cases hbk
        rw [e6, e7]
        exact ⟨hp, hl⟩
    · rw [List.nodup_append]
      refine ⟨h8, by simp, ?_⟩
      intro a ha b hb' e7
      have e8 : b = l := by simpa using hb'
      exact h11 a ha (by rw [e7, e8]; exact nl)
    · intro q hq'
      rcases List.mem_append.mp hq' with z | z
      · exact h9 q z
      · have e8 : q = l := by simpa using z
        rw [e8]
        exact fresh_back e nl
    · intro q hq'
      rcases List.mem_append.mp hq' with z | z
      · exact h10 q z
      · have e8 : q = p := by simpa using z
        rw [e8]
        exact fresh_back e np
    · intro q hq'
      rcases List.mem_append.mp hq' with z | z
      · have := h11 q z
        cases w : H q with
        | none => exact absurd w this
        | some o => rw [e4 _ _ w]; simp
      · have e8 : q = l := by simpa using z
        rw [e8, hl]
        simp
  · rintro H ys e h1 h2 ⟨ts, ls, h3, h4, h5, h6, h7, h8, h9, h10, h11⟩
    have eL : ts.length = n := by rw [← h2, h3, List.length_map]
    have hts : H D = some (.lst (ts.map V.ref)) := by rw [h1, h3]
    exact hd H ts ls e ⟨hts, by omega, by omega, h7, h8, h9, h10, hD⟩
end
end Hc
namespace Hc
open PySem PySem.Spec PyProof.Rows L2 Evl
theorem rgV_nv (n : Nat) : rgV 0 (n : Int) = nv (List.range n) := by
  unfold rgV nv
  rw [show ((n : Int) - 0).toNat = n by omega]
  refine List.map_congr_left fun i _ => ?_
  rw [Int.zero_add]
theorem eqvAll_ints : ∀ (ns ms : List Int), PyData.eqvAll (ns.map PyData.int) (ms.map PyData.int) = decide (ns = ms)
  | [], [] => by simp [PyData.eqvAll]
  | [], _ :: _ => by simp [PyData.eqvAll]
  | _ :: _, [] => by simp [PyData.eqvAll]
  | n :: ns, m :: ms => by
    rw [List.map_cons, List.map_cons, PyData.eqvAll, eqvAll_ints ns ms, PyData.eqv]
    by_cases h1 : n = m <;> by_cases h2 : ns = ms <;> simp [h1, h2]
theorem eqv_ints (ns ms : List Int) : PyData.eqv (.list (ns.map PyData.int)) (.list (ms.map PyData.int)) = decide (ns = ms) := by
  rw [PyData.eqv]
  exact eqvAll_ints ns ms
theorem map_const_bl (n : Nat) (b : Bool) : ((List.range n).map fun _ => V.bl b) = ((List.range n).map fun _ => b).map V.bl := by
  rw [List.map_map]
  rfl
theorem all_const_true (n : Nat) : ((List.range n).map fun _ => true).all id = true := by
  rw [List.all_map]
  exact List.all_eq_true.mpr fun _ _ => rfl
theorem itT {c : Bool} {A B : Prop} (h : c = true) (k : A) : if c = true then A else B := by rw [if_pos h]; exact k
theorem itF {c : Bool} {A B : Prop} (h : c = false) (k : B) : if c = true then A else B := by rw [if_neg (by rw [h]; decide)]; exact k
theorem it2 {c : Bool} {A B : Prop} (h1 : c = true → A) (h2 : c = false → B) : if c = true then A else B := by
  cases c with
  | true => rw [if_pos rfl]; exact h1 rfl
  | false => rw [if_neg (by decide)]; exact h2 rfl
theorem rep_row (n : Nat) : (List.replicate n [V.int 0]).flatten = rowV n (fun _ => 0) := by
  unfold rowV
  rw [List.map_const', List.length_range]
  induction n with
  | zero => rfl
  | succ n ih => rw [List.replicate_succ, List.flatten_cons, ih, List.replicate_succ]; rfl
theorem nv_drop (ks : List Nat) (k : Nat) : (nv ks).drop k = nv (ks.drop k) := by unfold nv; rw [List.map_drop]
theorem nv_take (ks : List Nat) (k : Nat) : (nv ks).take k = nv (ks.take k) := by unfold nv; rw [List.map_take]
theorem cut_nv_from (ks : List Nat) (k : Nat) : cutV (nv ks) (some ((k : Int) + 1)) none = nv (ks.drop (k + 1)) := by
  rw [show ((k : Int) + 1) = ((k + 1 : Nat) : Int) from rfl, cut_from, nv_drop]
theorem cut_nv_to (ks : List Nat) (k : Nat) : cutV (nv ks) none (some (k : Int)) = nv (ks.take k) := by rw [cut_to, nv_take]
theorem Rows.tab {H0 H : Hp} {D : Addr} {ps : List Addr} {n : Nat} {f : Nat → Nat → Int} (hD : H0 D = none) (h : H D = some (.lst (ps.map V.ref))) (hl : ps.length = n) (R : Rows H0 H ps (fun i => rowV n (f i))) : Tab H0 H D ps n f :=
  ⟨hl, h, R.at_, R.nd, hD, R.fr⟩
theorem rgOk_nat {n : Nat} (h : n ≤ 1000) : RgOk 0 (n : Int) := RgOk.of_le (by omega) (by omega) (by omega) (by omega)
end Hc
namespace Hc
open PySem PySem.Spec PyProof.Rows L2 Evl
/-! ### great numbers -/
def Big (B : Nat) (x : Int) : Prop := x.natAbs < 2 ^ B
theorem Big.mono {B C : Nat} {x : Int} (h : Big B x) (hc : B ≤ C) : Big C x := Nat.lt_of_lt_of_le h (Nat.pow_le_pow_right (by decide) hc)
theorem Big.mul {B C : Nat} {x y : Int} (h : Big B x) (k : Big C y) : Big (B + C) (x * y) := by
  unfold Big at *
  rw [Int.natAbs_mul, Nat.pow_add]
  exact Nat.mul_lt_mul'' h k
theorem Big.add {B : Nat} {x y : Int} (h : Big B x) (k : Big B y) : Big (B + 1) (x + y) := by
  unfold Big at *
  have := Int.natAbs_add_le x y
  rw [Nat.pow_succ]
  omega
theorem big_bits {B : Nat} {x : Int} (h0 : 0 < B) (h : Big B x) : Builtin.Int.intBits x ≤ B := by
  have h1 := PySem.Flt.log2_lt_of h0 h
  unfold Builtin.Int.intBits
  split
  · exact Nat.zero_le _
  · omega
theorem big_of_bits {x : Int} {B : Nat} (h : Builtin.Int.intBits x ≤ B) : Big B x := by
  unfold Builtin.Int.intBits at h
  unfold Big
  split at h
  · rename_i e
    have e0 : x = 0 := by simpa using e
    rw [e0]
    exact Nat.pow_pos (by decide)
  · exact Nat.lt_of_lt_of_le Nat.lt_log2_self (Nat.pow_le_pow_right (by decide) h)
theorem mulOk_big {B C : Nat} {x y : Int} (h : Big B x) (k : Big C y) (hB : 0 < B) (hC : 0 < C) (hs : B + C ≤ 100000000) : IntMulOk x y := by
  have h1 := big_bits hB h
  have h2 := big_bits hC k
  have e : bitsLine = 134217728 := by decide
  intro z
  rw [Bool.and_eq_true] at z
  have z2 := of_decide_eq_true z.2
  rw [e] at z2
  omega
theorem mulOk_small {x y : Int} (h1 : -(2 ^ 64) < x) (h2 : x < 2 ^ 64) : IntMulOk x y := PySem.IntMulOk.of_left (PySem.intBits_le_64 h1 h2)
theorem mulOk_smallR {x y : Int} (h1 : -(2 ^ 64) < y) (h2 : y < 2 ^ 64) : IntMulOk x y := PySem.IntMulOk.of_right (PySem.intBits_le_64 h1 h2)
theorem big_small {x : Int} {B : Nat} (hB : 64 ≤ B) (h1 : -(2 ^ 64) < x) (h2 : x < 2 ^ 64) : Big B x := Big.mono (B := 64) (by unfold Big; omega) hB
theorem divW_small {i j : Int} (h1 : 0 < j) (h2 : j < 1000000) : CDivW i j := by
  refine ⟨h1, ?_⟩
  have : j.natAbs < 2 ^ 20 := by omega
  exact Nat.lt_trans (PySem.Flt.log2_lt_of (by decide) this) (by decide)
theorem Big.div {B : Nat} {x j : Int} (h : Big B x) (hj : 0 < j) : Big B (x / j) := by
  unfold Big at *
  refine Nat.lt_of_le_of_lt ?_ h
  exact Int.natAbs_ediv_le_natAbs x j
theorem big_sum : ∀ (ns : List Int) (B : Nat), (∀ n ∈ ns, Big B n) → Big (B + ns.length) ns.sum
  | [], B, _ => by
    show (0 : Nat) < 2 ^ (B + 0)
    exact Nat.pow_pos (by decide)
  | n :: ns, B, h => by
    rw [List.sum_cons]
    have h1 := big_sum ns B fun m hm => h m (List.mem_cons_of_mem _ hm)
    exact Big.add ((h n (List.mem_cons_self ..)).mono (Nat.le_add_right _ _)) h1
end Hc
namespace Hc
open PySem PySem.Spec PyProof.Rows L2 Evl
/-! ### the heap without one object -/
def rem (H : Hp) (F : Addr) : Hp := fun a => if a = F then none else H a
theorem rem_ne {H : Hp} {F a : Addr} (h : a ≠ F) : rem H F a = H a := by unfold rem; rw [if_neg h]
theorem rem_ex {H : Hp} {F : Addr} : Ex (rem H F) H := fun a o h => by
  unfold rem at h
  split at h
  · cases h
  · exact h
theorem rem_mono {H H' : Hp} {F : Addr} (e : Ex H H') : Ex (rem H F) (rem H' F) := fun a o h => by
  unfold rem at h ⊢
  split at h
  · cases h
  · rename_i n
    rw [if_neg n]
    exact e a o h
theorem rem_upd {H : Hp} {F : Addr} {o : HO} : rem (upd H F o) F = rem H F := by
  funext a
  unfold rem
  split
  · rfl
  · rename_i n
    rw [upd_ne n]
theorem rem_exB {H H' : Hp} {F : Addr} (e : ExB F H H') : Ex (rem H F) (rem H' F) := fun a o h => by
  unfold rem at h ⊢
  split at h
  · cases h
  · rename_i n
    rw [if_neg n]
    exact e a o n h
theorem rem_none {H : Hp} {F : Addr} (h : H F = none) : rem H F = H := by
  funext a
  unfold rem
  split
  · rename_i e
    rw [e, h]
  · rfl
end Hc
namespace Hc
open PySem PySem.Spec PyProof.Rows L2 Evl
/-! ### the rules with the written part named -/
section
variable {X : Cx} {e l : Expr} {te tl : TE} {tg : Expr} {pos p : Pos}
theorem isiK (K : PySem.W.Frag) (h : X.K = K := by rfl) : CallR X (.builtin "isinstance") (rIsi K) := by cases h; exact call_isi
theorem ixLK (K : PySem.W.Frag) (h : X.K = K := by rfl) : IxR X (rIxL K) := by cases h; exact ix_list
theorem ixTK (K : PySem.W.Frag) (h : X.K = K := by rfl) : IxR X (rIxT K) := by cases h; exact ix_tup
theorem slLK (K : PySem.W.Frag) (h : X.K = K := by rfl) : SlR X (rSlL K) := by cases h; exact sl_list
theorem allK (K : PySem.W.Frag) (h : X.K = K := by rfl) (hc : X.calm = true := by rfl) : CallR X (.builtin "all") (rAll K) := by cases h; exact cr_all hc
theorem anyK (K : PySem.W.Frag) (h : X.K = K := by rfl) (hc : X.calm = true := by rfl) : CallR X (.builtin "any") (rAny K) := by cases h; exact cr_any hc
theorem sumK (K : PySem.W.Frag) (h : X.K = K := by rfl) (hc : X.calm = true := by rfl) : CallR X (.builtin "sum") (rSum K) := by cases h; exact cr_sum hc
theorem minK (K : PySem.W.Frag) (h : X.K = K := by rfl) (hc : X.calm = true := by rfl) : CallR X (.builtin "min") (rMin K) := by cases h; exact cr_min hc
theorem maxK (K : PySem.W.Frag) (h : X.K = K := by rfl) (hc : X.calm = true := by rfl) : CallR X (.builtin "max") (rMax K) := by cases h; exact cr_max hc
theorem sortK (K : PySem.W.Frag) (h : X.K = K := by rfl) : CallR X (.builtin "sorted") (rSorted K) := by cases h; exact cr_sorted
theorem lenK (K : PySem.W.Frag) (h : X.K = K := by rfl) : CallR X (.builtin "len") (rLenS K) := by cases h; exact call_len_seq
theorem listK (K : PySem.W.Frag) (h : X.K = K := by rfl) : CallR X (.type "list") (rListS K) := by cases h; exact call_list_of
theorem inK (K : PySem.W.Frag) (h : X.K = K := by rfl) : OpR X (compareOp .In) (rIn K false) := by cases h; exact op_in_seq
theorem notInK (K : PySem.W.Frag) (h : X.K = K := by rfl) : OpR X (compareOp .NotIn) (rIn K true) := by cases h; exact op_notIn_seq
theorem eqDK (K : PySem.W.Frag) (hu : X.A.units + 64 < cLine) (h : X.K = K := by rfl) : OpR X (compareOp .Eq) (rEqD K) := by cases h; exact op_eqD hu
theorem neDK (K : PySem.W.Frag) (hu : X.A.units + 64 < cLine) (h : X.K = K := by rfl) : OpR X (compareOp .NotEq) (rNeD K) := by cases h; exact op_neD hu
theorem piL (K : PySem.W.Frag) (hl : PE X l tl) (h : X.K = K := by rfl) : PI X tg l (iList K tl) := by cases h; exact pi_list hl
theorem piT (K : PySem.W.Frag) (hl : PE X l tl) (h : X.K = K := by rfl) : PI X tg l (iTup K tl) := by cases h; exact pi_tup hl
theorem piE (K : PySem.W.Frag) {ta : TA} {tpos : Pos} {elts : List Expr} {kk : Nat} (hg : Gl X "enumerate") (hm : X.mg "enumerate" = none) (ha : PA X [e] ta) (hs : starEach [e] X.env = [(false, eval e X.env)] := by rfl) (h : X.K = K := by rfl) : PI X (.Tuple elts kk tpos) (.Call (.Name "enumerate" p) [e] [] pos) (iEnum K ta) := by cases h; exact pi_enum hg hm ha hs
theorem piZ (K : PySem.W.Frag) {e2 : Expr} {ta : TA} {tpos : Pos} {elts : List Expr} {kk : Nat} (hg : Gl X "zip") (hm : X.mg "zip" = none) (ha : PA X [e, e2] ta) (hs : starEach [e, e2] X.env = (false, eval e X.env) :: starEach [e2] X.env := by rfl) (hpl : (backTo pos (starEach [e2] X.env)).any (·.1) = false := by rfl) (h : X.K = K := by rfl) : PI X (.Tuple elts kk tpos) (.Call (.Name "zip" p) [e, e2] [] pos) (iZip K ta) := by cases h; exact pi_zip hg hm ha hs hpl
theorem pgT (K : PySem.W.Frag) {es : List Expr} {k : Nat} {t : TGs} {n : Nat} (h : PGs X es t) (hn : (assignEach es X.env).length = n := by rfl) (hst : (assignEach es X.env).findIdx? (·.1) = none := by rfl) (hK : X.K = K := by rfl) (hc : X.calm = true := by rfl) : PG X (.Tuple es k pos) (gTup K n t) := by cases hK; exact pg_tup hc h hn hst
end
end Hc
namespace Hc
open PySem PySem.Spec PyProof.Rows L2 Evl
theorem revLK {X : Cx} {e : Expr} {te : TE} {k : Nat} {p1 p2 p3 pos : Pos} (K : PySem.W.Frag) (he : PE X e te) (h : X.K = K := by rfl) : PE X (.Subscript e (.Slice none none (some (.UnaryOp .USub (.Constant (.int 1) k p1) p2)) p3) pos) (tRevL K te) := by cases h; exact pe_revL he
end Hc
namespace Hc
open PySem PySem.Spec PyProof.Rows L2 Evl
/-! ### rows from a place on -/
def dRows (n k : Nat) (f : Nat → Nat → Int) : PyData := .list (((List.range n).drop k).map fun i => dRow n (f i))
theorem lay_rows (n k : Nat) (f : Nat → Nat → Int) : (dRows n k f).canLay0 = true := lay_list _ fun d hd => by
  obtain ⟨j, _, rfl⟩ := List.mem_map.mp hd
  exact lay_row _ _
theorem shaped_rows (n k : Nat) (f : Nat → Nat → Int) : SeqAt.shaped (dRows n k f) = true := shaped_of (lay_rows n k f) (depth_list fun d hd => by
  obtain ⟨j, _, rfl⟩ := List.mem_map.mp hd
  exact depth_row _ _) (by decide)
theorem dp_rows {K : PySem.W.Frag} {H : Hp} {a : Addr} {rs : List Addr} {n k : Nat} {f : Nat → Nat → Int} (hl : rs.length = n) (h : SqL K H a ((rs.drop k).map V.ref)) (hr : ∀ i r, k ≤ i → rs[i]? = some r → SqL K H r (rowV n (f i))) : Dp K H (.ref a) (dRows n k f) := by
  refine .lst h (dpAll_of (by rw [List.length_map, List.length_map, List.length_drop, List.length_drop, List.length_range, hl]) fun i x d hx hd => ?_)
  rw [List.getElem?_map, List.getElem?_drop] at hx hd
  cases e : rs[k + i]? with
  | none => rw [e] at hx; cases hx
  | some r =>
    rw [e] at hx
    have hi : k + i < n := by rw [← hl]; exact (List.getElem?_eq_some_iff.mp e).1
    rw [List.getElem?_range hi] at hd
    cases hx
    cases hd
    exact dp_row (hr (k + i) r (Nat.le_add_right _ _) e)
end Hc

namespace Hc
open PySem PySem.Spec PyProof.Rows L2 Evl
def topS (i : Nat) : Stmt := PySem.Challenge.pw_headcounts_k01_whole_counted.main.body.getD i (.Pass ⟨0, 0, 0, 0⟩)
abbrev s_is_number : Stmt := topS 6
theorem sc_is_number : FnScope ["thing"] ["thing"] (defScope s_is_number) := ⟨rfl, rfl, rfl, by decide +kernel, rfl, by decide +kernel, by decide +kernel⟩
abbrev s_asked_candidates : Stmt := topS 7
theorem sc_asked_candidates : FnScope ["candidates"] ["candidates"] (defScope s_asked_candidates) := ⟨rfl, rfl, rfl, by decide +kernel, rfl, by decide +kernel, by decide +kernel⟩
abbrev s_are_ballots : Stmt := topS 8
theorem sc_are_ballots : FnScope ["candidates", "ballots", "ballot", "one"] ["candidates", "ballots"] (defScope s_are_ballots) := ⟨rfl, rfl, rfl, by decide +kernel, rfl, by decide +kernel, by decide +kernel⟩
abbrev s_asked_ballots : Stmt := topS 9
theorem sc_asked_ballots : FnScope ["candidates", "ballots"] ["candidates", "ballots"] (defScope s_asked_ballots) := ⟨rfl, rfl, rfl, by decide +kernel, rfl, by decide +kernel, by decide +kernel⟩
abbrev s_count_of : Stmt := topS 10
theorem sc_count_of : FnScope ["candidates", "ballots", "table", "order", "many", "at", "one", "other"] ["candidates", "ballots"] (defScope s_count_of) := ⟨rfl, rfl, rfl, by decide +kernel, rfl, by decide +kernel, by decide +kernel⟩
abbrev s_counted : Stmt := topS 11
theorem sc_counted : FnScope ["candidates", "ballots"] ["candidates", "ballots"] (defScope s_counted) := ⟨rfl, rfl, rfl, by decide +kernel, rfl, by decide +kernel, by decide +kernel⟩
abbrev s_law_number : Stmt := topS 13
theorem sc_law_number : FnScope ["_law_cell", "_law_at", "_law_whole", "_law_mixed", "_law_more"] ["_law_cell", "_law_at", "_law_whole"] (defScope s_law_number) := ⟨rfl, rfl, rfl, by decide +kernel, rfl, by decide +kernel, by decide +kernel⟩
abbrev s_law_ballots : Stmt := topS 14
theorem sc_law_ballots : FnScope ["_law_script", "_law_size", "_law_found", "_law_whole", "_law_at", "_law_cell", "_law_number_here", "_law_left", "_law_line"] ["_law_script", "_law_size"] (defScope s_law_ballots) := ⟨rfl, rfl, rfl, by decide +kernel, rfl, by decide +kernel, by decide +kernel⟩
abbrev s_law_count : Stmt := topS 15
theorem sc_law_count : FnScope ["_law_size", "_law_ballots_here", "_law_found", "_law_line", "_law_many", "_law_at", "_law_one", "_law_other"] ["_law_size", "_law_ballots_here"] (defScope s_law_count) := ⟨rfl, rfl, rfl, by decide +kernel, rfl, by decide +kernel, by decide +kernel⟩
abbrev s_law_is_table : Stmt := topS 16
theorem sc_law_is_table : FnScope ["_law_found", "_law_size", "_law_row", "_law_one"] ["_law_found", "_law_size"] (defScope s_law_is_table) := ⟨rfl, rfl, rfl, by decide +kernel, rfl, by decide +kernel, by decide +kernel⟩
abbrev s_law : Stmt := topS 17
theorem sc_law : FnScope ["_law_script", "_law_whole", "_law_size", "_law_ballots_here", "_law_handed", "_law_due", "_law_found", "_law_back", "_law_at", "_law_first", "_law_second", "_law_line", "_law_many", "_law_row", "_law_number_here", "_law_mine", "_law_theirs", "_law_one", "_law_other"] ["_law_script"] (defScope s_law) := ⟨rfl, rfl, rfl, by decide +kernel, rfl, by decide +kernel, by decide +kernel⟩
structure Tx (K : PySem.W.Frag) (mg : Str → Option Value) : Type where
  f_is_number : Addr
  d_is_number : FuncData
  F_is_number : Fun K "is_number" "is_number" s_is_number f_is_number d_is_number
  g_is_number : mg "is_number" = some (.ref f_is_number)
  f_asked_candidates : Addr
  d_asked_candidates : FuncData
  F_asked_candidates : Fun K "asked_candidates" "asked_candidates" s_asked_candidates f_asked_candidates d_asked_candidates
  g_asked_candidates : mg "asked_candidates" = some (.ref f_asked_candidates)
  f_are_ballots : Addr
  d_are_ballots : FuncData
  F_are_ballots : Fun K "are_ballots" "are_ballots" s_are_ballots f_are_ballots d_are_ballots
  g_are_ballots : mg "are_ballots" = some (.ref f_are_ballots)
  f_asked_ballots : Addr
  d_asked_ballots : FuncData
  F_asked_ballots : Fun K "asked_ballots" "asked_ballots" s_asked_ballots f_asked_ballots d_asked_ballots
  g_asked_ballots : mg "asked_ballots" = some (.ref f_asked_ballots)
  f_count_of : Addr
  d_count_of : FuncData
  F_count_of : Fun K "count_of" "count_of" s_count_of f_count_of d_count_of
  g_count_of : mg "count_of" = some (.ref f_count_of)
  f_counted : Addr
  d_counted : FuncData
  F_counted : Fun K "counted" "counted" s_counted f_counted d_counted
  g_counted : mg "counted" = some (.ref f_counted)
  f_law_number : Addr
  d_law_number : FuncData
  F_law_number : Fun K "_law_number" "_law_number" s_law_number f_law_number d_law_number
  g_law_number : mg "_law_number" = some (.ref f_law_number)
  f_law_ballots : Addr
  d_law_ballots : FuncData
  F_law_ballots : Fun K "_law_ballots" "_law_ballots" s_law_ballots f_law_ballots d_law_ballots
  g_law_ballots : mg "_law_ballots" = some (.ref f_law_ballots)
  f_law_count : Addr
  d_law_count : FuncData
  F_law_count : Fun K "_law_count" "_law_count" s_law_count f_law_count d_law_count
  g_law_count : mg "_law_count" = some (.ref f_law_count)
  f_law_is_table : Addr
  d_law_is_table : FuncData
  F_law_is_table : Fun K "_law_is_table" "_law_is_table" s_law_is_table f_law_is_table d_law_is_table
  g_law_is_table : mg "_law_is_table" = some (.ref f_law_is_table)
  f_law : Addr
  d_law : FuncData
  F_law : Fun K "law" "law" s_law f_law d_law
  g_law : mg "law" = some (.ref f_law)
  g_MOST : ∃ t, mg "MOST" = some (.int 20 t)
  n_all : mg "all" = none
  n_bool : mg "bool" = none
  n_enumerate : mg "enumerate" = none
  n_int : mg "int" = none
  n_isinstance : mg "isinstance" = none
  n_len : mg "len" = none
  n_list : mg "list" = none
  n_range : mg "range" = none
  n_sorted : mg "sorted" = none
  n_sum : mg "sum" = none
  n_tuple : mg "tuple" = none
  n_zip : mg "zip" = none
section
variable {K : PySem.W.Frag} {mg : Str → Option Value}
theorem b_is_number (T : Tx K mg) : Binds K T.d_is_number ["thing"] [] := T.F_is_number.binds fun _ _ _ _ _ _ us hl => match us, hl with | [_], _ => rfl
theorem b_asked_candidates (T : Tx K mg) : Binds K T.d_asked_candidates ["candidates"] [] := T.F_asked_candidates.binds fun _ _ _ _ _ _ us hl => match us, hl with | [_], _ => rfl
theorem b_are_ballots (T : Tx K mg) : Binds K T.d_are_ballots ["candidates", "ballots"] [] := T.F_are_ballots.binds fun _ _ _ _ _ _ us hl => match us, hl with | [_, _], _ => rfl
theorem b_asked_ballots (T : Tx K mg) : Binds K T.d_asked_ballots ["candidates", "ballots"] [] := T.F_asked_ballots.binds fun _ _ _ _ _ _ us hl => match us, hl with | [_, _], _ => rfl
theorem b_count_of (T : Tx K mg) : Binds K T.d_count_of ["candidates", "ballots"] [] := T.F_count_of.binds fun _ _ _ _ _ _ us hl => match us, hl with | [_, _], _ => rfl
theorem b_counted (T : Tx K mg) : Binds K T.d_counted ["candidates", "ballots"] [] := T.F_counted.binds fun _ _ _ _ _ _ us hl => match us, hl with | [_, _], _ => rfl
theorem b_law_number (T : Tx K mg) : Binds K T.d_law_number ["_law_cell", "_law_at", "_law_whole"] [] := T.F_law_number.binds fun _ _ _ _ _ _ us hl => match us, hl with | [_, _, _], _ => rfl
theorem b_law_ballots (T : Tx K mg) : Binds K T.d_law_ballots ["_law_script", "_law_size"] [] := T.F_law_ballots.binds fun _ _ _ _ _ _ us hl => match us, hl with | [_, _], _ => rfl
theorem b_law_count (T : Tx K mg) : Binds K T.d_law_count ["_law_size", "_law_ballots_here"] [] := T.F_law_count.binds fun _ _ _ _ _ _ us hl => match us, hl with | [_, _], _ => rfl
theorem b_law_is_table (T : Tx K mg) : Binds K T.d_law_is_table ["_law_found", "_law_size"] [] := T.F_law_is_table.binds fun _ _ _ _ _ _ us hl => match us, hl with | [_, _], _ => rfl
theorem b_law (T : Tx K mg) : Binds K T.d_law ["_law_script"] [] := T.F_law.binds fun _ _ _ _ _ _ us hl => match us, hl with | [_], _ => rfl
end
end Hc
namespace Hc
open PySem PySem.Spec PyProof.Rows L2 Evl
section
variable {P : Program} {w : World} {K : PySem.W.Frag} {mg : Str → Option Value} {base : Heap}
/-! ### types of things -/
section
variable {K : PySem.W.Frag} {H H' : Hp}
theorem tyx_L {a : Addr} {xs : List V} (h : SqL K H a xs) : TyX K H (.ref a) (.type "list") := by
  rcases h with (h | ⟨o, h⟩) | ⟨o, its, n, h1, h2, _⟩
  · exact .base (.lst h)
  · exact .base (.frz h)
  · exact .kList h1 h2
theorem tyx_T {a : Addr} {xs : List V} (h : SqT K H a xs) : TyX K H (.ref a) (.type "tuple") := by
  rcases h with (h | ⟨o, h⟩) | ⟨o, its, n, h1, h2, _⟩
  · exact .base (.tup h)
  · exact .fTuple h
  · exact .kTuple h1 h2
/-- what is_number says of a thing -/
def IsNum (K : PySem.W.Frag) (H : Hp) (x : V) (b : Bool) : Prop := ∃ (t : String) (b1 b2 : Bool), TyX K H x (.type t) ∧ kitB t "int" = some b1 ∧ kitB t "bool" = some b2 ∧ b = (b1 && !b2)
theorem isNum_int (i : Int) : IsNum K H (.int i) true := ⟨"int", true, false, .base (.int i), by decide +kernel, by decide +kernel, rfl⟩
def spIsNum (K : PySem.W.Frag) : Sp := fun vs H Q _ => ∃ (x : V) (b : Bool), vs = [x] ∧ IsNum K H x b ∧ Q (.bl b) H
def okB (n : Nat) (b : List Nat × Int) : Bool := decide (1 ≤ b.2) && b.1.isPerm (List.range n)
def spAskC : Sp := fun vs H Q _ => ∃ c : Int, vs = [.int c] ∧ 1 ≤ c ∧ c ≤ 20 ∧ Q .non H
def spAreB (K : PySem.W.Frag) : Sp := fun vs H Q _ => ∃ (n : Nat) (v : V) (bs : List (List Nat × Int)), vs = [.int (n : Int), v] ∧ n ≤ 20 ∧ BalsR K H v bs ∧ (∀ b ∈ bs, b.1.length < 60) ∧ ∀ H2, Ex H H2 → Q (.bl (bs.all (okB n))) H2
def spAskB (K : PySem.W.Frag) : Sp := fun vs H Q _ => ∃ (n : Nat) (v : V) (bs : List (List Nat × Int)), vs = [.int (n : Int), v] ∧ 1 ≤ n ∧ n ≤ 20 ∧ BalsR K H v bs ∧ bs.all (okB n) = true ∧ ∀ H2, Ex H H2 → Q .non H2
def spCount (K : PySem.W.Frag) : Sp := fun vs H Q _ => ∃ (n : Nat) (v : V) (bs : List (List Nat × Int)), vs = [.int (n : Int), v] ∧ n ≤ 20 ∧ BalsR K H v bs ∧ (∀ b ∈ bs, ∀ k ∈ b.1, k < n) ∧ ∀ H2 t rs, Ex H H2 → Tab H H2 t rs n (cnt bs) → Q (.ref t) H2
def spCounted (K : PySem.W.Frag) : Sp := fun vs H Q _ => ∃ (n : Nat) (v : V) (bs : List (List Nat × Int)), vs = [.int (n : Int), v] ∧ 1 ≤ n ∧ n ≤ 20 ∧ BalsR K H v bs ∧ bs.all (okB n) = true ∧ ∀ H2 t rs, Ex H H2 → Tab H H2 t rs n (cnt bs) → Q (.ref t) H2
end
theorem okB_len {n : Nat} {b : List Nat × Int} (h : okB n b = true) : b.1.length = n := by
  unfold okB at h
  rw [Bool.and_eq_true] at h
  have := (List.isPerm_iff.mp h.2).length_eq
  rw [List.length_range] at this
  exact this
theorem okB_lt {n : Nat} {b : List Nat × Int} (h : okB n b = true) : ∀ k ∈ b.1, k < n := fun k hk => by
  unfold okB at h
  rw [Bool.and_eq_true] at h
  exact List.mem_range.mp ((List.isPerm_iff.mp h.2).mem_iff.mp hk)
/-- a sorted list that is an arrangement of another one -/
theorem sorted_is_range {ns : List Int} {ks : List Nat} {n : Nat} (hp : ns.Perm (ks.map fun (k : Nat) => (k : Int))) (hs : ns.Pairwise (· ≤ ·)) : (ns = (List.range n).map fun (k : Nat) => (k : Int)) ↔ ks.Perm (List.range n) := by
  constructor
  · intro e
    rw [e] at hp
    have h2 := hp.map Int.toNat
    rw [List.map_map, List.map_map] at h2
    have e1 : ∀ l : List Nat, l.map (Int.toNat ∘ fun (k : Nat) => (k : Int)) = l := fun l => by
      have : (Int.toNat ∘ fun (k : Nat) => (k : Int)) = id := by
        funext k
        simp
      rw [this, List.map_id]
    rw [e1, e1] at h2
    exact h2.symm
  · intro h
    have h1 : ns.Perm ((List.range n).map fun (k : Nat) => (k : Int)) := hp.trans (h.map _)
    have h2 : ((List.range n).map fun (k : Nat) => (k : Int)).Pairwise (· ≤ ·) := by
      rw [List.pairwise_map]
      exact List.Pairwise.imp (fun {a b} h => by omega) (List.pairwise_lt_range (n := n))
    exact h1.eq_of_pairwise (le := (· ≤ ·)) (fun a b _ _ h1 h2 => by omega) hs h2
theorem ok_is_number (T : Tx K mg) : FnOk P w K mg base CX0 1 T.f_is_number T.d_is_number ["thing"] (spIsNum K) := by
  refine T.F_is_number.ok sc_is_number (fun vs H Q E h => ?_) (fun cdv A outer s H vs Q E hr h => ?_)
  · obtain ⟨x, b, rfl, _⟩ := h
    rfl
  · obtain ⟨x, b, rfl, ⟨t, b1, b2, hT, k1, k2, rfl⟩, q⟩ := h
    refine ⟨_, pss_one (ps_ret (pe_and (pe_callB (isiK K) (by rfl) T.n_isinstance PyProof.Rows.boot_isinstance (pa_cons (pv 0) (pa_cons (pe_bltn (v := .ty "int") (by rfl) T.n_int bt_int rfl) pa_nil))) (pe_one (pe_not (pe_callB (isiK K) (by rfl) T.n_isinstance PyProof.Rows.boot_isinstance (pa_cons (pv 0) (pa_cons (pe_bltn (v := .ty "bool") (by rfl) T.n_bool bt_bool rfl) pa_nil))))))), ?_⟩
    refine ⟨x, rfl, x, .ty "int", _, _, b1, rfl, .ty _, hT, kit_ty k1, b1, rfl, ?_⟩
    cases b1 with
    | false => exact q
    | true => exact ⟨x, rfl, x, .ty "bool", _, _, b2, rfl, .ty _, hT, kit_ty k2, b2, rfl, q⟩
theorem ok_asked_candidates (T : Tx K mg) : FnOk P w K mg base CX0 2 T.f_asked_candidates T.d_asked_candidates ["candidates"] spAskC := by
  refine T.F_asked_candidates.ok sc_asked_candidates (fun vs H Q E h => ?_) (fun cdv A outer s H vs Q E hr h => ?_)
  · obtain ⟨c, rfl, _⟩ := h
    rfl
  · obtain ⟨c, rfl, h1, h2, q⟩ := h
    refine ⟨_, pss_one (ps_if (PW.pt (pw_or (pt_not (pt_val (pe_call (ok_is_number T) (hr.mono (by decide)) (by rfl) T.g_is_number T.F_is_number.kp (b_is_number T) .nil pass0 (pa_cons (pv 0) pa_nil)))) (pw_or1 (pt_not (pt_chain op_le op_le pe_int (pv 0) (pe_glob (v := .int 20) (by rfl) T.g_MOST.choose_spec ⟨_, rfl⟩)))))) (pss_one (ps_never)) (pss_nil)), ?_⟩
    refine ⟨_, rfl, _, true, rfl, isNum_int c, true, rfl, ?_⟩
    refine ⟨_, rfl, _, _, rfl, rfl, _, rfl, ?_⟩
    rw [if_pos (decide_eq_true h1)]
    refine ⟨_, _, rfl, rfl, _, rfl, ?_⟩
    rw [decide_eq_true h2]
    exact q
theorem ok_are_ballots (T : Tx K mg) : FnOk P w K mg base CX0 2 T.f_are_ballots T.d_are_ballots ["candidates", "ballots"] (spAreB K) := by
  refine T.F_are_ballots.ok sc_are_ballots (fun vs H Q E h => ?_) (fun cdv A outer s H vs Q E hr h => ?_)
  · obtain ⟨n, v, bs, rfl, _⟩ := h
    rfl
  · obtain ⟨n, v, bs, rfl, hn, ⟨a, xs, rfl, hS, hP⟩, h60, q⟩ := h
    refine ⟨_, pss_cons (ps_for PassesOwn.never rfl (piL K (pv 1)) (pg_name (i := 2) sc_are_ballots.nd rfl (by first | exact Or.inl rfl | exact Or.inr rfl))
        (pss_cons (ps_if (PW.pt (pw_or (pt_not (pt_val (pe_callB (isiK K) (by rfl) T.n_isinstance PyProof.Rows.boot_isinstance (pa_cons (pv 2) (pa_cons (pe_bltn (v := .ty "tuple") (by rfl) T.n_tuple bt_tuple rfl) pa_nil))))) (pw_or (pt_cmpR op_ne (pe_callB (lenK K) (by rfl) T.n_len PySem.boot_len (pa_cons (pv 2) pa_nil)) pe_int (nomark _)) (pw_or1 (pt_not (pt_val (pe_callB (isiK K) (by rfl) T.n_isinstance PyProof.Rows.boot_isinstance (pa_cons (pe_ix (ixTK K) (pv 2) pe_int (fun _ _ => rfl)) (pa_cons (pe_bltn (v := .ty "list") (by rfl) T.n_list bt_list rfl) pa_nil))))))))) (pss_one (ps_ret pe_bl)) (pss_nil))
      (pss_cons (ps_if (PW.pt (pw_or (pt_not (pt_val (pe_call (ok_is_number T) (hr.mono (by decide)) (by rfl) T.g_is_number T.F_is_number.kp (b_is_number T) .nil pass0 (pa_cons (pe_ix (ixTK K) (pv 2) pe_int (fun _ _ => rfl)) pa_nil)))) (pw_or (pt_cmpR op_lt (pe_ix (ixTK K) (pv 2) pe_int (fun _ _ => rfl)) pe_int (nomark _)) (pw_or1 (pt_not (pt_val (pe_callB (allK K) (by rfl) T.n_all PyProof.Rows.boot_all (pa_cons (pe_lc (own := [("one", 3)]) rfl sc_are_ballots.nd (piL K (pe_ix (ixTK K) (pv 2) pe_int (fun _ _ => rfl))) (blkOk_by (own := [("one", 3)]) (N := ["candidates", "ballots", "ballot", "one"]) (sc := defScope s_are_ballots) (by decide +kernel)) (fun _ _ _ _ _ => (pg_name (i := 3) sc_are_ballots.nd rfl (by first | exact Or.inl rfl | exact Or.inr rfl))) (fun _ _ _ _ _ => pts_nil) (fun _ _ _ _ _ => (pe_call (ok_is_number T) (hr.mono (by decide)) (by rfl) T.g_is_number T.F_is_number.kp (b_is_number T) .nil pass0 (pa_cons (pv 3) pa_nil)))) pa_nil)))))))) (pss_one (ps_ret pe_bl)) (pss_nil))
      (pss_one (ps_if (pt_cmpR (neDK K hr.units) (pe_callB (sortK K) (by rfl) T.n_sorted PyProof.Rows.boot_sorted (pa_cons (pe_ix (ixTK K) (pv 2) pe_int (fun _ _ => rfl)) pa_nil)) (pe_listRg rfl (by rfl) T.n_list (prg_1 (by rfl) T.n_range (pv 0))) (nomark _)) (pss_one (ps_ret pe_bl)) (pss_nil))))))
      (pss_one (ps_ret pe_bl)), ?_⟩
    refine ⟨.ref a, rfl, a, rfl, ⟨xs, hS⟩, for_list (K := K) (a := a) (xs := xs) (fun i σ' H' => ∃ y, σ' = [some (.int n), some (.ref a), y, none] ∧ Ex H H' ∧ (bs.take i).all (okB n) = true)
      ⟨none, rfl, Ex.refl H, rfl⟩ (fun i σ' H' _ ⟨_, _, e, _⟩ => ex_l e hS) ?_ ?_⟩
    · rintro i x σ' H' hi ⟨y, rfl, e, hall⟩
      obtain ⟨b, hb, t, l, rfl, hT, hL⟩ := Paired.get hP hi
      have hbm : b ∈ bs := List.mem_of_getElem? hb
      have hT1 := ex_t e hT
      have hL1 := ex_l e hL
      have bad : okB n b = false → ∀ H2, Ex H H2 → Q (.bl false) H2 := fun hx H2 e2 => by
        have : bs.all (okB n) = false := by
          rw [List.all_eq_false]
          exact ⟨b, hbm, by rw [hx]; decide⟩
        rw [← this]
        exact q H2 e2
      refine ⟨.ref t, rfl, .ref t, .ty "tuple", _, _, true, rfl, .ty _, tyx_T hT1, kit_ty (by decide +kernel), true, rfl, ?_⟩
      refine ⟨.ref t, rfl, t, _, rfl, .inr hT1, rfl, _, rfl, ?_⟩
      refine ⟨.ref t, rfl, t, _, 0, .ref l, rfl, rfl, hT1, rfl, .ref l, .ty "list", _, _, true, rfl, .ty _, tyx_L hL1, kit_ty (by decide +kernel), true, rfl, ?_⟩
      refine ⟨.ref t, rfl, t, _, 1, .int b.2, rfl, rfl, hT1, rfl, _, true, rfl, isNum_int _, true, rfl, ?_⟩
      refine ⟨.ref t, rfl, t, _, 1, .int b.2, rfl, rfl, hT1, rfl, _, _, rfl, rfl, _, rfl, ?_⟩
      refine it2 (fun hm0 => ?_) (fun hm0 => ?_)
      · have hm : b.2 < 1 := of_decide_eq_true hm0
        exact bad (by unfold okB; rw [decide_eq_false (by omega)]; rfl) _ e
      · have hm : ¬ b.2 < 1 := of_decide_eq_false hm0
        refine ⟨.ref t, rfl, t, _, 0, .ref l, rfl, rfl, hT1, rfl, l, rfl, ⟨_, hL1⟩, fun D hD => ?_⟩
        refine lc_vals (walk_list (K := K) (a := l) (xs := nv b.1)) hD (by rw [nv_length]; have := h60 b hbm; omega) (fun H2 e2 => ex_l e2 hL1) (fun _ => V.bl true) ?_ ?_
        · rintro j x H2 H2' hj e2 ⟨rfl, hx⟩ Qc hq
          obtain ⟨k, _, rfl⟩ := nv_get hx
          exact ⟨rfl, _, rfl, _, true, rfl, isNum_int _, hq _ (Ex.refl _)⟩
        · intro H2 e2 hD2
          rw [map_const_bl] at hD2
          refine ⟨D, _, rfl, sq_of hD2, true, by rw [all_const_true], ?_⟩
          have hT2 := ex_t e2 hT1
          have hL2 := ex_l e2 hL1
          rw [nv_iv] at hL2
          refine ⟨.ref t, rfl, t, _, 0, .ref l, rfl, rfl, hT2, rfl, l, _, rfl, hL2, by rw [List.length_map]; have := h60 b hbm; omega, fun ns p perm srt hp => ?_⟩
          have e3 : Ex H2 (upd H2 p (.lst (ns.map V.int))) := Ex.new hp
          refine ⟨_, rfl, n, rfl, rgOk_nat (by omega), fun r hr' => ?_⟩
          have e4 : Ex (upd H2 p (.lst (ns.map V.int))) _ := Ex.new (o := .lst (rgV 0 (n : Int))) hr'
          refine ⟨_, _, dp_ints (ns := ns) (sq_of (e4 _ _ upd_same)), dp_ints (ns := (List.range n).map fun (k : Nat) => (k : Int)) (sq_of ?_), shaped_ints _, shaped_ints _, _, rfl, ?_⟩
          · rw [upd_same, rgV_nv, nv_iv]
          · have e5 := (e.trans e2).trans (e3.trans e4)
            by_cases hq2 : ns = (List.range n).map fun (k : Nat) => (k : Int)
            · refine itF (by rw [eqv_ints, decide_eq_true hq2]; rfl) ?_
              refine ⟨_, rfl, e5, ?_⟩
              rw [List.take_add_one, hb, List.all_append, hall]
              show (true && ([b].all (okB n))) = true
              have : okB n b = true := by
                unfold okB
                rw [decide_eq_true (by omega), List.isPerm_iff.mpr ((sorted_is_range perm srt).mp hq2)]
                rfl
              simp [this]
            · refine itT (by rw [eqv_ints, decide_eq_false hq2]; rfl) ?_
              refine bad ?_ _ e5
              unfold okB
              have : b.1.isPerm (List.range n) = false := by
                cases hz : b.1.isPerm (List.range n) with
                | false => rfl
                | true => exact absurd ((sorted_is_range perm srt).mpr (List.isPerm_iff.mp hz)) hq2
              rw [this, Bool.and_false]
    · rintro σ' H' ⟨y, rfl, e, hall⟩
      rw [show xs.length = bs.length from Paired.len hP, List.take_length] at hall
      rw [hall] at q
      exact q H' e
theorem ok_asked_ballots (T : Tx K mg) : FnOk P w K mg base CX0 3 T.f_asked_ballots T.d_asked_ballots ["candidates", "ballots"] (spAskB K) := by
  refine T.F_asked_ballots.ok sc_asked_ballots (fun vs H Q E h => ?_) (fun cdv A outer s H vs Q E hr h => ?_)
  · obtain ⟨n, v, bs, rfl, _⟩ := h
    rfl
  · obtain ⟨n, v, bs, rfl, hn1, hn, hB, hok, q⟩ := h
    obtain ⟨a, xs, rfl, hS, hP⟩ := id hB
    refine ⟨_, pss_cons (ps_expr (pe_call (ok_asked_candidates T) (hr.mono (by decide)) (by rfl) T.g_asked_candidates T.F_asked_candidates.kp (b_asked_candidates T) .nil pass0 (pa_cons (pv 0) pa_nil)))
      (pss_one (ps_if (PW.pt (pw_or (pt_not (pt_val (pe_callB (isiK K) (by rfl) T.n_isinstance PyProof.Rows.boot_isinstance (pa_cons (pv 1) (pa_cons (pe_bltn (v := .ty "list") (by rfl) T.n_list bt_list rfl) pa_nil))))) (pw_or1 (pt_not (pt_val (pe_call (ok_are_ballots T) (hr.mono (by decide)) (by rfl) T.g_are_ballots T.F_are_ballots.kp (b_are_ballots T) .nil pass0 (pa_cons (pv 0) (pa_cons (pv 1) pa_nil)))))))) (pss_one (ps_never)) (pss_nil))), ?_⟩
    refine ⟨_, rfl, n, rfl, by omega, by omega, ?_⟩
    refine ⟨_, rfl, .ref a, .ty "list", _, _, true, rfl, .ty _, tyx_L hS, kit_ty (by decide +kernel), true, rfl, ?_⟩
    refine ⟨_, rfl, _, rfl, n, _, bs, rfl, hn, hB, fun b hb => ?_, fun H2 e2 => ?_⟩
    · rw [okB_len (List.all_eq_true.mp hok b hb)]
      omega
    · rw [hok]
      exact ⟨true, rfl, q H2 e2⟩
theorem ok_count_of (T : Tx K mg) : FnOk P w K mg base CX0 1 T.f_count_of T.d_count_of ["candidates", "ballots"] (spCount K) := by
  refine T.F_count_of.ok sc_count_of (fun vs H Q E h => ?_) (fun cdv A outer s H vs Q E hr h => ?_)
  · obtain ⟨n, v, bs, rfl, _⟩ := h
    rfl
  · obtain ⟨n, v, bs, rfl, hn, ⟨a, xs, rfl, hS, hP⟩, hk, q⟩ := h
    refine ⟨_, pss_cons (ps_setLc (i := 2) (own := [("one", 6)]) rfl sc_count_of.nd rfl rfl (sw_true rfl rfl rfl (by decide +kernel)) (pi_range1 (by rfl) T.n_range (pa_cons (pv 0) pa_nil)) (blkOk_by (own := [("one", 6)]) (N := ["candidates", "ballots", "table", "order", "many", "at", "one", "other"]) (sc := defScope s_count_of) (by decide +kernel)) (fun _ _ _ _ _ => (pg_name (i := 6) sc_count_of.nd rfl (by first | exact Or.inl rfl | exact Or.inr rfl))) (fun _ _ _ _ _ => pts_nil) (fun _ _ _ _ _ => (pe_op op_rep (pe_lst (pa_cons pe_int pa_nil)) (pv 0))))
      (pss_cons (ps_for PassesOwn.never rfl (piL K (pv 1)) (pgT K (n := 2) (pgs_cons (pg_name (i := 3) sc_count_of.nd rfl (by first | exact Or.inl rfl | exact Or.inr rfl)) (pgs_cons (pg_name (i := 4) sc_count_of.nd rfl (by first | exact Or.inl rfl | exact Or.inr rfl)) pgs_nil)))
        (pss_one (ps_for PassesOwn.never rfl (piE K (by rfl) T.n_enumerate (pa_cons (pv 3) pa_nil)) (pgT K (n := 2) (pgs_cons (pg_name (i := 5) sc_count_of.nd rfl (by first | exact Or.inl rfl | exact Or.inr rfl)) (pgs_cons (pg_name (i := 6) sc_count_of.nd rfl (by first | exact Or.inl rfl | exact Or.inr rfl)) pgs_nil)))
        (pss_one (ps_for PassesOwn.never rfl (piL K (pe_slice (slLK K) (pv 3) (po_some (pe_op op_add (pv 5) pe_int)) po_none)) (pg_name (i := 7) sc_count_of.nd rfl (by first | exact Or.inl rfl | exact Or.inr rfl))
        (pss_cons (ps_asg (pe_op op_add (pe_ix (ixLK K) (pe_ix (ixLK K) (pv 2) (pv 6) (fun _ _ => rfl)) (pv 7) (fun _ _ => rfl)) (pv 4)) (pg_sub (pe_ix (ixLK K) (pv 2) (pv 6) (fun _ _ => rfl)) (pv 7) set_list))
      (pss_one (ps_asg (pe_op op_sub (pe_ix (ixLK K) (pe_ix (ixLK K) (pv 2) (pv 7) (fun _ _ => rfl)) (pv 6) (fun _ _ => rfl)) (pv 4)) (pg_sub (pe_ix (ixLK K) (pv 2) (pv 7) (fun _ _ => rfl)) (pv 6) set_list)))))))))
      (pss_one (ps_ret (pv 2)))), ?_⟩
    refine ⟨_, rfl, n, rfl, by omega, by omega, fun D hD => ?_⟩
    refine lc_rows (n := n) (walk_range (lo := 0) (n := n)) hD (by omega) (fun _ _ => trivial) (fun _ => rowV n (fun _ => 0)) ?_ ?_
    · rintro i x H2 H2' hi e2 ⟨rfl, rfl⟩ Qc hq
      refine ⟨rfl, (by decide : 1 ≤ sizeLine), fun p hp => ⟨_, rfl, p, n, _, rfl, rfl, upd_same, by omega, by omega, ?_, fun r hr' => ?_⟩⟩
      · show 1 * (n : Int).toNat ≤ sizeLine
        exact sz_of (by omega)
      · have e3 : Ex H2' (upd H2' p (.lst [V.int 0])) := Ex.new hp
        refine hq r _ (fresh_back e3 hr') (e3.trans (Ex.new hr')) ?_
        rw [upd_same]
        show some (HO.lst (List.replicate n [V.int 0]).flatten) = _
        rw [rep_row]
    · intro H2 ps e2 hD2 hlen R
      have T0 : Tab H H2 D ps n (fun _ _ => 0) := R.tab hD hD2 hlen
      refine ⟨.ref a, rfl, a, rfl, ⟨xs, ex_l e2 hS⟩, for_list (K := K) (a := a) (xs := xs) (fun i σ' H' => ∃ y3 y4 y5 y6 y7, σ' = [some (.int n), some (.ref a), some (.ref D), y3, y4, y5, y6, y7] ∧ Ex H H' ∧ Tab H H' D ps n (cnt (bs.take i)))
        ⟨none, none, none, none, none, rfl, e2, T0⟩ (fun i σ' H' _ ⟨_, _, _, _, _, _, e, _⟩ => ex_l e hS) ?_ ?_⟩
      · rintro i x σ' H' hi ⟨y3, y4, y5, y6, y7, rfl, e, TT⟩
        obtain ⟨b, hb, t, l, rfl, hT, hL⟩ := Paired.get hP hi
        have hbm : b ∈ bs := List.mem_of_getElem? hb
        refine ⟨t, _, rfl, ex_t e hT, rfl, .ref l, _, rfl, .int b.2, [], rfl, rfl, ?_⟩
        refine ⟨.ref l, rfl, l, nv b.1, rfl, ex_l e hL, ?_⟩
        refine for_it (walk_enum (K := K) (a := l) (xs := nv b.1)) (fun p σ' H' => ∃ y5 y6 y7, σ' = [some (.int n), some (.ref a), some (.ref D), some (.ref l), some (.int b.2), y5, y6, y7] ∧ Ex H H' ∧ Tab H H' D ps n (fun i' j' => cnt (bs.take i) i' j' + b.2 * psA i' j' p b.1))
          ⟨_, _, _, rfl, e, TT.congr fun i' j' _ _ => by show cnt (bs.take i) i' j' = cnt (bs.take i) i' j' + b.2 * 0; omega⟩ (fun p σ' H' _ ⟨_, _, _, _, e, _⟩ => ex_l e hL) ?_ ?_
        · rintro p x σ' H' H'' hp ⟨y5, y6, y7, rfl, e, TT⟩ ⟨U, x1, x2, rfl, nU, rfl, h1, h2⟩
          cases h1
          obtain ⟨k, hk', rfl⟩ := nv_get h2
          have hkn : k < n := hk b hbm k (List.mem_of_getElem? hk')
          refine ⟨U, _, rfl, st_of upd_same, rfl, _, _, rfl, _, [], rfl, rfl, ?_⟩
          have e3 : Ex H' (upd H' U (.tup [.int (p : Nat), .int k])) := Ex.new nU
          refine ⟨.ref l, rfl, .int p, rfl, _, _, rfl, rfl, _, rfl, l, nv b.1, rfl, ex_l (e.trans e3) hL, fun c nc => ?_⟩
          rw [cut_nv_from]
          have e4 : Ex _ (upd (upd H' U (.tup [.int (p : Nat), .int k])) c (.lst (nv (b.1.drop (p + 1))))) := Ex.new nc
          have ncr : ∀ r ∈ ps, c ≠ r := fun r hr' ec => by
            obtain ⟨i0, hi0, ei0⟩ := List.mem_iff_getElem.mp hr'
            have := (TT.mono e3).row i0 r (by rw [List.getElem?_eq_getElem hi0, ei0])
            rw [← ec, nc] at this
            cases this
          refine ⟨c, rfl, ⟨_, sq_of upd_same⟩, for_list (K := K) (a := c) (xs := nv (b.1.drop (p + 1))) (fun z σ' H' => ∃ y7, σ' = [some (.int n), some (.ref a), some (.ref D), some (.ref l), some (.int b.2), some (.int p), some (.int k), y7] ∧ Ex H H' ∧ H' c = some (.lst (nv (b.1.drop (p + 1)))) ∧ Tab H H' D ps n (fun i' j' => cnt (bs.take i) i' j' + b.2 * (psA i' j' p b.1 + dsum i' j' k ((b.1.drop (p + 1)).take z))))
            ⟨_, rfl, (e.trans e3).trans e4, upd_same, ((TT.mono e3).mono e4).congr fun i' j' _ _ => by show _ = cnt (bs.take i) i' j' + b.2 * (psA i' j' p b.1 + 0); rw [Int.add_zero]⟩ (fun z σ' H' _ ⟨_, _, _, hc, _⟩ => sq_of hc) ?_ ?_⟩
          · rintro z x σ' H' hz ⟨y7, rfl, e, hc, TT⟩
            obtain ⟨m, hm, rfl⟩ := nv_get hz
            have hmn : m < n := hk b hbm m (List.mem_of_mem_drop (List.mem_of_getElem? hm))
            obtain ⟨r1, g1, m1, x1, c1⟩ := TT.at_ hkn
            have T1 := TT.put (b := m) (z := (cnt (bs.take i) k m + b.2 * (psA k m p b.1 + dsum k m k ((b.1.drop (p + 1)).take z))) + b.2) g1
            have e5 := fun o => TT.exMut (o := o) e m1
            obtain ⟨r2, g2, m2, x2, c2⟩ := T1.at_ hmn
            refine ⟨.ref D, rfl, .int k, rfl, D, _, k, .ref r1, rfl, rfl, sq_of TT.top, atI_nat x1, .int m, rfl, r1, _, m, .int _, rfl, rfl, sq_of c1, atI_nat (rowV_get hmn), .int b.2, rfl, _, _, rfl, rfl, .ref D, rfl, .int k, rfl, D, _, k, .ref r1, rfl, rfl, sq_of TT.top, atI_nat x1, .int m, rfl, r1, _, m, m, rfl, rfl, c1, ixN_nat (by rw [rowV_length]; exact hmn), ?_⟩
            refine ⟨.ref D, rfl, .int m, rfl, D, _, m, .ref r2, rfl, rfl, sq_of T1.top, atI_nat x2, .int k, rfl, r2, _, k, .int _, rfl, rfl, sq_of c2, atI_nat (rowV_get hkn), .int b.2, rfl, _, _, rfl, rfl, .ref D, rfl, .int m, rfl, D, _, m, .ref r2, rfl, rfl, sq_of T1.top, atI_nat x2, .int k, rfl, r2, _, k, k, rfl, rfl, c2, ixN_nat (by rw [rowV_length]; exact hkn), ?_⟩
            have T2 := T1.put (b := k) (z := (if m = k ∧ k = m then (cnt (bs.take i) k m + b.2 * (psA k m p b.1 + dsum k m k ((b.1.drop (p + 1)).take z))) + b.2 else (cnt (bs.take i) m k + b.2 * (psA m k p b.1 + dsum m k k ((b.1.drop (p + 1)).take z)))) - b.2) g2
            refine ⟨_, rfl, T1.exMut (e5 _) m2, ?_, T2.congr fun i' j' _ _ => ?_⟩
            · rw [upd_ne (ncr r2 m2), upd_ne (ncr r1 m1)]
              exact hc
            · rw [put_two (fun i' j' => cnt (bs.take i) i' j' + b.2 * (psA i' j' p b.1 + dsum i' j' k ((b.1.drop (p + 1)).take z))), dsum_take_succ _ _ _ _ _ _ hm]
              rw [Int.mul_add, Int.mul_add, Int.mul_add]
              omega
          · rintro σ' H' ⟨y7, rfl, e, hc, TT⟩
            refine ⟨_, _, _, rfl, e, TT.congr fun i' j' _ _ => ?_⟩
            rw [nv_length, List.take_length, psA_succ _ _ _ _ _ hk']
        · rintro σ' H' ⟨y5, y6, y7, rfl, e, TT⟩
          refine ⟨_, _, _, _, _, rfl, e, TT.congr fun i' j' _ _ => ?_⟩
          rw [nv_length, psA_all, cnt_take_succ _ _ _ hb]
      · rintro σ' H' ⟨y3, y4, y5, y6, y7, rfl, e, TT⟩
        rw [show xs.length = bs.length from Paired.len hP, List.take_length] at TT
        exact ⟨_, rfl, q H' D ps e TT⟩
theorem ok_counted (T : Tx K mg) : FnOk P w K mg base CX0 4 T.f_counted T.d_counted ["candidates", "ballots"] (spCounted K) := by
  refine T.F_counted.ok sc_counted (fun vs H Q E h => ?_) (fun cdv A outer s H vs Q E hr h => ?_)
  · obtain ⟨n, v, bs, rfl, _⟩ := h
    rfl
  · obtain ⟨n, v, bs, rfl, hn1, hn, hB, hok, q⟩ := h
    refine ⟨_, pss_cons (ps_expr (pe_call (ok_asked_ballots T) (hr.mono (by decide)) (by rfl) T.g_asked_ballots T.F_asked_ballots.kp (b_asked_ballots T) .nil pass0 (pa_cons (pv 0) (pa_cons (pv 1) pa_nil))))
      (pss_one (ps_ret (pe_call (ok_count_of T) (hr.mono (by decide)) (by rfl) T.g_count_of T.F_count_of.kp (b_count_of T) .nil pass0 (pa_cons (pv 0) (pa_cons (pv 1) pa_nil))))), ?_⟩
    refine ⟨_, rfl, _, rfl, n, v, bs, rfl, hn1, hn, hB, hok, fun H2 e2 => ?_⟩
    refine ⟨_, rfl, _, rfl, n, v, bs, rfl, hn, hB.mono e2, fun b hb => okB_lt (List.all_eq_true.mp hok b hb), fun H3 t rs e3 TT => q H3 t rs (e2.trans e3) (TT.base e2)⟩
end
end Hc
namespace Hc
open PySem PySem.Spec PyProof.Rows L2 Evl
section
variable {P : Program} {w : World} {K : PySem.W.Frag} {mg : Str → Option Value} {base : Heap}
def lawNum (c a w : Int) : Int := if 10 ^ 18 ≤ c then c / (1 + a % 7) else
  (((c + 977 * a) * 48271 + w) % 2147483647 * (c + 31 * a + 7)) * (((c + 977 * a) * 48271 + w) % 2147483647 + c + 5) * (((c + 977 * a) * 48271 + w) % 2147483647 * (((c + 977 * a) * 48271 + w) % 2147483647) + 11) / (1009 + a)
def spLawNum : Sp := fun vs H Q _ => ∃ (c a w : Int) (B : Nat), vs = [.int c, .int a, .int w] ∧ 0 ≤ a ∧ a ≤ 1000 ∧ Big B c ∧ B ≤ 2000000 ∧ Q (.int (lawNum c a w)) H
theorem mod31 (x : Int) : 0 ≤ x % 2147483647 ∧ x % 2147483647 < 2147483647 := ⟨Int.emod_nonneg _ (by decide), Int.emod_lt_of_pos _ (by decide)⟩
theorem ok_law_number (T : Tx K mg) : FnOk P w K mg base CX0 1 T.f_law_number T.d_law_number ["_law_cell", "_law_at", "_law_whole"] spLawNum := by
  refine T.F_law_number.ok sc_law_number (fun vs H Q E h => ?_) (fun cdv A outer s H vs Q E hr h => ?_)
  · obtain ⟨c, a, w', B, rfl, _⟩ := h
    rfl
  · obtain ⟨c, a, w', B, rfl, ha0, ha1, hB, hB2, q⟩ := h
    refine ⟨_, pss_cons (ps_if (pt_cmpR op_ge (pv 0) (pe_op op_pow pe_int pe_int) (nomark _)) (pss_one (ps_ret (pe_op op_fdivW (pv 0) (pe_op op_add pe_int (pe_op op_mod (pv 1) pe_int))))) (pss_nil))
      (pss_cons (ps_set (i := 3) sc_law_number.nd rfl (Or.inl rfl) (pe_op op_mod (pe_op op_add (pe_op op_mulG (pe_op op_add (pv 0) (pe_op op_mulG pe_int (pv 1))) pe_int) (pv 2)) pe_int))
      (pss_cons (ps_set (i := 4) sc_law_number.nd rfl (Or.inl rfl) (pe_op op_mulG (pv 3) (pe_op op_add (pe_op op_add (pv 0) (pe_op op_mulG pe_int (pv 1))) pe_int)))
      (pss_one (ps_ret (pe_op op_fdivW (pe_op op_mulG (pe_op op_mulG (pv 4) (pe_op op_add (pe_op op_add (pv 3) (pv 0)) pe_int)) (pe_op op_add (pe_op op_mulG (pv 3) (pv 3)) pe_int)) (pe_op op_add pe_int (pv 1))))))), ?_⟩
    refine ⟨_, rfl, _, _, rfl, rfl, ⟨by decide, by decide, by decide⟩, _, _, rfl, rfl, _, rfl, it2 (fun hc => ?_) (fun hc => ?_)⟩
    · have hc1 : (10 : Int) ^ 18 ≤ c := of_decide_eq_true hc
      have h7 := Int.emod_lt_of_pos a (show (0 : Int) < 7 by decide)
      have h70 := Int.emod_nonneg a (show (7 : Int) ≠ 0 by decide)
      refine ⟨_, rfl, _, rfl, _, _, rfl, rfl, (by decide : (0 : Int) < 7), _, _, rfl, rfl, _, _, rfl, rfl, divW_small (by omega) (by omega), ?_⟩
      unfold lawNum at q
      rw [if_pos hc1] at q
      exact q
    · have hc1 : ¬ (10 : Int) ^ 18 ≤ c := of_decide_eq_false hc
      unfold lawNum at q
      rw [if_neg hc1] at q
      obtain ⟨m0, m1⟩ := mod31 ((c + 977 * a) * 48271 + w')
      refine ⟨_, rfl, _, rfl, _, _, rfl, rfl, mulOk_small (by decide) (by decide), _, _, rfl, rfl, _, _, rfl, rfl, mulOk_smallR (by decide) (by decide), _, rfl, _, _, rfl, rfl, _, _, rfl, rfl, (by decide : (0 : Int) < 2147483647), ?_⟩
      dsimp only
      generalize ((c + 977 * a) * 48271 + w') % 2147483647 = m at m0 m1 q ⊢
      refine ⟨_, rfl, _, rfl, _, rfl, _, _, rfl, rfl, mulOk_small (by decide) (by decide), _, _, rfl, rfl, _, _, rfl, rfl, _, _, rfl, rfl, mulOk_small (by omega) (by omega), ?_⟩
      have hc' : Big (B + 64) c := hB.mono (Nat.le_add_right _ _)
      have b1 : Big (B + 64 + 1 + 1) (c + 31 * a + 7) := Big.add (Big.add hc' (big_small (Nat.le_add_left _ _) (by omega) (by omega))) (big_small (by omega) (by decide) (by decide))
      have b2 : Big (B + 64 + 1 + 1) (m + c + 5) := Big.add (Big.add (big_small (Nat.le_add_left _ _) (by omega) (by omega)) hc') (big_small (by omega) (by decide) (by decide))
      have b3 : Big (64 + (B + 64 + 1 + 1)) (m * (c + 31 * a + 7)) := Big.mul (big_small (Nat.le_refl _) (by omega) (by omega)) b1
      have mm0 : 0 ≤ m * m := Int.mul_nonneg m0 m0
      have mm1 : m * m ≤ 2147483647 * 2147483647 := Int.mul_le_mul (by omega) (by omega) m0 (by decide)
      refine ⟨_, rfl, _, rfl, _, rfl, _, _, rfl, rfl, _, _, rfl, rfl, _, _, rfl, rfl, mulOk_big b3 b2 (by omega) (by omega) (by omega), _, rfl, _, rfl, _, _, rfl, rfl, mulOk_small (by omega) (by omega), _, _, rfl, rfl, _, _, rfl, rfl, mulOk_smallR (by omega) (by omega), _, rfl, _, _, rfl, rfl, _, _, rfl, rfl, divW_small (by omega) (by omega), q⟩
def spLawBallots (K : PySem.W.Frag) : Sp := fun vs H Q _ => ∃ (a : Addr) (ns : List Int) (n B : Nat), vs = [.ref a, .int (n : Int)] ∧ SqL K H a (iv ns) ∧ n ≤ 20 ∧ (∀ z ∈ ns, Big B z) ∧ B ≤ 2000000 ∧
  ∀ H2 D xs bs, Ex H H2 → H D = none → H2 D = some (.lst xs) → Paired (BalR K H2) xs bs → bs.all (okB n) = true → bs.length = min 24 ns.length → Q (.ref D) H2
theorem atI_three {i : Int} (h0 : 0 ≤ i) (h3 : i < 3) {x y z : Int} (hx : 0 < x) (hy : 0 < y) (hz : 0 < z) : ∃ u : Int, 0 < u ∧ atI [V.int x, V.int y, V.int z] i = some (.int u) := by
  rcases (by omega : i = 0 ∨ i = 1 ∨ i = 2) with rfl | rfl | rfl
  · exact ⟨x, hx, rfl⟩
  · exact ⟨y, hy, rfl⟩
  · exact ⟨z, hz, rfl⟩
theorem perm_erase : ∀ (l : List Nat) (k : Nat) (x : Nat), l[k]? = some x → (x :: l.eraseIdx k).Perm l
  | [], _, _, h => by simp at h
  | a :: l, 0, x, h => by
    have e : a = x := by simpa using h
    subst e
    exact List.Perm.refl _
  | a :: l, k + 1, x, h => by
    have h1 := perm_erase l k x (by simpa using h)
    exact (List.Perm.swap a x _).trans (h1.cons a)
theorem nv_erase (l : List Nat) (k : Nat) : (nv l).eraseIdx k = nv (l.eraseIdx k) := by
  unfold nv
  induction l generalizing k with
  | nil => rfl
  | cons a l ih =>
    cases k with
    | zero => rfl
    | succ k =>
      show _ :: (List.map _ l).eraseIdx k = _ :: List.map _ (l.eraseIdx k)
      rw [ih]
theorem nv_append (l m : List Nat) : nv l ++ nv m = nv (l ++ m) := by
  unfold nv
  rw [List.map_append]
theorem ok_law_ballots (T : Tx K mg) : FnOk P w K mg base CX0 2 T.f_law_ballots T.d_law_ballots ["_law_script", "_law_size"] (spLawBallots K) := by
  refine T.F_law_ballots.ok sc_law_ballots (fun vs H Q E h => ?_) (fun cdv A outer s H vs Q E hr h => ?_)
  · obtain ⟨a, ns, n, B, rfl, _⟩ := h
    rfl
  · obtain ⟨a, ns, n, B, rfl, hS, hn, hB, hB2, q⟩ := h
    refine ⟨_, pss_cons (ps_set (i := 2) sc_law_ballots.nd rfl (Or.inl rfl) (pe_lst pa_nil))
      (pss_cons (ps_set (i := 3) sc_law_ballots.nd rfl (Or.inl rfl) (pe_callB (sumK K) (by rfl) T.n_sum PyProof.Rows.boot_sum (pa_cons (pe_slice (slLK K) (pv 0) po_none (po_some pe_int)) pa_nil)))
      (pss_cons (ps_for PassesOwn.never rfl (piE K (by rfl) T.n_enumerate (pa_cons (pe_slice (slLK K) (pv 0) po_none (po_some pe_int)) pa_nil)) (pgT K (n := 2) (pgs_cons (pg_name (i := 4) sc_law_ballots.nd rfl (by first | exact Or.inl rfl | exact Or.inr rfl)) (pgs_cons (pg_name (i := 5) sc_law_ballots.nd rfl (by first | exact Or.inl rfl | exact Or.inr rfl)) pgs_nil)))
        (pss_cons (ps_set (i := 6) sc_law_ballots.nd rfl (Or.inl rfl) (pe_call (ok_law_number T) (hr.mono (by decide)) (by rfl) T.g_law_number T.F_law_number.kp (b_law_number T) .nil pass0 (pa_cons (pv 5) (pa_cons (pv 4) (pa_cons (pv 3) pa_nil)))))
      (pss_cons (ps_set (i := 7) sc_law_ballots.nd rfl (Or.inl rfl) (pe_listRg rfl (by rfl) T.n_list (prg_1 (by rfl) T.n_range (pv 1))))
      (pss_cons (ps_set (i := 8) sc_law_ballots.nd rfl (Or.inl rfl) (pe_lst pa_nil))
      (pss_cons (ps_while PassesOwn.never (pt_cmpR (neDK K hr.units) (pv 7) (pe_lst pa_nil) (nomark _)) (pss_cons (ps_expr (pe_bm PySem.F.plainAttrs_list PySem.F.slot_list_append PySem.F.type_list_append mt_append (pv 8) (pa_cons (pe_bm PySem.F.plainAttrs_list PySem.F.slot_list_pop PySem.F.type_list_pop mt_popAt (pv 7) (pa_cons (pe_op op_mod (pv 6) (pe_callB (lenK K) (by rfl) T.n_len PySem.boot_len (pa_cons (pv 7) pa_nil))) pa_nil)) pa_nil)))
      (pss_one (ps_set (i := 6) sc_law_ballots.nd rfl (Or.inl rfl) (pe_op op_fdivW (pv 6) (pe_op op_add (pe_callB (lenK K) (by rfl) T.n_len PySem.boot_len (pa_cons (pv 7) pa_nil)) pe_int))))))
      (pss_one (ps_expr (pe_bm PySem.F.plainAttrs_list PySem.F.slot_list_append PySem.F.type_list_append mt_append (pv 2) (pa_cons (pe_tup (pa_cons (pv 8) (pa_cons (pe_op op_add pe_int (pe_op op_mod (pe_call (ok_law_number T) (hr.mono (by decide)) (by rfl) T.g_law_number T.F_law_number.kp (b_law_number T) .nil pass0 (pa_cons (pv 5) (pa_cons (pe_op op_add (pv 4) pe_int) (pa_cons (pv 3) pa_nil)))) (pe_ix (ixTK K) (pe_tup (pa_cons pe_int (pa_cons pe_int (pa_cons (pe_op op_pow pe_int pe_int) pa_nil)))) (pe_op op_mod (pe_op op_fdivW (pv 3) pe_int) pe_int) (fun _ _ => rfl)))) pa_nil))) pa_nil)))))))))
      (pss_one (ps_ret (pv 2))))), ?_⟩
    refine ⟨Nat.zero_le _, fun F nF => ?_⟩
    have e1 : Ex H (upd H F (.lst [])) := Ex.new nF
    refine ⟨.ref a, rfl, 63, rfl, a, iv ns, rfl, ex_l e1 hS, fun c1 nc1 => ?_⟩
    have e2 : Ex _ (upd (upd H F (.lst [])) c1 (.lst (cutV (iv ns) none (some 63)))) := Ex.new nc1
    have ec1 : cutV (iv ns) none (some 63) = (ns.take 63).map V.int := by
      rw [show (63 : Int) = ((63 : Nat) : Int) from rfl, cut_to]
      unfold iv
      rw [List.map_take]
    refine ⟨c1, ns.take 63, rfl, sq_of (by rw [upd_same, ec1]), ?_⟩
    generalize (ns.take 63).sum = wh
    refine ⟨.ref a, rfl, 24, rfl, a, iv ns, rfl, ex_l (e1.trans e2) hS, fun c2 nc2 => ?_⟩
    have e3 := Ex.new (o := .lst (cutV (iv ns) none (some 24))) nc2
    have ec2 : cutV (iv ns) none (some 24) = iv (ns.take 24) := by
      rw [show (24 : Int) = ((24 : Nat) : Int) from rfl, cut_to]
      unfold iv
      rw [List.map_take]
    have hF2 : (upd (upd (upd H F (.lst [])) c1 (.lst (cutV (iv ns) none (some 63)))) c2 (.lst (cutV (iv ns) none (some 24)))) F = some (.lst []) := e3 _ _ (e2 _ _ upd_same)
    have hc2 : (upd (upd (upd H F (.lst [])) c1 (.lst (cutV (iv ns) none (some 63)))) c2 (.lst (cutV (iv ns) none (some 24)))) c2 = some (.lst (iv (ns.take 24))) := by rw [upd_same, ec2]
    have nF2 : F ≠ c2 := fun e => by rw [← e, e2 _ _ upd_same] at nc2; cases nc2
    have e13 := (e1.trans e2).trans e3
    generalize (upd (upd (upd H F (.lst [])) c1 (.lst (cutV (iv ns) none (some 63)))) c2 (.lst (cutV (iv ns) none (some 24)))) = H3 at hF2 hc2 e13
    refine ⟨c2, _, rfl, sq_of hc2, ?_⟩
    refine for_it (walk_enum (K := K) (a := c2) (xs := iv (ns.take 24))) (fun p σ' H' => ∃ y4 y5 y6 y7 y8 xs bs, σ' = [some (.ref a), some (.int n), some (.ref F), some (.int wh), y4, y5, y6, y7, y8] ∧ Ex H H' ∧ H' c2 = some (.lst (iv (ns.take 24))) ∧ H' F = some (.lst xs) ∧ Paired (BalR K (rem H' F)) xs bs ∧ bs.all (okB n) = true ∧ bs.length = p)
      ⟨none, none, none, none, none, [], [], rfl, e13, hc2, hF2, .nil, rfl, rfl⟩ (fun p σ' H' _ ⟨_, _, _, _, _, _, _, _, _, h, _⟩ => sq_of h) ?_ ?_
    · rintro p x σ' H' H'' hp ⟨y4, y5, y6, y7, y8, xs, bs, rfl, e, hc, hF, hP, hok, hlen⟩ ⟨U, x1, x2, rfl, nU, rfl, h1, h2⟩
      cases h1
      obtain ⟨z, hz, rfl⟩ := iv_get h2
      have hzB : Big B z := hB z (List.mem_of_mem_take (List.mem_of_getElem? hz))
      have hp24 : p < 24 := by
        rw [iv_length, List.length_take] at hp
        omega
      have eU : Ex H' (upd H' U (.tup [.int (p : Nat), .int z])) := Ex.new nU
      refine ⟨U, _, rfl, st_of upd_same, rfl, _, _, rfl, _, [], rfl, rfl, ?_⟩
      refine ⟨_, rfl, _, rfl, _, rfl, z, p, wh, B, rfl, by omega, by omega, hzB, hB2, ?_⟩
      generalize lawNum z p wh = nm
      refine ⟨_, rfl, n, rfl, rgOk_nat (by omega), fun Lf nLf => ?_⟩
      rw [rgV_nv]
      have eL := Ex.new (o := .lst (nv (List.range n))) nLf
      refine ⟨Nat.zero_le _, fun Ln nLn => ?_⟩
      have eM := Ex.new (o := .lst []) nLn
      have eAll := (eU.trans eL).trans eM
      have nLf0 : H' Lf = none := fresh_back eU nLf
      have nLn0 : H' Ln = none := fresh_back (eU.trans eL) nLn
      have nLL : Lf ≠ Ln := fun e => by rw [← e, upd_same] at nLn; cases nLn
      have hLf : (upd (upd (upd H' U (.tup [.int (p : Nat), .int z])) Lf (.lst (nv (List.range n)))) Ln (.lst [])) Lf = some (.lst (nv (List.range n))) := eM _ _ upd_same
      have hLn : (upd (upd (upd H' U (.tup [.int (p : Nat), .int z])) Lf (.lst (nv (List.range n)))) Ln (.lst [])) Ln = some (.lst (nv [])) := upd_same
      generalize (upd (upd (upd H' U (.tup [.int (p : Nat), .int z])) Lf (.lst (nv (List.range n)))) Ln (.lst [])) = H4 at eAll hLf hLn
      refine ⟨fun m σ' H5 => ∃ (nm : Int) (left line : List Nat), σ' = [some (.ref a), some (.int n), some (.ref F), some (.int wh), some (.int p), some (.int z), some (.int nm), some (.ref Lf), some (.ref Ln)] ∧ Ex H' H5 ∧ H5 Lf = some (.lst (nv left)) ∧ H5 Ln = some (.lst (nv line)) ∧ (line ++ left).Perm (List.range n) ∧ left.length = m,
        ⟨n, nm, List.range n, [], rfl, eAll, hLf, hLn, List.Perm.refl _, List.length_range⟩, ?_⟩
      rintro m σ' H5 ⟨nm, left, line, rfl, e5, hLf, hLn, hperm, rfl⟩
      have hlen2 : line.length + left.length = n := by
        have := hperm.length_eq
        rw [List.length_append, List.length_range] at this
        exact this
      refine ⟨_, rfl, Nat.zero_le _, fun o no => ?_⟩
      have eo := Ex.new (o := .lst []) no
      have hLf' : SqL K (upd H5 o (.lst [])) Lf (iv (left.map fun (k : Nat) => (k : Int))) := by
        rw [← nv_iv]
        exact sq_of (eo _ _ hLf)
      refine ⟨_, _, dp_ints hLf', dp_ints (ns := []) (sq_of upd_same), shaped_ints _, shaped_ints _, _, rfl, ?_⟩
      have hLf6 : (upd H5 o (.lst [])) Lf = some (.lst (nv left)) := eo _ _ hLf
      have hLn6 : (upd H5 o (.lst [])) Ln = some (.lst (nv line)) := eo _ _ hLn
      have e6 := e5.trans eo
      generalize (upd H5 o (.lst [])) = H6 at hLf' hLf6 hLn6 e6
      by_cases hl0 : left = []
      · refine itF (by rw [eqv_ints, hl0]; rfl) ?_
        subst hl0
        rw [List.append_nil] at hperm
        have hi0 := Int.emod_nonneg (wh / 5) (show (3 : Int) ≠ 0 by decide)
        have hi3 := Int.emod_lt_of_pos (wh / 5) (show (0 : Int) < 3 by decide)
        obtain ⟨u, hu0, hu⟩ := atI_three hi0 hi3 (x := 1) (y := 4) (z := 10 ^ 20) (by decide) (by decide) (by decide)
        refine ⟨_, rfl, .inl ⟨rfl, _, sq_of (e6 _ _ hF)⟩, _, rfl, _, rfl, _, rfl, _, _, rfl, rfl, _, rfl, z, (p : Int) + 30, wh, B, rfl, by omega, by omega, hzB, hB2, _, _, rfl, rfl, ⟨by decide, by decide, by decide⟩, (by decide : 3 ≤ sizeLine), fun tp ntp => ?_⟩
        have etp := Ex.new (o := .tup [V.int 1, V.int 4, V.int (10 ^ Int.toNat 20)]) ntp
        refine ⟨_, rfl, _, _, rfl, rfl, divW_small (by decide) (by decide), _, _, rfl, rfl, (by decide : (0 : Int) < 3), tp, _, _, .int u, rfl, rfl, st_of upd_same, hu, _, _, rfl, rfl, hu0, _, _, rfl, rfl, (by decide : 2 ≤ sizeLine), fun tt ntt => ?_⟩
        have hm1 := Int.emod_nonneg (lawNum z ((p : Int) + 30) wh) (show u ≠ 0 by omega)
        generalize lawNum z ((p : Int) + 30) wh % u = mm at hm1
        have ett := Ex.new (o := .tup [V.ref Ln, V.int (1 + mm)]) ntt
        have e8 := e6.trans (etp.trans ett)
        have hF8 := e8 _ _ hF
        have hc8 := e8 _ _ hc
        have hLn8 := (etp.trans ett) _ _ hLn6
        have htt : (upd (upd H6 tp (.tup [V.int 1, V.int 4, V.int (10 ^ Int.toNat 20)])) tt (.tup [V.ref Ln, V.int (1 + mm)])) tt = some (.tup [V.ref Ln, V.int (1 + mm)]) := upd_same
        have nF8 : H F = none := nF
        refine ⟨F, xs, .ref tt, rfl, rfl, hF8, sz_lt (by rw [show xs.length = bs.length from Paired.len hP]; omega), ?_⟩
        generalize (upd (upd H6 tp (.tup [V.int 1, V.int 4, V.int (10 ^ Int.toNat 20)])) tt (.tup [V.ref Ln, V.int (1 + mm)])) = H8 at e8 hF8 hc8 hLn8 htt
        have nttF : tt ≠ F := fun e => by rw [e, hF8] at htt; cases htt
        have nLnF : Ln ≠ F := fun e => by rw [e, hF] at nLn0; cases nLn0
        refine ⟨_, _, _, _, _, xs ++ [.ref tt], bs ++ [(line, 1 + mm)], rfl, (e.trans e8).mut nF, by rw [upd_ne nF2.symm]; exact hc8, upd_same, by rw [rem_upd]; exact Paired.append (Paired.mapP hP fun _ _ q => q.mono (rem_mono e8)) (.cons ⟨tt, Ln, rfl, st_of (by rw [rem_ne nttF]; exact htt), sq_of (by rw [rem_ne nLnF]; exact hLn8)⟩ .nil), ?_, by rw [List.length_append, hlen]; rfl⟩
        rw [List.all_append, hok]
        have : okB n (line, 1 + mm) = true := by
          unfold okB
          rw [List.isPerm_iff.mpr hperm, decide_eq_true (show 1 ≤ 1 + mm by omega)]
          rfl
        simp [this]
      · refine itT (by rw [eqv_ints, decide_eq_false]; rfl; exact fun h => hl0 (List.map_eq_nil_iff.mp h)) ?_
        have hpos : 0 < left.length := List.length_pos_iff.mpr hl0
        have hj0 := Int.emod_nonneg nm (show (left.length : Int) ≠ 0 by omega)
        have hj1 := Int.emod_lt_of_pos nm (show (0 : Int) < (left.length : Int) by omega)
        obtain ⟨j, hj⟩ : ∃ j : Nat, nm % (left.length : Int) = (j : Int) := ⟨(nm % (left.length : Int)).toNat, by omega⟩
        have hjl : j < left.length := by omega
        have hsi : seqIndex? (nm % ((nv left).length : Int)) (nv left).length = some j := by
          rw [nv_length, hj]
          exact (ixN_seq (ixN_nat hjl)).1
        have hy : (nv left)[j]? = some (V.int (left[j] : Nat)) := by
          unfold nv
          rw [List.getElem?_map, List.getElem?_eq_getElem hjl]
          rfl
        refine ⟨fun σ2 H2 => ∃ (nm : Int) (left' line : List Nat), σ2 = [some (.ref a), some (.int n), some (.ref F), some (.int wh), some (.int p), some (.int z), some (.int nm), some (.ref Lf), some (.ref Ln)] ∧ Ex H' H2 ∧ H2 Lf = some (.lst (nv left')) ∧ H2 Ln = some (.lst (nv line)) ∧ (line ++ left').Perm (List.range n) ∧ left'.length < left.length, ?_, ?_⟩
        · rintro σ2 H2 ⟨nm, left', line, h1, h2, h3, h4, h5, h6⟩
          exact ⟨_, h6, nm, left', line, h1, h2, h3, h4, h5, rfl⟩
        · refine ⟨_, rfl, .inl ⟨rfl, _, sq_of hLn6⟩, _, rfl, .inl ⟨rfl, _, sq_of hLf6⟩, _, rfl, _, rfl, Lf, _, rfl, .inl (sq_of hLf6), _, _, rfl, rfl, by rw [nv_length]; omega, Lf, _, _, j, _, rfl, rfl, hLf6, by rw [nv_length]; omega, by rw [nv_length]; omega, hsi, hy, Ln, nv line, _, rfl, rfl, by rw [upd_ne nLL.symm]; exact hLn6, sz_lt (by rw [nv_length]; omega), ?_⟩
          have hLf9 : (upd (upd H6 Lf (.lst ((nv left).eraseIdx j))) Ln (.lst (nv line ++ [V.int (left[j] : Nat)]))) Lf = some (.lst (nv (left.eraseIdx j))) := by rw [upd_ne nLL, upd_same, nv_erase]
          refine ⟨_, rfl, _, rfl, Lf, _, rfl, .inl (sq_of hLf9), _, _, rfl, rfl, _, _, rfl, rfl, divW_small (by omega) (by rw [nv_length, List.length_eraseIdx]; split <;> omega), ?_⟩
          refine ⟨_, left.eraseIdx j, line ++ [left[j]], rfl, (e6.mut nLf0).mut nLn0, hLf9, ?_, ?_, ?_⟩
          · rw [upd_same, ← nv_append]
            rfl
          · rw [List.append_assoc]
            exact ((perm_erase left j _ (List.getElem?_eq_getElem hjl)).append_left line).trans hperm
          · rw [List.length_eraseIdx, if_pos hjl]
            omega
    · rintro σ' H' ⟨y4, y5, y6, y7, y8, xs, bs, rfl, e, hc, hF, hP, hok, hlen⟩
      refine ⟨_, rfl, q H' F xs bs e nF hF (Paired.mapP hP fun _ _ q => q.mono rem_ex) hok ?_⟩
      rw [hlen, iv_length, List.length_take]
theorem ok_law_count (T : Tx K mg) : FnOk P w K mg base CX0 1 T.f_law_count T.d_law_count ["_law_size", "_law_ballots_here"] (spCount K) := by
  refine T.F_law_count.ok sc_law_count (fun vs H Q E h => ?_) (fun cdv A outer s H vs Q E hr h => ?_)
  · obtain ⟨n, v, bs, rfl, _⟩ := h
    rfl
  · obtain ⟨n, v, bs, rfl, hn, ⟨a, xs, rfl, hS, hP⟩, hk, q⟩ := h
    refine ⟨_, pss_cons (ps_setLc (i := 2) (own := [("_law_one", 6)]) rfl sc_law_count.nd rfl rfl (sw_true rfl rfl rfl (by decide +kernel)) (pi_range1 (by rfl) T.n_range (pa_cons (pv 0) pa_nil)) (blkOk_by (own := [("_law_one", 6)]) (N := ["_law_size", "_law_ballots_here", "_law_found", "_law_line", "_law_many", "_law_at", "_law_one", "_law_other"]) (sc := defScope s_law_count) (by decide +kernel)) (fun _ _ _ _ _ => (pg_name (i := 6) sc_law_count.nd rfl (by first | exact Or.inl rfl | exact Or.inr rfl))) (fun _ _ _ _ _ => pts_nil) (fun _ _ _ _ _ => (pe_op op_rep (pe_lst (pa_cons pe_int pa_nil)) (pv 0))))
      (pss_cons (ps_for PassesOwn.never rfl (piL K (pv 1)) (pgT K (n := 2) (pgs_cons (pg_name (i := 3) sc_law_count.nd rfl (by first | exact Or.inl rfl | exact Or.inr rfl)) (pgs_cons (pg_name (i := 4) sc_law_count.nd rfl (by first | exact Or.inl rfl | exact Or.inr rfl)) pgs_nil)))
        (pss_one (ps_for PassesOwn.never rfl (piE K (by rfl) T.n_enumerate (pa_cons (pv 3) pa_nil)) (pgT K (n := 2) (pgs_cons (pg_name (i := 5) sc_law_count.nd rfl (by first | exact Or.inl rfl | exact Or.inr rfl)) (pgs_cons (pg_name (i := 6) sc_law_count.nd rfl (by first | exact Or.inl rfl | exact Or.inr rfl)) pgs_nil)))
        (pss_one (ps_for PassesOwn.never rfl (piL K (pe_slice (slLK K) (pv 3) po_none (po_some (pv 5)))) (pg_name (i := 7) sc_law_count.nd rfl (by first | exact Or.inl rfl | exact Or.inr rfl))
        (pss_cons (ps_asg (pe_op op_add (pe_ix (ixLK K) (pe_ix (ixLK K) (pv 2) (pv 7) (fun _ _ => rfl)) (pv 6) (fun _ _ => rfl)) (pv 4)) (pg_sub (pe_ix (ixLK K) (pv 2) (pv 7) (fun _ _ => rfl)) (pv 6) set_list))
      (pss_one (ps_asg (pe_op op_sub (pe_ix (ixLK K) (pe_ix (ixLK K) (pv 2) (pv 6) (fun _ _ => rfl)) (pv 7) (fun _ _ => rfl)) (pv 4)) (pg_sub (pe_ix (ixLK K) (pv 2) (pv 6) (fun _ _ => rfl)) (pv 7) set_list)))))))))
      (pss_one (ps_ret (pv 2)))), ?_⟩
    refine ⟨_, rfl, n, rfl, by omega, by omega, fun D hD => ?_⟩
    refine lc_rows (n := n) (walk_range (lo := 0) (n := n)) hD (by omega) (fun _ _ => trivial) (fun _ => rowV n (fun _ => 0)) ?_ ?_
    · rintro i x H2 H2' hi e2 ⟨rfl, rfl⟩ Qc hq
      refine ⟨rfl, (by decide : 1 ≤ sizeLine), fun p hp => ⟨_, rfl, p, n, _, rfl, rfl, upd_same, by omega, by omega, ?_, fun r hr' => ?_⟩⟩
      · show 1 * (n : Int).toNat ≤ sizeLine
        exact sz_of (by omega)
      · have e3 : Ex H2' (upd H2' p (.lst [V.int 0])) := Ex.new hp
        refine hq r _ (fresh_back e3 hr') (e3.trans (Ex.new hr')) ?_
        rw [upd_same]
        show some (HO.lst (List.replicate n [V.int 0]).flatten) = _
        rw [rep_row]
    · intro H2 ps e2 hD2 hlen R
      have T0 : Tab H H2 D ps n (fun _ _ => 0) := R.tab hD hD2 hlen
      refine ⟨.ref a, rfl, a, rfl, ⟨xs, ex_l e2 hS⟩, for_list (K := K) (a := a) (xs := xs) (fun i σ' H' => ∃ y3 y4 y5 y6 y7, σ' = [some (.int n), some (.ref a), some (.ref D), y3, y4, y5, y6, y7] ∧ Ex H H' ∧ Tab H H' D ps n (cnt (bs.take i)))
        ⟨none, none, none, none, none, rfl, e2, T0⟩ (fun i σ' H' _ ⟨_, _, _, _, _, _, e, _⟩ => ex_l e hS) ?_ ?_⟩
      · rintro i x σ' H' hi ⟨y3, y4, y5, y6, y7, rfl, e, TT⟩
        obtain ⟨b, hb, t, l, rfl, hT, hL⟩ := Paired.get hP hi
        have hbm : b ∈ bs := List.mem_of_getElem? hb
        refine ⟨t, _, rfl, ex_t e hT, rfl, .ref l, _, rfl, .int b.2, [], rfl, rfl, ?_⟩
        refine ⟨.ref l, rfl, l, nv b.1, rfl, ex_l e hL, ?_⟩
        refine for_it (walk_enum (K := K) (a := l) (xs := nv b.1)) (fun p σ' H' => ∃ y5 y6 y7, σ' = [some (.int n), some (.ref a), some (.ref D), some (.ref l), some (.int b.2), y5, y6, y7] ∧ Ex H H' ∧ Tab H H' D ps n (fun i' j' => cnt (bs.take i) i' j' + b.2 * psum i' j' (b.1.take p)))
          ⟨_, _, _, rfl, e, TT.congr fun i' j' _ _ => by show cnt (bs.take i) i' j' = cnt (bs.take i) i' j' + b.2 * 0; omega⟩ (fun p σ' H' _ ⟨_, _, _, _, e, _⟩ => ex_l e hL) ?_ ?_
        · rintro p x σ' H' H'' hp ⟨y5, y6, y7, rfl, e, TT⟩ ⟨U, x1, x2, rfl, nU, rfl, h1, h2⟩
          cases h1
          obtain ⟨k, hk', rfl⟩ := nv_get h2
          have hkn : k < n := hk b hbm k (List.mem_of_getElem? hk')
          refine ⟨U, _, rfl, st_of upd_same, rfl, _, _, rfl, _, [], rfl, rfl, ?_⟩
          have e3 : Ex H' (upd H' U (.tup [.int (p : Nat), .int k])) := Ex.new nU
          refine ⟨.ref l, rfl, .int p, rfl, _, rfl, l, nv b.1, rfl, ex_l (e.trans e3) hL, fun c nc => ?_⟩
          rw [cut_nv_to]
          have e4 : Ex _ (upd (upd H' U (.tup [.int (p : Nat), .int k])) c (.lst (nv (b.1.take p)))) := Ex.new nc
          have ncr : ∀ r ∈ ps, c ≠ r := fun r hr' ec => by
            obtain ⟨i0, hi0, ei0⟩ := List.mem_iff_getElem.mp hr'
            have := (TT.mono e3).row i0 r (by rw [List.getElem?_eq_getElem hi0, ei0])
            rw [← ec, nc] at this
            cases this
          refine ⟨c, rfl, ⟨_, sq_of upd_same⟩, for_list (K := K) (a := c) (xs := nv (b.1.take p)) (fun z σ' H' => ∃ y7, σ' = [some (.int n), some (.ref a), some (.ref D), some (.ref l), some (.int b.2), some (.int p), some (.int k), y7] ∧ Ex H H' ∧ H' c = some (.lst (nv (b.1.take p))) ∧ Tab H H' D ps n (fun i' j' => cnt (bs.take i) i' j' + b.2 * (psum i' j' (b.1.take p) + esum i' j' k ((b.1.take p).take z))))
            ⟨_, rfl, (e.trans e3).trans e4, upd_same, ((TT.mono e3).mono e4).congr fun i' j' _ _ => by show _ = cnt (bs.take i) i' j' + b.2 * (psum i' j' (b.1.take p) + 0); rw [Int.add_zero]⟩ (fun z σ' H' _ ⟨_, _, _, hc, _⟩ => sq_of hc) ?_ ?_⟩
          · rintro z x σ' H' hz ⟨y7, rfl, e, hc, TT⟩
            obtain ⟨m, hm, rfl⟩ := nv_get hz
            have hmn : m < n := hk b hbm m (List.mem_of_mem_take (List.mem_of_getElem? hm))
            obtain ⟨r1, g1, m1, x1, c1⟩ := TT.at_ hmn
            have T1 := TT.put (b := k) (z := (cnt (bs.take i) m k + b.2 * (psum m k (b.1.take p) + esum m k k ((b.1.take p).take z))) + b.2) g1
            have e5 := fun o => TT.exMut (o := o) e m1
            obtain ⟨r2, g2, m2, x2, c2⟩ := T1.at_ hkn
            refine ⟨.ref D, rfl, .int m, rfl, D, _, m, .ref r1, rfl, rfl, sq_of TT.top, atI_nat x1, .int k, rfl, r1, _, k, .int _, rfl, rfl, sq_of c1, atI_nat (rowV_get hkn), .int b.2, rfl, _, _, rfl, rfl, .ref D, rfl, .int m, rfl, D, _, m, .ref r1, rfl, rfl, sq_of TT.top, atI_nat x1, .int k, rfl, r1, _, k, k, rfl, rfl, c1, ixN_nat (by rw [rowV_length]; exact hkn), ?_⟩
            refine ⟨.ref D, rfl, .int k, rfl, D, _, k, .ref r2, rfl, rfl, sq_of T1.top, atI_nat x2, .int m, rfl, r2, _, m, .int _, rfl, rfl, sq_of c2, atI_nat (rowV_get hmn), .int b.2, rfl, _, _, rfl, rfl, .ref D, rfl, .int k, rfl, D, _, k, .ref r2, rfl, rfl, sq_of T1.top, atI_nat x2, .int m, rfl, r2, _, m, m, rfl, rfl, c2, ixN_nat (by rw [rowV_length]; exact hmn), ?_⟩
            have T2 := T1.put (b := m) (z := (if k = m ∧ m = k then (cnt (bs.take i) m k + b.2 * (psum m k (b.1.take p) + esum m k k ((b.1.take p).take z))) + b.2 else (cnt (bs.take i) k m + b.2 * (psum k m (b.1.take p) + esum k m k ((b.1.take p).take z)))) - b.2) g2
            refine ⟨_, rfl, T1.exMut (e5 _) m2, ?_, T2.congr fun i' j' _ _ => ?_⟩
            · rw [upd_ne (ncr r2 m2), upd_ne (ncr r1 m1)]
              exact hc
            · rw [put_two (fun i' j' => cnt (bs.take i) i' j' + b.2 * (psum i' j' (b.1.take p) + esum i' j' k ((b.1.take p).take z))), esum_take_succ _ _ _ _ _ _ hm]
              rw [Int.mul_add, Int.mul_add, Int.mul_add]
              omega
          · rintro σ' H' ⟨y7, rfl, e, hc, TT⟩
            refine ⟨_, _, _, rfl, e, TT.congr fun i' j' _ _ => ?_⟩
            rw [nv_length, List.take_length, psum_take_succ _ _ _ _ _ hk']
        · rintro σ' H' ⟨y5, y6, y7, rfl, e, TT⟩
          refine ⟨_, _, _, _, _, rfl, e, TT.congr fun i' j' _ _ => ?_⟩
          rw [nv_length, List.take_length, cnt_take_succ _ _ _ hb]
      · rintro σ' H' ⟨y3, y4, y5, y6, y7, rfl, e, TT⟩
        rw [show xs.length = bs.length from Paired.len hP, List.take_length] at TT
        exact ⟨_, rfl, q H' D ps e TT⟩
def spLawIsTable (K : PySem.W.Frag) : Sp := fun vs H Q _ => ∃ (v : V) (n : Nat) (f : Nat → Nat → Int), vs = [v, .int (n : Int)] ∧ n ≤ 20 ∧ TabR K H v n f ∧ ∀ H2, Ex H H2 → Q (.bl true) H2
theorem row_get_int {n i : Nat} {g : Nat → Int} {x : V} (h : (rowV n g)[i]? = some x) : ∃ z, x = .int z := by
  have hi : i < n := by
    have := (List.getElem?_eq_some_iff.mp h).1
    rw [rowV_length] at this
    exact this
  rw [rowV_get hi] at h
  exact ⟨_, (Option.some.inj h).symm⟩
theorem ok_law_is_table (T : Tx K mg) : FnOk P w K mg base CX0 1 T.f_law_is_table T.d_law_is_table ["_law_found", "_law_size"] (spLawIsTable K) := by
  refine T.F_law_is_table.ok sc_law_is_table (fun vs H Q E h => ?_) (fun cdv A outer s H vs Q E hr h => ?_)
  · obtain ⟨v, n, f, rfl, _⟩ := h
    rfl
  · obtain ⟨v, n, f, rfl, hn, TT, q⟩ := h
    obtain ⟨t, xs, rfl, hS, hl, hat⟩ := TT.at_
    refine ⟨_, pss_cons (ps_if (PW.pt (pw_or (pt_not (pt_val (pe_callB (isiK K) (by rfl) T.n_isinstance PyProof.Rows.boot_isinstance (pa_cons (pv 0) (pa_cons (pe_bltn (v := .ty "list") (by rfl) T.n_list bt_list rfl) pa_nil))))) (pw_or (pt_cmpR op_ne (pe_callB (lenK K) (by rfl) T.n_len PySem.boot_len (pa_cons (pv 0) pa_nil)) (pv 1) (nomark _)) (pw_or1 (pt_not (pt_val (pe_callB (allK K) (by rfl) T.n_all PyProof.Rows.boot_all (pa_cons (pe_lc (own := [("_law_row", 2)]) rfl sc_law_is_table.nd (piL K (pv 0)) (blkOk_by (own := [("_law_row", 2)]) (N := ["_law_found", "_law_size", "_law_row", "_law_one"]) (sc := defScope s_law_is_table) (by decide +kernel)) (fun _ _ _ _ _ => (pg_name (i := 2) sc_law_is_table.nd rfl (by first | exact Or.inl rfl | exact Or.inr rfl))) (fun _ _ _ _ _ => pts_nil) (fun _ _ _ _ _ => (pe_callB (isiK K) (by rfl) T.n_isinstance PyProof.Rows.boot_isinstance (pa_cons (pv 2) (pa_cons (pe_bltn (v := .ty "list") (by rfl) T.n_list bt_list rfl) pa_nil))))) pa_nil)))))))) (pss_one (ps_ret pe_bl)) (pss_nil))
      (pss_cons (ps_for PassesOwn.never rfl (piL K (pv 0)) (pg_name (i := 2) sc_law_is_table.nd rfl (by first | exact Or.inl rfl | exact Or.inr rfl))
        (pss_one (ps_if (PW.pt (pw_or (pt_cmpR op_ne (pe_callB (lenK K) (by rfl) T.n_len PySem.boot_len (pa_cons (pv 2) pa_nil)) (pv 1) (nomark _)) (pw_or1 (pt_not (pt_val (pe_callB (allK K) (by rfl) T.n_all PyProof.Rows.boot_all (pa_cons (pe_lc (own := [("_law_one", 3)]) rfl sc_law_is_table.nd (piL K (pv 2)) (blkOk_by (own := [("_law_one", 3)]) (N := ["_law_found", "_law_size", "_law_row", "_law_one"]) (sc := defScope s_law_is_table) (by decide +kernel)) (fun _ _ _ _ _ => (pg_name (i := 3) sc_law_is_table.nd rfl (by first | exact Or.inl rfl | exact Or.inr rfl))) (fun _ _ _ _ _ => pts_nil) (fun _ _ _ _ _ => (pe_and (pe_callB (isiK K) (by rfl) T.n_isinstance PyProof.Rows.boot_isinstance (pa_cons (pv 3) (pa_cons (pe_bltn (v := .ty "int") (by rfl) T.n_int bt_int rfl) pa_nil))) (pe_one (pe_not (pe_callB (isiK K) (by rfl) T.n_isinstance PyProof.Rows.boot_isinstance (pa_cons (pv 3) (pa_cons (pe_bltn (v := .ty "bool") (by rfl) T.n_bool bt_bool rfl) pa_nil)))))))) pa_nil))))))) (pss_one (ps_ret pe_bl)) (pss_nil))))
      (pss_one (ps_ret pe_bl))), ?_⟩
    refine ⟨_, rfl, .ref t, .ty "list", _, _, true, rfl, .ty _, tyx_L hS, kit_ty (by decide +kernel), true, rfl, ?_⟩
    refine ⟨_, rfl, t, _, rfl, .inl hS, _, rfl, rfl, _, rfl, ?_⟩
    refine itF (by rw [hl, decide_eq_true rfl]; rfl) ?_
    refine ⟨_, rfl, t, rfl, ⟨_, hS⟩, fun D hD => ?_⟩
    refine lc_vals (walk_list (K := K) (a := t) (xs := xs)) hD (by omega) (fun H2 e2 => ex_l e2 hS) (fun _ => V.bl true) ?_ ?_
    · rintro j x H2 H2' hj e2 ⟨rfl, hx⟩ Qc hq
      obtain ⟨r, hr1, hr2⟩ := hat j (by omega)
      rw [hr1] at hx
      cases hx
      exact ⟨rfl, _, rfl, .ref r, .ty "list", _, _, true, rfl, .ty _, tyx_L (ex_l e2 hr2), kit_ty (by decide +kernel), hq _ (Ex.refl _)⟩
    · intro H2 e2 hD2
      rw [map_const_bl] at hD2
      refine ⟨D, _, rfl, sq_of hD2, true, by rw [all_const_true], ?_⟩
      refine ⟨_, rfl, t, rfl, ⟨xs, ex_l e2 hS⟩, for_list (K := K) (a := t) (xs := xs) (fun i σ' H' => ∃ y, σ' = [some (.ref t), some (.int n), y, none] ∧ Ex H H')
        ⟨none, rfl, e2⟩ (fun i σ' H' _ ⟨_, _, e⟩ => ex_l e hS) ?_ ?_⟩
      · rintro i x σ' H' hi ⟨y, rfl, e⟩
        have hin : i < n := by rw [← hl]; exact (List.getElem?_eq_some_iff.mp hi).1
        obtain ⟨r, hr1, hr2⟩ := hat i hin
        rw [hr1] at hi
        cases hi
        have hr3 := ex_l e hr2
        refine ⟨_, rfl, r, _, rfl, .inl hr3, _, rfl, rfl, _, rfl, ?_⟩
        refine itF (by rw [rowV_length, decide_eq_true rfl]; rfl) ?_
        refine ⟨_, rfl, r, rfl, ⟨_, hr3⟩, fun D hD => ?_⟩
        refine lc_vals (walk_list (K := K) (a := r) (xs := rowV n (f i))) hD (by rw [rowV_length]; omega) (fun H2 e2 => ex_l e2 hr3) (fun _ => V.bl true) ?_ ?_
        · rintro j x H2 H2' hj e2 ⟨rfl, hx⟩ Qc hq
          obtain ⟨z, rfl⟩ := row_get_int hx
          exact ⟨rfl, _, rfl, _, .ty "int", _, _, true, rfl, .ty _, .base (.int z), kit_ty (by decide +kernel), true, rfl, _, rfl, _, .ty "bool", _, _, false, rfl, .ty _, .base (.int z), kit_ty (by decide +kernel), false, rfl, hq _ (Ex.refl _)⟩
        · intro H3 e3 hD3
          rw [map_const_bl] at hD3
          exact ⟨D, _, rfl, sq_of hD3, true, by rw [all_const_true], _, rfl, e.trans e3⟩
      · rintro σ' H' ⟨y, rfl, e⟩
        exact q H' e
end
end Hc
namespace Hc
open PySem PySem.Spec PyProof.Rows L2 Evl
section
variable {P : Program} {w : World} {K : PySem.W.Frag} {mg : Str → Option Value} {base : Heap}
def spLaw (K : PySem.W.Frag) : Sp := fun vs H Q _ => ∃ (a : Addr) (ns : List Int) (B : Nat), vs = [.ref a] ∧ SqL K H a (iv ns) ∧ ns.length ≤ 63 ∧ (∀ z ∈ ns, Big B z) ∧ B ≤ 2000000 ∧ ∀ H', Q (.bl true) H'
theorem ok_law (T : Tx K mg) : FnOk P w K mg base CX0 5 T.f_law T.d_law ["_law_script"] (spLaw K) := by
  refine T.F_law.ok sc_law (fun vs H Q E h => ?_) (fun cdv A outer s H vs Q E hr h => ?_)
  · obtain ⟨a, ns, B, rfl, _⟩ := h
    rfl
  · obtain ⟨a, ns, B, rfl, hS, h63, hB, hB2, q⟩ := h
    refine ⟨_, pss_cons (ps_set (i := 1) sc_law.nd rfl (Or.inl rfl) (pe_callB (sumK K) (by rfl) T.n_sum PyProof.Rows.boot_sum (pa_cons (pe_slice (slLK K) (pv 0) po_none (po_some pe_int)) pa_nil)))
      (pss_cons (ps_set (i := 2) sc_law.nd rfl (Or.inl rfl) (pe_op op_add pe_int (pe_op op_mod (pv 1) pe_int)))
      (Evl.pss_cut (ps_if (pt_cmpR op_eq (pe_op op_mod (pe_op op_fdivW (pv 1) pe_int) pe_int) pe_int (nomark _)) (pss_one (ps_set (i := 2) sc_law.nd rfl (Or.inl rfl) (pe_op op_add pe_int (pe_op op_mod (pe_op op_fdivW (pv 1) pe_int) pe_int)))) (pss_nil))
      (pss_cons (ps_set (i := 3) sc_law.nd rfl (Or.inl rfl) (pe_call (ok_law_ballots T) (hr.mono (by decide)) (by rfl) T.g_law_ballots T.F_law_ballots.kp (b_law_ballots T) .nil pass0 (pa_cons (pv 0) (pa_cons (pv 2) pa_nil))))
      (pss_cons (ps_setLc (i := 4) (own := [("_law_line", 11), ("_law_many", 12)]) rfl sc_law.nd rfl rfl (sw_true rfl rfl rfl (by decide +kernel)) (piL K (pv 3)) (blkOk_by (own := [("_law_line", 11), ("_law_many", 12)]) (N := ["_law_script", "_law_whole", "_law_size", "_law_ballots_here", "_law_handed", "_law_due", "_law_found", "_law_back", "_law_at", "_law_first", "_law_second", "_law_line", "_law_many", "_law_row", "_law_number_here", "_law_mine", "_law_theirs", "_law_one", "_law_other"]) (sc := defScope s_law) (by decide +kernel)) (fun _ _ _ _ _ => (pgT K (n := 2) (pgs_cons (pg_name (i := 11) sc_law.nd rfl (by first | exact Or.inl rfl | exact Or.inr rfl)) (pgs_cons (pg_name (i := 12) sc_law.nd rfl (by first | exact Or.inl rfl | exact Or.inr rfl)) pgs_nil)))) (fun _ _ _ _ _ => pts_nil) (fun _ _ _ _ _ => (pe_tup (pa_cons (pe_callTy (listK K) (by rfl) T.n_list bt_list (pa_cons (pv 11) pa_nil)) (pa_cons (pv 12) pa_nil)))))
      (pss_cons (ps_set (i := 5) sc_law.nd rfl (Or.inl rfl) (pe_call (ok_law_count T) (hr.mono (by decide)) (by rfl) T.g_law_count T.F_law_count.kp (b_law_count T) .nil pass0 (pa_cons (pv 2) (pa_cons (pv 3) pa_nil))))
      (pss_cons (ps_set (i := 6) sc_law.nd rfl (Or.inl rfl) (pe_call (ok_counted T) (hr.mono (by decide)) (by rfl) T.g_counted T.F_counted.kp (b_counted T) .nil pass0 (pa_cons (pv 2) (pa_cons (pv 4) pa_nil))))
      (pss_cons (ps_if (PW.pt (pw_or (pt_not (pt_val (pe_call (ok_law_is_table T) (hr.mono (by decide)) (by rfl) T.g_law_is_table T.F_law_is_table.kp (b_law_is_table T) .nil pass0 (pa_cons (pv 6) (pa_cons (pv 2) pa_nil))))) (pw_or (pt_cmpR (neDK K hr.units) (pv 6) (pv 5) (nomark _)) (pw_or1 (pt_cmpR (neDK K hr.units) (pv 4) (pv 3) (nomark _)))))) (pss_one (ps_ret pe_bl)) (pss_nil))
      (pss_cons (ps_set (i := 7) sc_law.nd rfl (Or.inl rfl) (pe_call (ok_counted T) (hr.mono (by decide)) (by rfl) T.g_counted T.F_counted.kp (b_counted T) .nil pass0 (pa_cons (pv 2) (pa_cons (pe_lc (own := [("_law_line", 11), ("_law_many", 12)]) rfl sc_law.nd (piL K (pv 3)) (blkOk_by (own := [("_law_line", 11), ("_law_many", 12)]) (N := ["_law_script", "_law_whole", "_law_size", "_law_ballots_here", "_law_handed", "_law_due", "_law_found", "_law_back", "_law_at", "_law_first", "_law_second", "_law_line", "_law_many", "_law_row", "_law_number_here", "_law_mine", "_law_theirs", "_law_one", "_law_other"]) (sc := defScope s_law) (by decide +kernel)) (fun _ _ _ _ _ => (pgT K (n := 2) (pgs_cons (pg_name (i := 11) sc_law.nd rfl (by first | exact Or.inl rfl | exact Or.inr rfl)) (pgs_cons (pg_name (i := 12) sc_law.nd rfl (by first | exact Or.inl rfl | exact Or.inr rfl)) pgs_nil)))) (fun _ _ _ _ _ => pts_nil) (fun _ _ _ _ _ => (pe_tup (pa_cons (revLK K (pv 11)) (pa_cons (pv 12) pa_nil))))) pa_nil))))
      (pss_cons (ps_if (pt_cmpR (neDK K hr.units) (pv 7) (pe_lc (own := [("_law_row", 13)]) rfl sc_law.nd (piL K (pv 5)) (blkOk_by (own := [("_law_row", 13)]) (N := ["_law_script", "_law_whole", "_law_size", "_law_ballots_here", "_law_handed", "_law_due", "_law_found", "_law_back", "_law_at", "_law_first", "_law_second", "_law_line", "_law_many", "_law_row", "_law_number_here", "_law_mine", "_law_theirs", "_law_one", "_law_other"]) (sc := defScope s_law) (by decide +kernel)) (fun _ _ _ _ _ => (pg_name (i := 13) sc_law.nd rfl (by first | exact Or.inl rfl | exact Or.inr rfl))) (fun _ _ _ _ _ => pts_nil) (fun _ _ _ _ _ => (pe_lc (own := [("_law_number_here", 14)]) rfl sc_law.nd (piL K (pv 13)) (blkOk_by (own := [("_law_number_here", 14)]) (N := ["_law_script", "_law_whole", "_law_size", "_law_ballots_here", "_law_handed", "_law_due", "_law_found", "_law_back", "_law_at", "_law_first", "_law_second", "_law_line", "_law_many", "_law_row", "_law_number_here", "_law_mine", "_law_theirs", "_law_one", "_law_other"]) (sc := _) (by kernel_rfl)) (fun _ _ _ _ _ => (pg_name (i := 14) sc_law.nd rfl (by first | exact Or.inl rfl | exact Or.inr rfl))) (fun _ _ _ _ _ => pts_nil) (fun _ _ _ _ _ => (pe_un un_neg (pv 14)))))) (nomark _)) (pss_one (ps_ret pe_bl)) (pss_nil))
      (Evl.pss_cut (ps_set (i := 8) sc_law.nd rfl (Or.inl rfl) (pe_op op_mod (pe_op op_fdivW (pv 1) pe_int) (pe_op op_add (pe_callB (lenK K) (by rfl) T.n_len PySem.boot_len (pa_cons (pv 3) pa_nil)) pe_int)))
      (pss_cons (ps_par (by rfl) (i := 9) (j := 10) sc_law.nd rfl rfl (by decide) rfl rfl (pa_cons (pe_call (ok_counted T) (hr.mono (by decide)) (by rfl) T.g_counted T.F_counted.kp (b_counted T) .nil pass0 (pa_cons (pv 2) (pa_cons (pe_slice (slLK K) (pv 3) po_none (po_some (pv 8))) pa_nil))) (pa_cons (pe_call (ok_counted T) (hr.mono (by decide)) (by rfl) T.g_counted T.F_counted.kp (b_counted T) .nil pass0 (pa_cons (pv 2) (pa_cons (pe_slice (slLK K) (pv 3) (po_some (pv 8)) po_none) pa_nil))) pa_nil)) (by rfl))
      (pss_cons (ps_if (pt_cmpR (neDK K hr.units) (pe_lc (own := [("_law_mine", 15), ("_law_theirs", 16)]) rfl sc_law.nd (piZ K (by rfl) T.n_zip (pa_cons (pv 9) (pa_cons (pv 10) pa_nil))) (blkOk_by (own := [("_law_mine", 15), ("_law_theirs", 16)]) (N := ["_law_script", "_law_whole", "_law_size", "_law_ballots_here", "_law_handed", "_law_due", "_law_found", "_law_back", "_law_at", "_law_first", "_law_second", "_law_line", "_law_many", "_law_row", "_law_number_here", "_law_mine", "_law_theirs", "_law_one", "_law_other"]) (sc := defScope s_law) (by decide +kernel)) (fun _ _ _ _ _ => (pgT K (n := 2) (pgs_cons (pg_name (i := 15) sc_law.nd rfl (by first | exact Or.inl rfl | exact Or.inr rfl)) (pgs_cons (pg_name (i := 16) sc_law.nd rfl (by first | exact Or.inl rfl | exact Or.inr rfl)) pgs_nil)))) (fun _ _ _ _ _ => pts_nil) (fun _ _ _ _ _ => (pe_lc (own := [("_law_one", 17), ("_law_other", 18)]) rfl sc_law.nd (piZ K (by rfl) T.n_zip (pa_cons (pv 15) (pa_cons (pv 16) pa_nil))) (blkOk_by (own := [("_law_one", 17), ("_law_other", 18)]) (N := ["_law_script", "_law_whole", "_law_size", "_law_ballots_here", "_law_handed", "_law_due", "_law_found", "_law_back", "_law_at", "_law_first", "_law_second", "_law_line", "_law_many", "_law_row", "_law_number_here", "_law_mine", "_law_theirs", "_law_one", "_law_other"]) (sc := _) (by kernel_rfl)) (fun _ _ _ _ _ => (pgT K (n := 2) (pgs_cons (pg_name (i := 17) sc_law.nd rfl (by first | exact Or.inl rfl | exact Or.inr rfl)) (pgs_cons (pg_name (i := 18) sc_law.nd rfl (by first | exact Or.inl rfl | exact Or.inr rfl)) pgs_nil)))) (fun _ _ _ _ _ => pts_nil) (fun _ _ _ _ _ => (pe_op op_add (pv 17) (pv 18)))))) (pv 5) (nomark _)) (pss_one (ps_ret pe_bl)) (pss_nil))
      (pss_cons (ps_expr (pe_bm PySem.F.plainAttrs_list PySem.F.slot_list_append PySem.F.type_list_append mt_append (pe_ix (ixLK K) (pv 6) pe_int (fun _ _ => rfl)) (pa_cons pe_int pa_nil)))
      (pss_cons (ps_if (pt_cmpR (neDK K hr.units) (pe_slice (slLK K) (pv 6) (po_some pe_int) po_none) (pe_slice (slLK K) (pv 5) (po_some pe_int) po_none) (nomark _)) (pss_one (ps_ret pe_bl)) (pss_nil))
      (pss_cons (ps_expr (pe_bm PySem.F.plainAttrs_list PySem.F.slot_list_append PySem.F.type_list_append mt_append (pv 6) (pa_cons (pe_lst pa_nil) pa_nil)))
      (pss_cons (ps_if (PW.pt (pw_or (pt_cmpR (neDK K hr.units) (pe_call (ok_counted T) (hr.mono (by decide)) (by rfl) T.g_counted T.F_counted.kp (b_counted T) .nil pass0 (pa_cons (pv 2) (pa_cons (pv 4) pa_nil))) (pv 5) (nomark _)) (pw_or1 (pt_cmpR (neDK K hr.units) (pv 4) (pv 3) (nomark _))))) (pss_one (ps_ret pe_bl)) (pss_nil))
      (pss_one (ps_ret (pe_and (pe_cmpR (eqDK K hr.units) (pe_call (ok_counted T) (hr.mono (by decide)) (by rfl) T.g_counted T.F_counted.kp (b_counted T) .nil pass0 (pa_cons pe_int (pa_cons (pe_lst (pa_cons (pe_tup (pa_cons (pe_lst (pa_cons pe_int pa_nil)) (pa_cons pe_int pa_nil))) pa_nil)) pa_nil))) (pe_lst (pa_cons (pe_lst (pa_cons pe_int pa_nil)) pa_nil)) (nomark _)) (pe_one (pe_cmpR (eqDK K hr.units) (pe_call (ok_counted T) (hr.mono (by decide)) (by rfl) T.g_counted T.F_counted.kp (b_counted T) .nil pass0 (pa_cons pe_int (pa_cons (pe_lst (pa_cons (pe_tup (pa_cons (pe_lst (pa_cons pe_int (pa_cons pe_int pa_nil))) (pa_cons pe_int pa_nil))) (pa_cons (pe_tup (pa_cons (pe_lst (pa_cons pe_int (pa_cons pe_int pa_nil))) (pa_cons pe_int pa_nil))) pa_nil))) pa_nil))) (pe_lst (pa_cons (pe_lst (pa_cons pe_int (pa_cons pe_int pa_nil))) (pa_cons (pe_lst (pa_cons (pe_un un_neg pe_int) (pa_cons pe_int pa_nil))) pa_nil))) (nomark _)))))))))))))))))))))), ?_⟩
    refine ⟨.ref a, rfl, 63, rfl, a, iv ns, rfl, hS, fun c1 nc1 => ?_⟩
    have e1 : Ex _ (upd H c1 (.lst (cutV (iv ns) none (some 63)))) := Ex.new nc1
    have ec1 : cutV (iv ns) none (some 63) = (ns.take 63).map V.int := by
      rw [show (63 : Int) = ((63 : Nat) : Int) from rfl, cut_to]
      unfold iv
      rw [List.map_take]
    refine ⟨c1, ns.take 63, rfl, sq_of (by rw [upd_same, ec1]), ?_⟩
    generalize (ns.take 63).sum = wh
    generalize (upd H c1 (.lst (cutV (iv ns) none (some 63)))) = H1 at e1
    have m8 := Int.emod_nonneg wh (show (8 : Int) ≠ 0 by decide)
    have m8' := Int.emod_lt_of_pos wh (show (0 : Int) < 8 by decide)
    have m12 := Int.emod_nonneg (wh / 128) (show (12 : Int) ≠ 0 by decide)
    have m12' := Int.emod_lt_of_pos (wh / 128) (show (0 : Int) < 12 by decide)
    refine ⟨_, rfl, _, _, rfl, rfl, (by decide : (0 : Int) < 8), _, _, rfl, rfl, ?_⟩
    refine ⟨fun σ' H' => H' = H1 ∧ ∃ z : Int, 1 ≤ z ∧ z ≤ 20 ∧ σ' = [some (.ref a), some (.int wh), some (.int z), none, none, none, none, none, none, none, none, none, none, none, none, none, none, none, none], ?_, ?_⟩
    · refine ⟨_, rfl, _, _, rfl, rfl, divW_small (by decide) (by decide), _, _, rfl, rfl, (by decide : (0 : Int) < 16), rfl, _, rfl, it2 (fun _ => ?_) (fun _ => ?_)⟩
      · exact ⟨_, rfl, _, _, rfl, rfl, divW_small (by decide) (by decide), _, _, rfl, rfl, (by decide : (0 : Int) < 12), _, _, rfl, rfl, rfl, _, by omega, by omega, rfl⟩
      · exact ⟨rfl, _, by omega, by omega, rfl⟩
    rintro σ' H' ⟨rfl, z, hz1, hz2, rfl⟩
    obtain ⟨n, rfl⟩ : ∃ n : Nat, z = (n : Int) := ⟨z.toNat, by omega⟩
    have hn1 : 1 ≤ n := by omega
    have hn : n ≤ 20 := by omega
    refine ⟨_, rfl, _, rfl, a, ns, n, B, rfl, ex_l e1 hS, hn, hB, hB2, fun H2 D xs bs e2 nD hD hP hok hlen => ?_⟩
    have hBR : BalsR K H2 (.ref D) bs := ⟨D, xs, rfl, sq_of hD, hP⟩
    have hlt : ∀ b ∈ bs, ∀ k ∈ b.1, k < n := fun b hb => okB_lt (List.all_eq_true.mp hok b hb)
    have hxl : xs.length = bs.length := Paired.len hP
    have hb24 : bs.length ≤ 24 := by omega
    refine ⟨_, rfl, D, rfl, ⟨xs, sq_of hD⟩, fun D2 hD2 => ?_⟩
    refine lc_bals (walk_list (K := K) (a := D) (xs := xs)) hD2 (by omega) (fun H e => ex_l e (sq_of hD)) bs hxl.symm ?_ ?_
    · rintro i x Ha Ha' b hi hb ea ⟨rfl, hx⟩ Qc hq
      obtain ⟨b', hb', t, l, rfl, hT, hL⟩ := Paired.get hP hx
      rw [hb] at hb'
      cases hb'
      refine ⟨t, _, rfl, ex_t ea hT, rfl, .ref l, _, rfl, .int b.2, [], rfl, rfl, rfl, .ref l, rfl, l, nv b.1, rfl, .inl (ex_l ea hL), fun p np => ⟨_, rfl, (by decide : 2 ≤ sizeLine), fun t2 nt2 => ?_⟩⟩
      have ep := Ex.new (o := .lst (nv b.1)) np
      have et := Ex.new (o := .tup [.ref p, .int b.2]) nt2
      exact hq t2 p _ (fresh_back ep nt2) np (ep.trans et) upd_same (et _ _ upd_same)
    intro H4 ts ls e4 BN
    refine ⟨_, rfl, _, rfl, n, _, bs, rfl, hn, hBR.mono e4, hlt, fun H5 t rs e5 TT => ?_⟩
    refine ⟨_, rfl, _, rfl, n, _, bs, rfl, hn1, hn, BN.rd.mono e5, hok, fun H6 t2 rs2 e6 TF => ?_⟩
    refine ⟨_, rfl, _, rfl, _, n, _, rfl, hn, TF.rd, fun H7 e7 => ⟨true, rfl, ?_⟩⟩
    refine ⟨_, rfl, _, rfl, _, _, (TF.rd.mono e7).dp, (TT.rd.mono (e6.trans e7)).dp, shaped_tab _ _, shaped_tab _ _, _, rfl, itF (by rw [eqv_tab (fun _ _ _ _ => rfl)]; rfl) ?_⟩
    have e57 : Ex H5 H7 := e6.trans e7
    have e47 : Ex H4 H7 := e5.trans e57
    refine ⟨_, rfl, _, rfl, _, _, (BN.rd.mono e47).dp, (hBR.mono (e4.trans e47)).dp, shaped_bals _, shaped_bals _, _, rfl, itF (by rw [SeqAt.eqv_refl _ (lay_bals bs)]; rfl) ?_⟩
    -- back
    have hD7 : H7 D = some (.lst xs) := (e4.trans e47) _ _ hD
    have hP7 : Paired (BalR K H7) xs bs := Paired.mapP hP fun _ _ q => q.mono (e4.trans e47)
    refine ⟨_, rfl, _, rfl, D, rfl, ⟨xs, sq_of hD7⟩, fun D3 hD3 => ?_⟩
    refine lc_bals (walk_list (K := K) (a := D) (xs := xs)) hD3 (by omega) (fun H e => ex_l e (sq_of hD7)) (bs.map fun b => (b.1.reverse, b.2)) (by rw [List.length_map, hxl]) ?_ ?_
    · rintro i x Ha Ha' b hi hb ea ⟨rfl, hx⟩ Qc hq
      obtain ⟨b', hb', t, l, rfl, hT, hL⟩ := Paired.get hP7 hx
      rw [List.getElem?_map, hb'] at hb
      cases hb
      refine ⟨t, _, rfl, ex_t ea hT, rfl, .ref l, _, rfl, .int b'.2, [], rfl, rfl, rfl, .ref l, rfl, l, nv b'.1, rfl, ex_l ea hL, fun p np => ⟨_, rfl, (by decide : 2 ≤ sizeLine), fun t2 nt2 => ?_⟩⟩
      have ep := Ex.new (o := .lst (nv b'.1).reverse) np
      have et := Ex.new (o := .tup [.ref p, .int b'.2]) nt2
      refine hq t2 p _ (fresh_back ep nt2) np (ep.trans et) upd_same ?_
      rw [et _ _ upd_same]
      unfold nv
      rw [List.map_reverse]
    intro H8 ts3 ls3 e8 BN3
    have hok3 : (bs.map fun b => (b.1.reverse, b.2)).all (okB n) = true := by
      rw [List.all_map, List.all_eq_true]
      intro b hb
      have := List.all_eq_true.mp hok b hb
      unfold okB at this
      rw [Bool.and_eq_true] at this
      show okB n (b.1.reverse, b.2) = true
      unfold okB
      rw [this.1, List.isPerm_iff.mpr ((List.reverse_perm b.1).trans (List.isPerm_iff.mp this.2))]
      rfl
    refine ⟨n, _, _, rfl, hn1, hn, BN3.rd, hok3, fun H9 t3 rs3 e9 TB => ?_⟩
    have e79 : Ex H7 H9 := e8.trans e9
    have TT9 := TT.mono (e57.trans e79)
    refine ⟨_, rfl, _, rfl, t, rfl, ⟨_, sq_of TT9.top⟩, fun D4 hD4 => ?_⟩
    refine lc_rows (walk_list (K := K) (a := t) (xs := rs.map V.ref)) hD4 (by rw [List.length_map, TT.len]; omega) (fun H e => sq_of (e _ _ TT9.top)) (fun i => rowV n (fun j => - cnt bs i j)) ?_ ?_
    · rintro i x Ha Ha' hi ea ⟨rfl, hx⟩ Qc hq
      have hin : i < n := by rw [List.length_map, TT.len] at hi; exact hi
      obtain ⟨r, hr1, hr2, hr3, hr4⟩ := TT9.at_ hin
      rw [hr3] at hx
      cases hx
      have hr5 : SqL K Ha' r (rowV n (cnt bs i)) := sq_of (ea _ _ hr4)
      refine ⟨rfl, _, rfl, r, rfl, ⟨_, hr5⟩, fun D5 hD5 => ?_⟩
      refine lc_vals (walk_list (K := K) (a := r) (xs := rowV n (cnt bs i))) hD5 (by rw [rowV_length]; omega) (fun H e => ex_l e hr5) (fun j => V.int (- cnt bs i j)) ?_ ?_
      · rintro j x Hb Hb' hj eb ⟨rfl, hx⟩ Qd hqd
        have hjn : j < n := by rw [rowV_length] at hj; exact hj
        rw [rowV_get hjn] at hx
        cases hx
        exact ⟨rfl, _, rfl, _, rfl, hqd _ (Ex.refl _)⟩
      · intro Hb eb hb
        rw [rowV_length] at hb
        exact hq D5 Hb hD5 eb hb
    intro H10 ps10 e10 hD10 hl10 R10
    have TN := R10.tab hD4 hD10 (by rw [hl10, List.length_map, TT.len])
    refine ⟨_, _, (TB.rd.mono e10).dp, TN.rd.dp, shaped_tab _ _, shaped_tab _ _, _, rfl, itF (by rw [eqv_tab (fun i j _ _ => cnt_reverse bs i j)]; rfl) ?_⟩
    -- parts
    have e2x : Ex H2 H10 := (e4.trans e47).trans (e79.trans e10)
    have hD10' : H10 D = some (.lst xs) := e2x _ _ hD
    have k0 := Int.emod_nonneg (wh / 3) (show ((bs.length : Int) + 1) ≠ 0 by omega)
    obtain ⟨k, hk⟩ : ∃ k : Nat, wh / 3 % ((bs.length : Int) + 1) = (k : Int) := ⟨(wh / 3 % ((bs.length : Int) + 1)).toNat, by omega⟩
    refine ⟨fun σ' H' => H10 = H' ∧ σ' = [some (.ref a), some (.int wh), some (.int n), some (.ref D), some (.ref D2), some (.ref t), some (.ref t2), some (.ref t3), some (.int k), none, none, none, none, none, none, none, none, none, none], ?_, ?_⟩
    · refine ⟨_, rfl, _, _, rfl, rfl, divW_small (by decide) (by decide), _, rfl, D, _, rfl, .inl (sq_of hD10'), _, _, rfl, rfl, _, _, rfl, rfl, by omega, ?_⟩
      rw [hxl]
      dsimp only
      rw [hk]
      exact ⟨rfl, rfl⟩
    rintro _ _ ⟨rfl, rfl⟩
    refine ⟨_, rfl, _, rfl, _, rfl, _, rfl, D, xs, rfl, sq_of hD10', fun c2 nc2 => ?_⟩
    have ec2 := Ex.new (o := .lst (cutV xs none (some (k : Int)))) nc2
    have hP10 : Paired (BalR K H10) xs bs := Paired.mapP hP fun _ _ q => q.mono e2x
    have hokT : (bs.take k).all (okB n) = true := List.all_eq_true.mpr fun b hb => List.all_eq_true.mp hok b (List.mem_of_mem_take hb)
    have hokD : (bs.drop k).all (okB n) = true := List.all_eq_true.mpr fun b hb => List.all_eq_true.mp hok b (List.mem_of_mem_drop hb)
    refine ⟨n, _, bs.take k, rfl, hn1, hn, ⟨c2, _, rfl, sq_of (by rw [upd_same, cut_to]), (Paired.mapP (Paired.take k hP10) fun _ _ q => q.mono ec2)⟩, hokT, fun H11 t4 rs4 e11 TA => ?_⟩
    have e2y : Ex H2 H11 := e2x.trans (ec2.trans e11)
    refine ⟨_, rfl, _, rfl, _, rfl, _, rfl, D, xs, rfl, sq_of (e2y _ _ hD), fun c3 nc3 => ?_⟩
    have ec3 := Ex.new (o := .lst (cutV xs (some (k : Int)) none)) nc3
    refine ⟨n, _, bs.drop k, rfl, hn1, hn, ⟨c3, _, rfl, sq_of (by rw [upd_same, cut_from]), (Paired.mapP (Paired.drop k hP) fun _ _ q => q.mono (e2y.trans ec3))⟩, hokD, fun H12 t5 rs5 e12 TD => ?_⟩
    refine ⟨_, _, rfl, ?_⟩
    have TA12 := TA.mono (ec3.trans e12)
    have e2z : Ex H2 H12 := e2y.trans (ec3.trans e12)
    have e5z : Ex H5 H12 := (e57.trans (e79.trans e10)).trans ((ec2.trans e11).trans (ec3.trans e12))
    have TT12 := TT.mono e5z
    refine ⟨_, rfl, _, rfl, t4, t5, _, _, rfl, sq_of TA12.top, sq_of TD.top, fun D6 hD6 => ?_⟩
    refine lc_rows (walk_zip (K := K) (a := t4) (b := t5) (xs := rs4.map V.ref) (ys := rs5.map V.ref) (n := n) (by rw [List.length_map, List.length_map, TA.len, TD.len, Nat.min_self])) hD6 (by omega) (fun H e => ⟨sq_of (e _ _ TA12.top), sq_of (e _ _ TD.top)⟩) (fun i => rowV n (fun j => cnt (bs.take k) i j + cnt (bs.drop k) i j)) ?_ ?_
    · rintro i x Ha Ha' hi ea ⟨U, x1, x2, rfl, nU, rfl, h1, h2⟩ Qc hq
      obtain ⟨r1, _, _, q1, q2⟩ := (TA12.mono ea).at_ hi
      obtain ⟨r2, _, _, q3, q4⟩ := (TD.mono ea).at_ hi
      change (rs4.map V.ref)[i]? = some x1 at h1
      change (rs5.map V.ref)[i]? = some x2 at h2
      rw [q1] at h1
      cases h1
      rw [q3] at h2
      cases h2
      have eU := Ex.new (o := .tup [.ref r1, .ref r2]) nU
      refine ⟨U, _, rfl, st_of upd_same, rfl, _, _, rfl, _, [], rfl, rfl, rfl, _, rfl, _, rfl, r1, r2, _, _, rfl, sq_of (eU _ _ q2), sq_of (eU _ _ q4), fun D7 hD7 => ?_⟩
      refine lc_vals (walk_zip (K := K) (a := r1) (b := r2) (xs := rowV n (cnt (bs.take k) i)) (ys := rowV n (cnt (bs.drop k) i)) (n := n) (by rw [rowV_length, rowV_length, Nat.min_self])) hD7 (by omega) (fun H e => ⟨sq_of (e _ _ (eU _ _ q2)), sq_of (e _ _ (eU _ _ q4))⟩) (fun j => V.int (cnt (bs.take k) i j + cnt (bs.drop k) i j)) ?_ ?_
      · rintro j x Hb Hb' hj eb ⟨U2, x1, x2, rfl, nU2, rfl, h1, h2⟩ Qd hqd
        change (rowV n (cnt (bs.take k) i))[j]? = some x1 at h1
        change (rowV n (cnt (bs.drop k) i))[j]? = some x2 at h2
        rw [rowV_get hj] at h1 h2
        cases h1
        cases h2
        exact ⟨U2, _, rfl, st_of upd_same, rfl, _, _, rfl, _, [], rfl, rfl, rfl, _, rfl, _, rfl, _, _, rfl, rfl, hqd _ (Ex.new nU2)⟩
      · intro Hb eb hb
        exact hq D7 Hb (fresh_back eU hD7) (eU.trans eb) hb
    intro H13 ps13 e13 hD13 hl13 R13
    have TS := R13.tab hD6 hD13 hl13
    have TT13 := TT12.mono e13
    refine ⟨_, rfl, _, _, TS.rd.dp, TT13.rd.dp, shaped_tab _ _, shaped_tab _ _, _, rfl, itF (by rw [eqv_tab (fun i j _ _ => cnt_parts bs k i j)]; rfl) ?_⟩
    -- a new table
    have e6z : Ex H6 H13 := ((e7.trans (e79.trans e10)).trans ((ec2.trans e11).trans (ec3.trans e12))).trans e13
    have TF13 := TF.mono e6z
    obtain ⟨r0, g0, m0, x0, c0⟩ := TF13.at_ (show 0 < n by omega)
    refine ⟨_, rfl, t2, _, 0, .ref r0, rfl, rfl, sq_of TF13.top, atI_nat (j := 0) x0, .inl ⟨rfl, _, sq_of c0⟩, r0, _, _, rfl, rfl, c0, sz_lt (by rw [rowV_length]; omega), ?_⟩
    have eR : Ex H5 (upd H13 r0 (.lst (rowV n (cnt bs 0) ++ [.int 1]))) := TF13.exMut (e6.trans e6z) m0
    have hne : ∀ i r, 1 ≤ i → rs2[i]? = some r → r ≠ r0 := fun i r h1 hr' e => by
      subst e
      have := nd_ix TF.nd hr' g0
      omega
    have hrw : ∀ i r, 1 ≤ i → rs2[i]? = some r → (upd H13 r0 (.lst (rowV n (cnt bs 0) ++ [.int 1]))) r = some (.lst (rowV n (cnt bs i))) := fun i r h1 hr' => by
      rw [upd_ne (hne i r h1 hr')]
      exact TF13.row i r hr'
    have ht2 : (upd H13 r0 (.lst (rowV n (cnt bs 0) ++ [.int 1]))) t2 = some (.lst (rs2.map V.ref)) := by
      rw [upd_ne (fun (e : t2 = r0) => TF.notop (e ▸ m0))]
      exact TF13.top
    generalize (upd H13 r0 (.lst (rowV n (cnt bs 0) ++ [.int 1]))) = H14 at eR hrw ht2
    refine ⟨_, rfl, 1, rfl, t2, _, rfl, sq_of ht2, fun c4 nc4 => ?_⟩
    have ec4 := Ex.new (o := .lst (cutV (rs2.map V.ref) (some 1) none)) nc4
    refine ⟨_, rfl, 1, rfl, t, _, rfl, sq_of (ec4 _ _ (eR _ _ TT.top)), fun c5 nc5 => ?_⟩
    have ec5 := Ex.new (o := .lst (cutV (rs.map V.ref) (some 1) none)) nc5
    have ecut : ∀ l : List Addr, cutV (l.map V.ref) (some 1) none = (l.drop 1).map V.ref := fun l => by
      rw [show (1 : Int) = ((1 : Nat) : Int) from rfl, cut_from, List.map_drop]
    refine ⟨_, _, dp_rows (k := 1) (n := n) (f := cnt bs) (rs := rs2) TF.len (sq_of (by rw [ec5 _ _ upd_same, ecut])) (fun i r h1 hr' => sq_of (ec5 _ _ (ec4 _ _ (hrw i r h1 hr')))), dp_rows (k := 1) (n := n) (f := cnt bs) (rs := rs) TT.len (sq_of (by rw [upd_same, ecut])) (fun i r h1 hr' => sq_of (ec5 _ _ (ec4 _ _ (eR _ _ (TT.row i r hr'))))), shaped_rows _ _ _, shaped_rows _ _ _, _, rfl, itF (by rw [SeqAt.eqv_refl _ (lay_rows _ _ _)]; rfl) ?_⟩
    refine ⟨_, rfl, .inl ⟨rfl, _, sq_of (ec5 _ _ (ec4 _ _ ht2))⟩, Nat.zero_le _, fun o no => ?_⟩
    have eo := Ex.new (o := .lst []) no
    refine ⟨t2, _, _, rfl, rfl, eo _ _ (ec5 _ _ (ec4 _ _ ht2)), sz_lt (by rw [List.length_map, TF.len]; omega), ?_⟩
    have e15 : Ex H5 (upd (upd (upd (upd H14 c4 (.lst (cutV (rs2.map V.ref) (some 1) none))) c5 (.lst (cutV (rs.map V.ref) (some 1) none))) o (.lst [])) t2 (.lst (rs2.map V.ref ++ [.ref o]))) := (((eR.trans ec4).trans ec5).trans eo).mut TF.ft
    generalize (upd (upd (upd (upd H14 c4 (.lst (cutV (rs2.map V.ref) (some 1) none))) c5 (.lst (cutV (rs.map V.ref) (some 1) none))) o (.lst [])) t2 (.lst (rs2.map V.ref ++ [.ref o]))) = H15 at e15
    refine ⟨_, rfl, _, rfl, n, _, bs, rfl, hn1, hn, BN.rd.mono (e5.trans e15), hok, fun H16 t6 rs6 e16 TG => ?_⟩
    refine ⟨_, rfl, _, _, TG.rd.dp, (TT.rd.mono (e15.trans e16)).dp, shaped_tab _ _, shaped_tab _ _, _, rfl, itF (by rw [eqv_tab (fun _ _ _ _ => rfl)]; rfl) ?_⟩
    refine ⟨_, rfl, _, rfl, _, _, (BN.rd.mono (e5.trans (e15.trans e16))).dp, (hBR.mono ((e4.trans e5).trans (e15.trans e16))).dp, shaped_bals _, shaped_bals _, _, rfl, itF (by rw [SeqAt.eqv_refl _ (lay_bals bs)]; rfl) ?_⟩
    -- by hand
    refine ⟨(by decide : 1 ≤ sizeLine), fun p1 np1 => ⟨(by decide : 2 ≤ sizeLine), fun p2 np2 => ⟨(by decide : 1 ≤ sizeLine), fun p3 np3 => ?_⟩⟩⟩
    have ep1 := Ex.new (o := .lst [V.int 0]) np1
    have ep2 := Ex.new (o := .tup [V.ref p1, V.int 5]) np2
    have ep3 := Ex.new (o := .lst [V.ref p2]) np3
    refine ⟨1, _, [([0], 5)], rfl, by decide, by decide, ⟨p3, _, rfl, sq_of upd_same, .cons ⟨p2, p1, rfl, st_of (ep3 _ _ upd_same), sq_of (ep3 _ _ (ep2 _ _ upd_same))⟩ .nil⟩, by decide +kernel, fun H17 t7 rs7 e17 TH => ?_⟩
    refine ⟨(by decide : 1 ≤ sizeLine), fun p4 np4 => ⟨(by decide : 1 ≤ sizeLine), fun p5 np5 => ?_⟩⟩
    have ep4 := Ex.new (o := .lst [V.int 0]) np4
    have ep5 := Ex.new (o := .lst [V.ref p4]) np5
    refine ⟨_, _, ((TH.mono ep4).mono ep5).rd.dp, .lst (sq_of upd_same) (.cons (.lst (sq_of (ep5 _ _ upd_same)) (.cons (.int 0) .nil)) .nil), shaped_tab _ _, by decide +kernel, true, by rw [show PyData.eqv (dTab 1 (cnt [([0], 5)])) (.list [.list [.int 0]]) = true by decide +kernel], ?_⟩
    refine ⟨(by decide : 2 ≤ sizeLine), fun p1 np1 => ⟨(by decide : 2 ≤ sizeLine), fun p2 np2 => ⟨(by decide : 2 ≤ sizeLine), fun p3 np3 => ⟨(by decide : 2 ≤ sizeLine), fun p6 np6 => ⟨(by decide : 2 ≤ sizeLine), fun p7 np7 => ?_⟩⟩⟩⟩⟩
    have f1 := Ex.new (o := .lst [V.int 1, V.int 0]) np1
    have f2 := Ex.new (o := .tup [V.ref p1, V.int 2]) np2
    have f3 := Ex.new (o := .lst [V.int 0, V.int 1]) np3
    have f6 := Ex.new (o := .tup [V.ref p3, V.int 5]) np6
    have f7 := Ex.new (o := .lst [V.ref p2, V.ref p6]) np7
    refine ⟨2, _, [([1, 0], 2), ([0, 1], 5)], rfl, by decide, by decide, ⟨p7, _, rfl, sq_of upd_same, .cons ⟨p2, p1, rfl, st_of (f7 _ _ (f6 _ _ (f3 _ _ upd_same))), sq_of (f7 _ _ (f6 _ _ (f3 _ _ (f2 _ _ upd_same))))⟩ (.cons ⟨p6, p3, rfl, st_of (f7 _ _ upd_same), sq_of (f7 _ _ (f6 _ _ upd_same))⟩ .nil)⟩, by decide +kernel, fun H18 t8 rs8 e18 TI => ?_⟩
    refine ⟨(by decide : 2 ≤ sizeLine), fun p4 np4 => ⟨_, rfl, (by decide : 2 ≤ sizeLine), fun p5 np5 => ⟨(by decide : 2 ≤ sizeLine), fun p8 np8 => ?_⟩⟩⟩
    have f4 := Ex.new (o := .lst [V.int 0, V.int 3]) np4
    have f5 := Ex.new (o := .lst [V.int (-3), V.int 0]) np5
    have f8 := Ex.new (o := .lst [V.ref p4, V.ref p5]) np8
    refine ⟨_, _, (((TI.mono f4).mono f5).mono f8).rd.dp, .lst (sq_of upd_same) (.cons (.lst (sq_of (f8 _ _ (f5 _ _ upd_same))) (.cons (.int 0) (.cons (.int 3) .nil))) (.cons (.lst (sq_of (f8 _ _ upd_same)) (.cons (.int (-3)) (.cons (.int 0) .nil))) .nil)), shaped_tab _ _, by decide +kernel, ?_⟩
    rw [show PyData.eqv (dTab 2 (cnt [([1, 0], 2), ([0, 1], 5)])) (.list [.list [.int 0, .int 3], .list [.int (-3), .int 0]]) = true by decide +kernel]
    exact q _
end
end Hc
namespace Hc
open PySem PySem.Spec PyProof.Rows L2 Evl
theorem tx_of {K : PySem.W.Frag} {h : Heap} {mg : Str → Option Value} (X : K.In h) (G : h.Ns mainGlobals mg)
    {f1 : Addr} {od1 an1 : Option Addr} {sl1 : Array (Option Value)} {oc1 kV1 dc1 pm1 cd1 ct1 : Value} {f2 : Addr} {od2 an2 : Option Addr} {sl2 : Array (Option Value)} {oc2 kV2 dc2 pm2 cd2 ct2 : Value} {f3 : Addr} {od3 an3 : Option Addr} {sl3 : Array (Option Value)} {oc3 kV3 dc3 pm3 cd3 ct3 : Value} {f4 : Addr} {od4 an4 : Option Addr} {sl4 : Array (Option Value)} {oc4 kV4 dc4 pm4 cd4 ct4 : Value} {f5 : Addr} {od5 an5 : Option Addr} {sl5 : Array (Option Value)} {oc5 kV5 dc5 pm5 cd5 ct5 : Value} {f6 : Addr} {od6 an6 : Option Addr} {sl6 : Array (Option Value)} {oc6 kV6 dc6 pm6 cd6 ct6 : Value} {f7 : Addr} {od7 an7 : Option Addr} {sl7 : Array (Option Value)} {oc7 kV7 dc7 pm7 cd7 ct7 : Value} {f8 : Addr} {od8 an8 : Option Addr} {sl8 : Array (Option Value)} {oc8 kV8 dc8 pm8 cd8 ct8 : Value} {f9 : Addr} {od9 an9 : Option Addr} {sl9 : Array (Option Value)} {oc9 kV9 dc9 pm9 cd9 ct9 : Value} {f10 : Addr} {od10 an10 : Option Addr} {sl10 : Array (Option Value)} {oc10 kV10 dc10 pm10 cd10 ct10 : Value} {f11 : Addr} {od11 an11 : Option Addr} {sl11 : Array (Option Value)} {oc11 kV11 dc11 pm11 cd11 ct11 : Value} {t_MOST : Nat}
    (a1 : PySem.W.nsIn K mainGlobals "is_number" = some (some (.ref f1)))
    (l1 : K.lookup f1 = some ⟨oc1, od1, .func (PySem.W.fnOf "is_number" "is_number" (defArgs s_is_number) (defBody s_is_number) (defScope s_is_number) .none kV1 dc1 pm1 an1 cd1 ct1), sl1⟩)
    (e1 : PySem.W.codeIn K cd1 "is_number" = true)
    (k1 : PySem.W.keepIn K (.ref f1) = true)
    (a2 : PySem.W.nsIn K mainGlobals "asked_candidates" = some (some (.ref f2)))
    (l2 : K.lookup f2 = some ⟨oc2, od2, .func (PySem.W.fnOf "asked_candidates" "asked_candidates" (defArgs s_asked_candidates) (defBody s_asked_candidates) (defScope s_asked_candidates) .none kV2 dc2 pm2 an2 cd2 ct2), sl2⟩)
    (e2 : PySem.W.codeIn K cd2 "asked_candidates" = true)
    (k2 : PySem.W.keepIn K (.ref f2) = true)
    (a3 : PySem.W.nsIn K mainGlobals "are_ballots" = some (some (.ref f3)))
    (l3 : K.lookup f3 = some ⟨oc3, od3, .func (PySem.W.fnOf "are_ballots" "are_ballots" (defArgs s_are_ballots) (defBody s_are_ballots) (defScope s_are_ballots) .none kV3 dc3 pm3 an3 cd3 ct3), sl3⟩)
    (e3 : PySem.W.codeIn K cd3 "are_ballots" = true)
    (k3 : PySem.W.keepIn K (.ref f3) = true)
    (a4 : PySem.W.nsIn K mainGlobals "asked_ballots" = some (some (.ref f4)))
    (l4 : K.lookup f4 = some ⟨oc4, od4, .func (PySem.W.fnOf "asked_ballots" "asked_ballots" (defArgs s_asked_ballots) (defBody s_asked_ballots) (defScope s_asked_ballots) .none kV4 dc4 pm4 an4 cd4 ct4), sl4⟩)
    (e4 : PySem.W.codeIn K cd4 "asked_ballots" = true)
    (k4 : PySem.W.keepIn K (.ref f4) = true)
    (a5 : PySem.W.nsIn K mainGlobals "count_of" = some (some (.ref f5)))
    (l5 : K.lookup f5 = some ⟨oc5, od5, .func (PySem.W.fnOf "count_of" "count_of" (defArgs s_count_of) (defBody s_count_of) (defScope s_count_of) .none kV5 dc5 pm5 an5 cd5 ct5), sl5⟩)
    (e5 : PySem.W.codeIn K cd5 "count_of" = true)
    (k5 : PySem.W.keepIn K (.ref f5) = true)
    (a6 : PySem.W.nsIn K mainGlobals "counted" = some (some (.ref f6)))
    (l6 : K.lookup f6 = some ⟨oc6, od6, .func (PySem.W.fnOf "counted" "counted" (defArgs s_counted) (defBody s_counted) (defScope s_counted) .none kV6 dc6 pm6 an6 cd6 ct6), sl6⟩)
    (e6 : PySem.W.codeIn K cd6 "counted" = true)
    (k6 : PySem.W.keepIn K (.ref f6) = true)
    (a7 : PySem.W.nsIn K mainGlobals "_law_number" = some (some (.ref f7)))
    (l7 : K.lookup f7 = some ⟨oc7, od7, .func (PySem.W.fnOf "_law_number" "_law_number" (defArgs s_law_number) (defBody s_law_number) (defScope s_law_number) .none kV7 dc7 pm7 an7 cd7 ct7), sl7⟩)
    (e7 : PySem.W.codeIn K cd7 "_law_number" = true)
    (k7 : PySem.W.keepIn K (.ref f7) = true)
    (a8 : PySem.W.nsIn K mainGlobals "_law_ballots" = some (some (.ref f8)))
    (l8 : K.lookup f8 = some ⟨oc8, od8, .func (PySem.W.fnOf "_law_ballots" "_law_ballots" (defArgs s_law_ballots) (defBody s_law_ballots) (defScope s_law_ballots) .none kV8 dc8 pm8 an8 cd8 ct8), sl8⟩)
    (e8 : PySem.W.codeIn K cd8 "_law_ballots" = true)
    (k8 : PySem.W.keepIn K (.ref f8) = true)
    (a9 : PySem.W.nsIn K mainGlobals "_law_count" = some (some (.ref f9)))
    (l9 : K.lookup f9 = some ⟨oc9, od9, .func (PySem.W.fnOf "_law_count" "_law_count" (defArgs s_law_count) (defBody s_law_count) (defScope s_law_count) .none kV9 dc9 pm9 an9 cd9 ct9), sl9⟩)
    (e9 : PySem.W.codeIn K cd9 "_law_count" = true)
    (k9 : PySem.W.keepIn K (.ref f9) = true)
    (a10 : PySem.W.nsIn K mainGlobals "_law_is_table" = some (some (.ref f10)))
    (l10 : K.lookup f10 = some ⟨oc10, od10, .func (PySem.W.fnOf "_law_is_table" "_law_is_table" (defArgs s_law_is_table) (defBody s_law_is_table) (defScope s_law_is_table) .none kV10 dc10 pm10 an10 cd10 ct10), sl10⟩)
    (e10 : PySem.W.codeIn K cd10 "_law_is_table" = true)
    (k10 : PySem.W.keepIn K (.ref f10) = true)
    (a11 : PySem.W.nsIn K mainGlobals "law" = some (some (.ref f11)))
    (l11 : K.lookup f11 = some ⟨oc11, od11, .func (PySem.W.fnOf "law" "law" (defArgs s_law) (defBody s_law) (defScope s_law) .none kV11 dc11 pm11 an11 cd11 ct11), sl11⟩)
    (e11 : PySem.W.codeIn K cd11 "law" = true)
    (k11 : PySem.W.keepIn K (.ref f11) = true)
    (a_MOST : PySem.W.nsIn K mainGlobals "MOST" = some (some (.int 20 t_MOST)))
    (z_all : PySem.W.nsIn K mainGlobals "all" = some none)
    (z_bool : PySem.W.nsIn K mainGlobals "bool" = some none)
    (z_enumerate : PySem.W.nsIn K mainGlobals "enumerate" = some none)
    (z_int : PySem.W.nsIn K mainGlobals "int" = some none)
    (z_isinstance : PySem.W.nsIn K mainGlobals "isinstance" = some none)
    (z_len : PySem.W.nsIn K mainGlobals "len" = some none)
    (z_list : PySem.W.nsIn K mainGlobals "list" = some none)
    (z_range : PySem.W.nsIn K mainGlobals "range" = some none)
    (z_sorted : PySem.W.nsIn K mainGlobals "sorted" = some none)
    (z_sum : PySem.W.nsIn K mainGlobals "sum" = some none)
    (z_tuple : PySem.W.nsIn K mainGlobals "tuple" = some none)
    (z_zip : PySem.W.nsIn K mainGlobals "zip" = some none) :
    ∃ T : Tx K mg, T.d_law = PySem.W.fnOf "law" "law" (defArgs s_law) (defBody s_law) (defScope s_law) .none kV11 dc11 pm11 an11 cd11 ct11 :=
  ⟨{ f_is_number := f1,
      d_is_number := _,
      F_is_number := fun_mk (st := s_is_number) l1 e1 k1,
      g_is_number := PySem.W.mg_of X G a1,
      f_asked_candidates := f2,
      d_asked_candidates := _,
      F_asked_candidates := fun_mk (st := s_asked_candidates) l2 e2 k2,
      g_asked_candidates := PySem.W.mg_of X G a2,
      f_are_ballots := f3,
      d_are_ballots := _,
      F_are_ballots := fun_mk (st := s_are_ballots) l3 e3 k3,
      g_are_ballots := PySem.W.mg_of X G a3,
      f_asked_ballots := f4,
      d_asked_ballots := _,
      F_asked_ballots := fun_mk (st := s_asked_ballots) l4 e4 k4,
      g_asked_ballots := PySem.W.mg_of X G a4,
      f_count_of := f5,
      d_count_of := _,
      F_count_of := fun_mk (st := s_count_of) l5 e5 k5,
      g_count_of := PySem.W.mg_of X G a5,
      f_counted := f6,
      d_counted := _,
      F_counted := fun_mk (st := s_counted) l6 e6 k6,
      g_counted := PySem.W.mg_of X G a6,
      f_law_number := f7,
      d_law_number := _,
      F_law_number := fun_mk (st := s_law_number) l7 e7 k7,
      g_law_number := PySem.W.mg_of X G a7,
      f_law_ballots := f8,
      d_law_ballots := _,
      F_law_ballots := fun_mk (st := s_law_ballots) l8 e8 k8,
      g_law_ballots := PySem.W.mg_of X G a8,
      f_law_count := f9,
      d_law_count := _,
      F_law_count := fun_mk (st := s_law_count) l9 e9 k9,
      g_law_count := PySem.W.mg_of X G a9,
      f_law_is_table := f10,
      d_law_is_table := _,
      F_law_is_table := fun_mk (st := s_law_is_table) l10 e10 k10,
      g_law_is_table := PySem.W.mg_of X G a10,
      f_law := f11,
      d_law := _,
      F_law := fun_mk (st := s_law) l11 e11 k11,
      g_law := PySem.W.mg_of X G a11,
      g_MOST := ⟨t_MOST, PySem.W.mg_of X G a_MOST⟩,
      n_all := PySem.W.mg_none_of X G z_all,
      n_bool := PySem.W.mg_none_of X G z_bool,
      n_enumerate := PySem.W.mg_none_of X G z_enumerate,
      n_int := PySem.W.mg_none_of X G z_int,
      n_isinstance := PySem.W.mg_none_of X G z_isinstance,
      n_len := PySem.W.mg_none_of X G z_len,
      n_list := PySem.W.mg_none_of X G z_list,
      n_range := PySem.W.mg_none_of X G z_range,
      n_sorted := PySem.W.mg_none_of X G z_sorted,
      n_sum := PySem.W.mg_none_of X G z_sum,
      n_tuple := PySem.W.mg_none_of X G z_tuple,
      n_zip := PySem.W.mg_none_of X G z_zip }, rfl⟩
theorem law_of {l : PySem.W.OpenLaw} {w : World} {K : PySem.W.Frag} {mg : Str → Option Value} {fa : Addr} (hfa : mg "law" = some (.ref fa)) {kV dc pm cd ct : Value} {an : Option Addr} (hT : ∃ T : Tx K mg, T.d_law = PySem.W.fnOf "law" "law" (defArgs s_law) (defBody s_law) (defScope s_law) .none kV dc pm an cd ct) :
    ∃ fd : FuncData, (∀ (s : Shared) (v : Value), BindsTo s fd ⟨[v], []⟩ [("_law_script", v)]) ∧ ∀ base : Heap, K.In base → base.Ns mainGlobals mg → FnOk l.prog w K mg base CX0 5 fa fd ["_law_script"] (spLaw K) := by
  obtain ⟨T, e⟩ := hT
  have e2 := hfa.symm.trans T.g_law
  cases e2
  exact ⟨T.d_law, fun s v => by rw [e]; exact .of_eq rfl, fun base _ _ => ok_law T⟩
theorem all_of {l : PySem.W.OpenLaw} {w : World} {K : PySem.W.Frag} {h : Heap} {mg : Str → Option Value} {fa : Addr} (X : K.In h) (G : h.Ns mainGlobals mg) (hfa : mg "law" = some (.ref fa))
    {f1 : Addr} {od1 an1 : Option Addr} {sl1 : Array (Option Value)} {oc1 kV1 dc1 pm1 cd1 ct1 : Value} {f2 : Addr} {od2 an2 : Option Addr} {sl2 : Array (Option Value)} {oc2 kV2 dc2 pm2 cd2 ct2 : Value} {f3 : Addr} {od3 an3 : Option Addr} {sl3 : Array (Option Value)} {oc3 kV3 dc3 pm3 cd3 ct3 : Value} {f4 : Addr} {od4 an4 : Option Addr} {sl4 : Array (Option Value)} {oc4 kV4 dc4 pm4 cd4 ct4 : Value} {f5 : Addr} {od5 an5 : Option Addr} {sl5 : Array (Option Value)} {oc5 kV5 dc5 pm5 cd5 ct5 : Value} {f6 : Addr} {od6 an6 : Option Addr} {sl6 : Array (Option Value)} {oc6 kV6 dc6 pm6 cd6 ct6 : Value} {f7 : Addr} {od7 an7 : Option Addr} {sl7 : Array (Option Value)} {oc7 kV7 dc7 pm7 cd7 ct7 : Value} {f8 : Addr} {od8 an8 : Option Addr} {sl8 : Array (Option Value)} {oc8 kV8 dc8 pm8 cd8 ct8 : Value} {f9 : Addr} {od9 an9 : Option Addr} {sl9 : Array (Option Value)} {oc9 kV9 dc9 pm9 cd9 ct9 : Value} {f10 : Addr} {od10 an10 : Option Addr} {sl10 : Array (Option Value)} {oc10 kV10 dc10 pm10 cd10 ct10 : Value} {f11 : Addr} {od11 an11 : Option Addr} {sl11 : Array (Option Value)} {oc11 kV11 dc11 pm11 cd11 ct11 : Value} {t_MOST : Nat}
    (a1 : PySem.W.nsIn K mainGlobals "is_number" = some (some (.ref f1)))
    (l1 : K.lookup f1 = some ⟨oc1, od1, .func (PySem.W.fnOf "is_number" "is_number" (defArgs s_is_number) (defBody s_is_number) (defScope s_is_number) .none kV1 dc1 pm1 an1 cd1 ct1), sl1⟩)
    (e1 : PySem.W.codeIn K cd1 "is_number" = true)
    (k1 : PySem.W.keepIn K (.ref f1) = true)
    (a2 : PySem.W.nsIn K mainGlobals "asked_candidates" = some (some (.ref f2)))
    (l2 : K.lookup f2 = some ⟨oc2, od2, .func (PySem.W.fnOf "asked_candidates" "asked_candidates" (defArgs s_asked_candidates) (defBody s_asked_candidates) (defScope s_asked_candidates) .none kV2 dc2 pm2 an2 cd2 ct2), sl2⟩)
    (e2 : PySem.W.codeIn K cd2 "asked_candidates" = true)
    (k2 : PySem.W.keepIn K (.ref f2) = true)
    (a3 : PySem.W.nsIn K mainGlobals "are_ballots" = some (some (.ref f3)))
    (l3 : K.lookup f3 = some ⟨oc3, od3, .func (PySem.W.fnOf "are_ballots" "are_ballots" (defArgs s_are_ballots) (defBody s_are_ballots) (defScope s_are_ballots) .none kV3 dc3 pm3 an3 cd3 ct3), sl3⟩)
    (e3 : PySem.W.codeIn K cd3 "are_ballots" = true)
    (k3 : PySem.W.keepIn K (.ref f3) = true)
    (a4 : PySem.W.nsIn K mainGlobals "asked_ballots" = some (some (.ref f4)))
    (l4 : K.lookup f4 = some ⟨oc4, od4, .func (PySem.W.fnOf "asked_ballots" "asked_ballots" (defArgs s_asked_ballots) (defBody s_asked_ballots) (defScope s_asked_ballots) .none kV4 dc4 pm4 an4 cd4 ct4), sl4⟩)
    (e4 : PySem.W.codeIn K cd4 "asked_ballots" = true)
    (k4 : PySem.W.keepIn K (.ref f4) = true)
    (a5 : PySem.W.nsIn K mainGlobals "count_of" = some (some (.ref f5)))
    (l5 : K.lookup f5 = some ⟨oc5, od5, .func (PySem.W.fnOf "count_of" "count_of" (defArgs s_count_of) (defBody s_count_of) (defScope s_count_of) .none kV5 dc5 pm5 an5 cd5 ct5), sl5⟩)
    (e5 : PySem.W.codeIn K cd5 "count_of" = true)
    (k5 : PySem.W.keepIn K (.ref f5) = true)
    (a6 : PySem.W.nsIn K mainGlobals "counted" = some (some (.ref f6)))
    (l6 : K.lookup f6 = some ⟨oc6, od6, .func (PySem.W.fnOf "counted" "counted" (defArgs s_counted) (defBody s_counted) (defScope s_counted) .none kV6 dc6 pm6 an6 cd6 ct6), sl6⟩)
    (e6 : PySem.W.codeIn K cd6 "counted" = true)
    (k6 : PySem.W.keepIn K (.ref f6) = true)
    (a7 : PySem.W.nsIn K mainGlobals "_law_number" = some (some (.ref f7)))
    (l7 : K.lookup f7 = some ⟨oc7, od7, .func (PySem.W.fnOf "_law_number" "_law_number" (defArgs s_law_number) (defBody s_law_number) (defScope s_law_number) .none kV7 dc7 pm7 an7 cd7 ct7), sl7⟩)
    (e7 : PySem.W.codeIn K cd7 "_law_number" = true)
    (k7 : PySem.W.keepIn K (.ref f7) = true)
    (a8 : PySem.W.nsIn K mainGlobals "_law_ballots" = some (some (.ref f8)))
    (l8 : K.lookup f8 = some ⟨oc8, od8, .func (PySem.W.fnOf "_law_ballots" "_law_ballots" (defArgs s_law_ballots) (defBody s_law_ballots) (defScope s_law_ballots) .none kV8 dc8 pm8 an8 cd8 ct8), sl8⟩)
    (e8 : PySem.W.codeIn K cd8 "_law_ballots" = true)
    (k8 : PySem.W.keepIn K (.ref f8) = true)
    (a9 : PySem.W.nsIn K mainGlobals "_law_count" = some (some (.ref f9)))
    (l9 : K.lookup f9 = some ⟨oc9, od9, .func (PySem.W.fnOf "_law_count" "_law_count" (defArgs s_law_count) (defBody s_law_count) (defScope s_law_count) .none kV9 dc9 pm9 an9 cd9 ct9), sl9⟩)
    (e9 : PySem.W.codeIn K cd9 "_law_count" = true)
    (k9 : PySem.W.keepIn K (.ref f9) = true)
    (a10 : PySem.W.nsIn K mainGlobals "_law_is_table" = some (some (.ref f10)))
    (l10 : K.lookup f10 = some ⟨oc10, od10, .func (PySem.W.fnOf "_law_is_table" "_law_is_table" (defArgs s_law_is_table) (defBody s_law_is_table) (defScope s_law_is_table) .none kV10 dc10 pm10 an10 cd10 ct10), sl10⟩)
    (e10 : PySem.W.codeIn K cd10 "_law_is_table" = true)
    (k10 : PySem.W.keepIn K (.ref f10) = true)
    (a11 : PySem.W.nsIn K mainGlobals "law" = some (some (.ref f11)))
    (l11 : K.lookup f11 = some ⟨oc11, od11, .func (PySem.W.fnOf "law" "law" (defArgs s_law) (defBody s_law) (defScope s_law) .none kV11 dc11 pm11 an11 cd11 ct11), sl11⟩)
    (e11 : PySem.W.codeIn K cd11 "law" = true)
    (k11 : PySem.W.keepIn K (.ref f11) = true)
    (a_MOST : PySem.W.nsIn K mainGlobals "MOST" = some (some (.int 20 t_MOST)))
    (z_all : PySem.W.nsIn K mainGlobals "all" = some none)
    (z_bool : PySem.W.nsIn K mainGlobals "bool" = some none)
    (z_enumerate : PySem.W.nsIn K mainGlobals "enumerate" = some none)
    (z_int : PySem.W.nsIn K mainGlobals "int" = some none)
    (z_isinstance : PySem.W.nsIn K mainGlobals "isinstance" = some none)
    (z_len : PySem.W.nsIn K mainGlobals "len" = some none)
    (z_list : PySem.W.nsIn K mainGlobals "list" = some none)
    (z_range : PySem.W.nsIn K mainGlobals "range" = some none)
    (z_sorted : PySem.W.nsIn K mainGlobals "sorted" = some none)
    (z_sum : PySem.W.nsIn K mainGlobals "sum" = some none)
    (z_tuple : PySem.W.nsIn K mainGlobals "tuple" = some none)
    (z_zip : PySem.W.nsIn K mainGlobals "zip" = some none) :
    ∃ fd : FuncData, (∀ (s : Shared) (v : Value), BindsTo s fd ⟨[v], []⟩ [("_law_script", v)]) ∧ ∀ base : Heap, K.In base → base.Ns mainGlobals mg → FnOk l.prog w K mg base CX0 5 fa fd ["_law_script"] (spLaw K) :=
  law_of hfa (tx_of X G a1 l1 e1 k1 a2 l2 e2 k2 a3 l3 e3 k3 a4 l4 e4 k4 a5 l5 e5 k5 a6 l6 e6 k6 a7 l7 e7 k7 a8 l8 e8 k8 a9 l9 e9 k9 a10 l10 e10 k10 a11 l11 e11 k11 a_MOST z_all z_bool z_enumerate z_int z_isinstance z_len z_list z_range z_sorted z_sum z_tuple z_zip)
end Hc
open PySem PySem.W PyProof.Rows
set_option maxHeartbeats 0 in
theorem PySem.Challenge.cw_headcounts_k01_whole_counted_holds : PySem.Challenge.rw_headcounts_k01_whole_counted.Holds := by
  w_on; o_law; k_head; (case hw => w_witness2)
  k_fill
  refine L2.walk_ofB (l := PySem.Challenge.rw_headcounts_k01_whole_counted) (n := 63) (k := 5) (x := "_law_script") (CX := fun _ => L2.CX0) (sp := fun w => Hc.spLaw _) rfl (by decide) rfl ⟨rfl, by decide, by decide⟩ (fun w h Y => PySem.W.kIn_of Y) ?F (fun _ _ a ns hl hb _ hS => ⟨a, ns, 1048576, rfl, hS, hl, fun z hz => Hc.big_of_bits (hb z hz), by decide, fun _ => rfl⟩) (fun _ _ _ _ _ h => h)
  case F =>
    intro w mg fa h KX G hmg
    refine' Hc.all_of KX G hmg ?a1 ?l1 ?e1 ?k1 ?a2 ?l2 ?e2 ?k2 ?a3 ?l3 ?e3 ?k3 ?a4 ?l4 ?e4 ?k4 ?a5 ?l5 ?e5 ?k5 ?a6 ?l6 ?e6 ?k6 ?a7 ?l7 ?e7 ?k7 ?a8 ?l8 ?e8 ?k8 ?a9 ?l9 ?e9 ?k9 ?a10 ?l10 ?e10 ?k10 ?a11 ?l11 ?e11 ?k11 ?a_MOST ?z_all ?z_bool ?z_enumerate ?z_int ?z_isinstance ?z_len ?z_list ?z_range ?z_sorted ?z_sum ?z_tuple ?z_zip
    (case a1 => k_is); (case l1 => k_is); (case e1 => k_is); (case k1 => k_is); (case a2 => k_is); (case l2 => k_is); (case e2 => k_is); (case k2 => k_is); (case a3 => k_is); (case l3 => k_is); (case e3 => k_is); (case k3 => k_is); (case a4 => k_is); (case l4 => k_is); (case e4 => k_is); (case k4 => k_is); (case a5 => k_is); (case l5 => k_is); (case e5 => k_is); (case k5 => k_is); (case a6 => k_is); (case l6 => k_is); (case e6 => k_is); (case k6 => k_is); (case a7 => k_is); (case l7 => k_is); (case e7 => k_is); (case k7 => k_is); (case a8 => k_is); (case l8 => k_is); (case e8 => k_is); (case k8 => k_is); (case a9 => k_is); (case l9 => k_is); (case e9 => k_is); (case k9 => k_is); (case a10 => k_is); (case l10 => k_is); (case e10 => k_is); (case k10 => k_is); (case a11 => k_is); (case l11 => k_is); (case e11 => k_is); (case k11 => k_is); (case a_MOST => k_is); (case z_all => k_is); (case z_bool => k_is); (case z_enumerate => k_is); (case z_int => k_is); (case z_isinstance => k_is); (case z_len => k_is); (case z_list => k_is); (case z_range => k_is); (case z_sorted => k_is); (case z_sum => k_is); (case z_tuple => k_is); (case z_zip => k_is)
