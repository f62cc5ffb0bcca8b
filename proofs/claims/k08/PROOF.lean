import PyProof.Rows.All
import Wide.All
import OpenK.AllK
import Wide.FinOn
import HandS.Base
import HandS.Call
import HandS.List
import HandS.Comp
import HandS.Ends
import HandS.Dict
import HandS.Iter
import HandS.Words
import HandS.WordsList
import HandS.Conv
import HandS.Wide
import HandS.Evl
import HandS.Zip
import HandS.EndBits
import HandS.Walk
import HandS.IsInst
import HandS.Style
import HandS.HotCalls
import HandS.ExcIs
import HandS.ExcCtx
import HandS.WordsExc
import HandS.ExcOwn
import KE.KMinBuiltin
import HandS.SortKw
import HandS.SortRule
import KE.RegKIsAll
import HandS.SetFor
import PySem.Challenge.RW_headcounts_k08_whole_numbers
set_option Elab.async false
set_option linter.all false
set_option maxRecDepth 100000
set_option maxHeartbeats 4000000
/-! Plain laws of counting: no program in sight. -/
namespace Hc

/-- what one pair (a ahead of b) adds to the cell (i, j) -/
def dlt (i j a b : Nat) : Int := (if a = i ∧ b = j then 1 else 0) - (if b = i ∧ a = j then 1 else 0)
def dsum (i j a : Nat) (l : List Nat) : Int := (l.map fun b => dlt i j a b).sum
def psum (i j : Nat) : List Nat → Int
  | [] => 0
  | a :: l => dsum i j a l + psum i j l
/-- the first p places taken as the one ahead -/
def psA (i j : Nat) : Nat → List Nat → Int
  | 0, _ => 0
  | _ + 1, [] => 0
  | p + 1, a :: l => dsum i j a l + psA i j p l
def cnt (bs : List (List Nat × Int)) (i j : Nat) : Int := (bs.map fun b => b.2 * psum i j b.1).sum

theorem dlt_swap (i j a b : Nat) : dlt i j b a = - dlt i j a b := by
  unfold dlt
  have e1 : (b = i ∧ a = j) ↔ (b = i ∧ a = j) := Iff.rfl
  by_cases h1 : a = i ∧ b = j <;> by_cases h2 : b = i ∧ a = j <;> simp [h1, h2] <;> omega
theorem dlt_neg (i j a b : Nat) : dlt j i a b = - dlt i j a b := by
  unfold dlt
  have e1 : (a = j ∧ b = i) ↔ (b = i ∧ a = j) := And.comm
  have e2 : (b = j ∧ a = i) ↔ (a = i ∧ b = j) := And.comm
  simp only [e1, e2]
  omega
theorem sum_append_int : ∀ (l m : List Int), (l ++ m).sum = l.sum + m.sum
  | [], m => by simp
  | a :: l, m => by rw [List.cons_append, List.sum_cons, List.sum_cons, sum_append_int l m]; omega
theorem dsum_append (i j a : Nat) (l m : List Nat) : dsum i j a (l ++ m) = dsum i j a l + dsum i j a m := by
  unfold dsum
  rw [List.map_append, sum_append_int]
theorem dsum_nil (i j a : Nat) : dsum i j a [] = 0 := rfl
theorem dsum_cons (i j a b : Nat) (l : List Nat) : dsum i j a (b :: l) = dlt i j a b + dsum i j a l := by
  unfold dsum
  rw [List.map_cons, List.sum_cons]
theorem dsum_one (i j a b : Nat) : dsum i j a [b] = dlt i j a b := by rw [dsum_cons, dsum_nil]; omega
theorem dsum_take_succ (i j a : Nat) (l : List Nat) (q : Nat) (x : Nat) (h : l[q]? = some x) : dsum i j a (l.take (q + 1)) = dsum i j a (l.take q) + dlt i j a x := by
  rw [List.take_add_one, h, dsum_append]
  show _ + dsum i j a [x] = _
  rw [dsum_one]
/-- the mirror image: those ahead of y -/
def esum (i j y : Nat) (l : List Nat) : Int := (l.map fun b => dlt i j b y).sum
theorem esum_append (i j a : Nat) (l m : List Nat) : esum i j a (l ++ m) = esum i j a l + esum i j a m := by
  unfold esum
  rw [List.map_append, sum_append_int]
theorem esum_cons (i j a b : Nat) (l : List Nat) : esum i j a (b :: l) = dlt i j b a + esum i j a l := by
  unfold esum
  rw [List.map_cons, List.sum_cons]
theorem esum_nil (i j a : Nat) : esum i j a [] = 0 := rfl
theorem esum_take_succ (i j a : Nat) (l : List Nat) (q : Nat) (x : Nat) (h : l[q]? = some x) : esum i j a (l.take (q + 1)) = esum i j a (l.take q) + dlt i j x a := by
  rw [List.take_add_one, h, esum_append]
  show _ + esum i j a [x] = _
  rw [esum_cons, esum_nil]
  omega
theorem esum_dsum (i j y : Nat) : ∀ l : List Nat, esum i j y l = - dsum i j y l
  | [] => rfl
  | a :: l => by rw [esum_cons, dsum_cons, esum_dsum i j y l, dlt_swap]; omega
theorem psum_snoc (i j y : Nat) : ∀ l : List Nat, psum i j (l ++ [y]) = psum i j l + esum i j y l
  | [] => by simp [psum, dsum, esum]
  | a :: l => by
    show dsum i j a (l ++ [y]) + psum i j (l ++ [y]) = dsum i j a l + psum i j l + esum i j y (a :: l)
    rw [psum_snoc i j y l, dsum_append, dsum_one, esum_cons]
    omega
theorem dsum_reverse (i j a : Nat) : ∀ l : List Nat, dsum i j a l.reverse = dsum i j a l
  | [] => rfl
  | b :: l => by rw [List.reverse_cons, dsum_append, dsum_reverse i j a l, dsum_one, dsum_cons]; omega
theorem psum_reverse (i j : Nat) : ∀ l : List Nat, psum i j l.reverse = - psum i j l
  | [] => rfl
  | a :: l => by
    rw [List.reverse_cons, psum_snoc, psum_reverse i j l, esum_dsum, dsum_reverse]
    show - psum i j l + - dsum i j a l = - (dsum i j a l + psum i j l)
    omega
theorem psum_swap (i j : Nat) : ∀ l : List Nat, psum j i l = - psum i j l
  | [] => rfl
  | a :: l => by
    show dsum j i a l + psum j i l = -(dsum i j a l + psum i j l)
    have e : dsum j i a l = - dsum i j a l := by
      induction l with
      | nil => rfl
      | cons b l ih => rw [dsum_cons, dsum_cons, ih, dlt_neg]; omega
    rw [e, psum_swap i j l]
    omega
theorem psA_succ (i j : Nat) : ∀ (p : Nat) (l : List Nat) (a : Nat), l[p]? = some a → psA i j (p + 1) l = psA i j p l + dsum i j a (l.drop (p + 1))
  | 0, [], _, h => by simp at h
  | 0, b :: l, a, h => by
    have e : b = a := by simpa using h
    subst e
    show dsum i j b l + psA i j 0 l = psA i j 0 (b :: l) + dsum i j b l
    show dsum i j b l + 0 = 0 + dsum i j b l
    omega
  | p + 1, [], _, h => by simp at h
  | p + 1, b :: l, a, h => by
    have h' : l[p]? = some a := by simpa using h
    show dsum i j b l + psA i j (p + 1) l = dsum i j b l + psA i j p l + dsum i j a (l.drop (p + 1))
    rw [psA_succ i j p l a h']
    omega
theorem psA_all (i j : Nat) : ∀ (l : List Nat), psA i j l.length l = psum i j l
  | [] => rfl
  | a :: l => by
    show dsum i j a l + psA i j l.length l = dsum i j a l + psum i j l
    rw [psA_all i j l]
/-- the first q places, each with those ahead of it -/
theorem psum_take_succ (i j : Nat) (l : List Nat) (q y : Nat) (h : l[q]? = some y) : psum i j (l.take (q + 1)) = psum i j (l.take q) + esum i j y (l.take q) := by
  rw [List.take_add_one, h]
  exact psum_snoc i j y (l.take q)

/-- a pair put into a table, two cells at once -/
theorem put_two (f : Nat → Nat → Int) (k m : Nat) (z : Int) (i j : Nat) : (if i = m ∧ j = k then (if m = k ∧ k = m then f k m + z else f m k) - z else if i = k ∧ j = m then f k m + z else f i j) = f i j + z * dlt i j k m := by
  unfold dlt
  by_cases h1 : i = m ∧ j = k
  · obtain ⟨rfl, rfl⟩ := h1
    by_cases h2 : i = j
    · subst h2
      simp
    · have h3 : ¬ j = i := fun e => h2 e.symm
      simp [h2, h3]
      omega
  · rw [if_neg h1]
    by_cases h2 : i = k ∧ j = m
    · obtain ⟨rfl, rfl⟩ := h2
      have h3 : ¬ (i = j) := fun e => h1 ⟨e, e.symm⟩
      have h4 : ¬ (j = i) := fun e => h3 e.symm
      simp [h3, h4]
    · have h3 : ¬ (k = i ∧ m = j) := fun e => h2 ⟨e.1.symm, e.2.symm⟩
      have h4 : ¬ (m = i ∧ k = j) := fun e => h1 ⟨e.1.symm, e.2.symm⟩
      rw [if_neg h2, if_neg h3, if_neg h4]
      simp
theorem cnt_nil (i j : Nat) : cnt [] i j = 0 := rfl
theorem cnt_append (bs cs : List (List Nat × Int)) (i j : Nat) : cnt (bs ++ cs) i j = cnt bs i j + cnt cs i j := by
  unfold cnt
  rw [List.map_append, sum_append_int]
theorem cnt_take_succ (bs : List (List Nat × Int)) (k : Nat) (b : List Nat × Int) (h : bs[k]? = some b) (i j : Nat) : cnt (bs.take (k + 1)) i j = cnt (bs.take k) i j + b.2 * psum i j b.1 := by
  rw [List.take_add_one, h, cnt_append]
  show _ + (b.2 * psum i j b.1 + 0) = _
  omega
theorem cnt_reverse (bs : List (List Nat × Int)) (i j : Nat) : cnt (bs.map fun b => (b.1.reverse, b.2)) i j = - cnt bs i j := by
  induction bs with
  | nil => rfl
  | cons b bs ih =>
    have e1 : cnt (b :: bs) i j = b.2 * psum i j b.1 + cnt bs i j := by unfold cnt; rw [List.map_cons, List.sum_cons]
    have e2 : cnt ((b :: bs).map fun b => (b.1.reverse, b.2)) i j = b.2 * psum i j b.1.reverse + cnt (bs.map fun b => (b.1.reverse, b.2)) i j := by unfold cnt; rw [List.map_cons, List.map_cons, List.sum_cons]
    rw [e1, e2, ih, psum_reverse, Int.mul_neg]
    omega
theorem cnt_swap (bs : List (List Nat × Int)) (i j : Nat) : cnt bs j i = - cnt bs i j := by
  induction bs with
  | nil => rfl
  | cons b bs ih =>
    have e1 : ∀ i j, cnt (b :: bs) i j = b.2 * psum i j b.1 + cnt bs i j := fun i j => by unfold cnt; rw [List.map_cons, List.sum_cons]
    rw [e1, e1, ih, psum_swap, Int.mul_neg]
    omega
theorem cnt_parts (bs : List (List Nat × Int)) (k i j : Nat) : cnt (bs.take k) i j + cnt (bs.drop k) i j = cnt bs i j := by
  rw [← cnt_append, List.take_append_drop]
end Hc

namespace Hc
open PySem PySem.Spec PyProof.Rows L2 Evl

theorem bt_int : bootBuiltins "int" = some (.type "int") := PyProof.Rows.boot_int
theorem bt_bool : bootBuiltins "bool" = some (.type "bool") := PyProof.Rows.boot_bool
theorem bt_list : bootBuiltins "list" = some (.type "list") := PyProof.Rows.boot_list
theorem bt_tuple : bootBuiltins "tuple" = some (.type "tuple") := PyProof.Rows.boot_tuple
theorem bt_set : bootBuiltins "set" = some (.type "set") := PyProof.Rows.boot_set
theorem bt_str : bootBuiltins "str" = some (.type "str") := PyProof.Rows.boot_str
/-- products of any two ints that the model multiplies -/
theorem op_mulG {X : Cx} : OpR X (binaryOp .Mult) (rI (fun i j => IntMulOk i j) fun i j => .int (i * j)) := opI fun _ _ _ _ _ _ _ hc q => mul_int q hc

/-! ### lists of ints, rows -/
def iv (ns : List Int) : List V := ns.map V.int
def nv (ks : List Nat) : List V := ks.map fun (k : Nat) => V.int (k : Int)
def rowV (n : Nat) (g : Nat → Int) : List V := (List.range n).map fun j => V.int (g j)
theorem nv_iv (ks : List Nat) : nv ks = iv (ks.map fun (k : Nat) => (k : Int)) := by
  unfold nv iv
  rw [List.map_map]
  rfl
theorem iv_length (ns : List Int) : (iv ns).length = ns.length := by unfold iv; rw [List.length_map]
theorem nv_length (ks : List Nat) : (nv ks).length = ks.length := by unfold nv; rw [List.length_map]
theorem rowV_length (n : Nat) (g : Nat → Int) : (rowV n g).length = n := by
  unfold rowV
  rw [List.length_map, List.length_range]
theorem rowV_get {n j : Nat} {g : Nat → Int} (h : j < n) : (rowV n g)[j]? = some (.int (g j)) := by
  unfold rowV
  rw [List.getElem?_map, List.getElem?_range h]
  rfl
theorem rowV_iv (n : Nat) (g : Nat → Int) : rowV n g = iv ((List.range n).map g) := by
  unfold rowV iv
  rw [List.map_map]
  rfl
theorem rowV_congr {n : Nat} {g g' : Nat → Int} (h : ∀ j, j < n → g j = g' j) : rowV n g = rowV n g' := by
  unfold rowV
  refine List.map_congr_left fun j hj => ?_
  rw [h j (List.mem_range.mp hj)]
theorem rowV_set {n b : Nat} {g : Nat → Int} {v : Int} : (rowV n g).set b (.int v) = rowV n (fun j => if j = b then v else g j) := by
  apply List.ext_getElem?
  intro j
  rw [List.getElem?_set]
  by_cases hj : j < n
  · rw [rowV_length, rowV_get (g := fun j => if j = b then v else g j) hj]
    by_cases e : b = j
    · subst e
      rw [if_pos rfl, if_pos hj, if_pos rfl]
    · rw [if_neg e, rowV_get hj, if_neg (fun q => e q.symm)]
  · have e1 : (rowV n g)[j]? = none := List.getElem?_eq_none (by rw [rowV_length]; omega)
    have e2 : (rowV n (fun j => if j = b then v else g j))[j]? = none := List.getElem?_eq_none (by rw [rowV_length]; omega)
    rw [e1, e2, rowV_length]
    split
    · split
      · omega
      · rfl
    · rfl
theorem nv_get {ks : List Nat} {i : Nat} {x : V} (h : (nv ks)[i]? = some x) : ∃ k, ks[i]? = some k ∧ x = .int (k : Int) := by
  unfold nv at h
  rw [List.getElem?_map] at h
  cases e : ks[i]? with
  | none => rw [e] at h; cases h
  | some k => rw [e] at h; exact ⟨k, rfl, (Option.some.inj h).symm⟩
theorem iv_get {ks : List Int} {i : Nat} {x : V} (h : (iv ks)[i]? = some x) : ∃ k, ks[i]? = some k ∧ x = .int k := by
  unfold iv at h
  rw [List.getElem?_map] at h
  cases e : ks[i]? with
  | none => rw [e] at h; cases h
  | some k => rw [e] at h; exact ⟨k, rfl, (Option.some.inj h).symm⟩
theorem sq_mono {K : PySem.W.Frag} {H H' : Hp} {a : Addr} {xs : List V} (e : Ex H H') (h : SqL K H a xs) : SqL K H' a xs := ex_l e h
theorem iv_flat (ns : List Int) : (iv ns).all flatV = true := by
  unfold iv
  rw [List.all_map]
  exact List.all_eq_true.mpr fun _ _ => rfl

/-! ### cuts -/
theorem cut_from (xs : List V) (k : Nat) : cutV xs (some (k : Int)) none = xs.drop k := by
  unfold cutV
  rw [HT.sIx_nat, HT.sIx_none]
  by_cases h : k ≤ xs.length
  · rw [Nat.min_eq_left h]
    exact List.take_of_length_le (by rw [List.length_drop]; omega)
  · rw [Nat.min_eq_right (by omega), List.drop_length, List.drop_of_length_le (by omega)]
    simp
theorem cut_to (xs : List V) (k : Nat) : cutV xs none (some (k : Int)) = xs.take k := by
  unfold cutV
  rw [HT.sIx_nat, HT.sIx_none]
  show (xs.drop 0).take (min k xs.length - 0) = xs.take k
  rw [List.drop_zero, Nat.sub_zero]
  by_cases h : k ≤ xs.length
  · rw [Nat.min_eq_left h]
  · rw [Nat.min_eq_right (by omega), List.take_length, List.take_of_length_le (by omega)]
theorem cut_m1 (xs : List V) : cutV xs none (some (-1)) = xs.dropLast := by
  unfold cutV
  rw [HT.sIx_none]
  show (xs.drop 0).take ((if (-1 : Int) < 0 then ((-1 : Int) + (xs.length : Int)).toNat else min (-1 : Int).toNat xs.length) - 0) = xs.dropLast
  rw [if_pos (by omega), List.drop_zero, Nat.sub_zero, List.dropLast_eq_take]
  congr 1
  omega

/-! ### tables -/
structure Tab (H0 H : Hp) (t : Addr) (rs : List Addr) (n : Nat) (f : Nat → Nat → Int) : Prop where
  len : rs.length = n
  top : H t = some (.lst (rs.map V.ref))
  row : ∀ i r, rs[i]? = some r → H r = some (.lst (rowV n (f i)))
  nd : rs.Nodup
  ft : H0 t = none
  fr : ∀ r, r ∈ rs → H0 r = none
def TabR (K : PySem.W.Frag) (H : Hp) (v : V) (n : Nat) (f : Nat → Nat → Int) : Prop :=
  ∃ (t : Addr) (rs : List Addr), v = V.ref t ∧ rs.length = n ∧ SqL K H t (rs.map V.ref) ∧ ∀ i r, rs[i]? = some r → SqL K H r (rowV n (f i))
section
variable {K : PySem.W.Frag} {H0 H H' : Hp} {t : Addr} {rs : List Addr} {n : Nat} {f f' : Nat → Nat → Int} {v : V}
theorem Tab.notop (T : Tab H0 H t rs n f) : t ∉ rs := fun h => by
  obtain ⟨i, hi, e⟩ := List.mem_iff_getElem.mp h
  have e1 : rs[i]? = some t := by rw [List.getElem?_eq_getElem hi, e]
  have h1 := T.row i t e1
  rw [T.top] at h1
  have h2 : rs.map V.ref = rowV n (f i) := by injection Option.some.inj h1
  have h3 : (rs.map V.ref)[i]? = (rowV n (f i))[i]? := by rw [h2]
  rw [List.getElem?_map, e1, rowV_get (by rw [← T.len]; exact hi)] at h3
  injection h3 with h4
  cases h4
theorem Tab.mono (T : Tab H0 H t rs n f) (e : Ex H H') : Tab H0 H' t rs n f :=
  ⟨T.len, e _ _ T.top, fun i r h => e _ _ (T.row i r h), T.nd, T.ft, T.fr⟩
theorem Tab.congr (T : Tab H0 H t rs n f) (h : ∀ i j, i < n → j < n → f i j = f' i j) : Tab H0 H t rs n f' :=
  ⟨T.len, T.top, fun i r e => by
    have hi : i < n := by rw [← T.len]; exact (List.getElem?_eq_some_iff.mp e).1
    rw [← rowV_congr (fun j hj => h i j hi hj)]
    exact T.row i r e, T.nd, T.ft, T.fr⟩
theorem Tab.base {Hb : Hp} (T : Tab H0 H t rs n f) (e : Ex Hb H0) : Tab Hb H t rs n f :=
  ⟨T.len, T.top, T.row, T.nd, fresh_back e T.ft, fun r h => fresh_back e (T.fr r h)⟩
theorem Tab.at_ {i : Nat} (T : Tab H0 H t rs n f) (h : i < n) : ∃ r, rs[i]? = some r ∧ r ∈ rs ∧ (rs.map V.ref)[i]? = some (V.ref r) ∧ H r = some (.lst (rowV n (f i))) := by
  have hi : i < rs.length := by rw [T.len]; exact h
  refine ⟨rs[i], List.getElem?_eq_getElem hi, List.getElem_mem hi, ?_, T.row i _ (List.getElem?_eq_getElem hi)⟩
  rw [List.getElem?_map, List.getElem?_eq_getElem hi]
  rfl
theorem nodup_at {α : Type} {l : List α} (h : l.Nodup) {i j : Nat} {x : α} (a : l[i]? = some x) (b : l[j]? = some x) : i = j := nd_ix h a b
/-- one cell is set -/
theorem Tab.put {a b : Nat} {r : Addr} {z : Int} (T : Tab H0 H t rs n f) (hr : rs[a]? = some r) : Tab H0 (upd H r (.lst ((rowV n (f a)).set b (.int z)))) t rs n (fun i j => if i = a ∧ j = b then z else f i j) := by
  have hm : r ∈ rs := List.mem_of_getElem? hr
  have nt : t ≠ r := fun e => T.notop (e ▸ hm)
  refine ⟨T.len, by rw [upd_ne nt]; exact T.top, fun i r' h => ?_, T.nd, T.ft, T.fr⟩
  by_cases e : r' = r
  · subst e
    have ei : i = a := nd_ix T.nd h hr
    subst ei
    rw [upd_same, rowV_set]
    congr 2
    refine rowV_congr fun j _ => ?_
    by_cases ej : j = b
    · rw [if_pos ej, if_pos ⟨rfl, ej⟩]
    · rw [if_neg ej, if_neg (fun q => ej q.2)]
  · rw [upd_ne e, T.row i r' h]
    congr 2
    refine rowV_congr fun j _ => ?_
    have ei : i ≠ a := fun q => e (by subst q; rw [h] at hr; exact Option.some.inj hr)
    rw [if_neg (fun q => ei q.1)]
/-- what is older stands when a row is written -/
theorem Tab.exMut {r : Addr} {o : HO} (T : Tab H0 H t rs n f) (e : Ex H0 H) (hr : r ∈ rs) : Ex H0 (upd H r o) := e.mut (T.fr r hr)
theorem Tab.rd (T : Tab H0 H t rs n f) : TabR K H (.ref t) n f := ⟨t, rs, rfl, T.len, sq_of T.top, fun i r h => sq_of (T.row i r h)⟩
theorem TabR.mono (T : TabR K H v n f) (e : Ex H H') : TabR K H' v n f := by
  obtain ⟨t, rs, h1, h2, h3, h4⟩ := T
  exact ⟨t, rs, h1, h2, ex_l e h3, fun i r h => ex_l e (h4 i r h)⟩
theorem TabR.congr (T : TabR K H v n f) (h : ∀ i j, i < n → j < n → f i j = f' i j) : TabR K H v n f' := by
  obtain ⟨t, rs, h1, h2, h3, h4⟩ := T
  refine ⟨t, rs, h1, h2, h3, fun i r e => ?_⟩
  have hi : i < n := by rw [← h2]; exact (List.getElem?_eq_some_iff.mp e).1
  rw [← rowV_congr (fun j hj => h i j hi hj)]
  exact h4 i r e
theorem TabR.at_ (T : TabR K H v n f) : ∃ (t : Addr) (xs : List V), v = .ref t ∧ SqL K H t xs ∧ xs.length = n ∧ ∀ i, i < n → ∃ r, xs[i]? = some (.ref r) ∧ SqL K H r (rowV n (f i)) := by
  obtain ⟨t, rs, h1, h2, h3, h4⟩ := T
  refine ⟨t, _, h1, h3, by rw [List.length_map]; exact h2, fun i hi => ?_⟩
  have hi' : i < rs.length := by omega
  refine ⟨rs[i], ?_, h4 i _ (List.getElem?_eq_getElem hi')⟩
  rw [List.getElem?_map, List.getElem?_eq_getElem hi']
  rfl
end

/-! ### deep data -/
def dRow (n : Nat) (g : Nat → Int) : PyData := .list ((List.range n).map fun j => .int (g j))
def dTab (n : Nat) (f : Nat → Nat → Int) : PyData := .list ((List.range n).map fun i => dRow n (f i))
def dBal (b : List Nat × Int) : PyData := .tuple [.list (b.1.map fun (k : Nat) => .int (k : Int)), .int b.2]
def dBals (bs : List (List Nat × Int)) : PyData := .list (bs.map dBal)
theorem dpAll_of {K : PySem.W.Frag} {H : Hp} : ∀ {xs : List V} {ds : List PyData}, xs.length = ds.length → (∀ (i : Nat) (x : V) (d : PyData), xs[i]? = some x → ds[i]? = some d → Dp K H x d) → DpAll K H xs ds
  | [], [], _, _ => .nil
  | x :: xs, d :: ds, hl, h => .cons (h 0 x d rfl rfl) (dpAll_of (by simpa using hl) fun i y e hy he => h (i + 1) y e (by simpa using hy) (by simpa using he))
  | [], _ :: _, hl, _ => by simp at hl
  | _ :: _, [], hl, _ => by simp at hl
theorem dpAll_ints {K : PySem.W.Frag} {H : Hp} : ∀ (ns : List Int), DpAll K H (iv ns) (ns.map PyData.int)
  | [] => .nil
  | n :: ns => .cons (.int n) (dpAll_ints ns)
theorem dp_ints {K : PySem.W.Frag} {H : Hp} {a : Addr} {ns : List Int} (h : SqL K H a (iv ns)) : Dp K H (.ref a) (.list (ns.map PyData.int)) := .lst h (dpAll_ints ns)
theorem dp_row {K : PySem.W.Frag} {H : Hp} {a : Addr} {n : Nat} {g : Nat → Int} (h : SqL K H a (rowV n g)) : Dp K H (.ref a) (dRow n g) := by
  rw [rowV_iv] at h
  have e := dp_ints h
  rw [List.map_map] at e
  exact e
theorem TabR.dp {K : PySem.W.Frag} {H : Hp} {v : V} {n : Nat} {f : Nat → Nat → Int} (T : TabR K H v n f) : Dp K H v (dTab n f) := by
  obtain ⟨t, rs, rfl, h2, h3, h4⟩ := T
  refine .lst h3 (dpAll_of (by rw [List.length_map, List.length_map, List.length_range, h2]) fun i x d hx hd => ?_)
  rw [List.getElem?_map] at hx hd
  cases e : rs[i]? with
  | none => rw [e] at hx; cases hx
  | some r =>
    rw [e] at hx
    have hi : i < n := by rw [← h2]; exact (List.getElem?_eq_some_iff.mp e).1
    rw [List.getElem?_range hi] at hd
    cases hx
    cases hd
    exact dp_row (h4 i r e)
theorem lay_all : ∀ (ds : List PyData), (∀ d ∈ ds, d.canLay0 = true) → PyData.canLayAll0 ds = true
  | [], _ => by simp [PyData.canLayAll0]
  | d :: ds, h => by
    rw [PyData.canLayAll0, h d (List.mem_cons_self ..), lay_all ds fun e he => h e (List.mem_cons_of_mem _ he)]
    rfl
theorem lay_list (ds : List PyData) (h : ∀ d ∈ ds, d.canLay0 = true) : (PyData.list ds).canLay0 = true := by
  rw [PyData.canLay0]
  exact lay_all ds h
theorem lay_tup (ds : List PyData) (h : ∀ d ∈ ds, d.canLay0 = true) : (PyData.tuple ds).canLay0 = true := by
  rw [PyData.canLay0]
  exact lay_all ds h
theorem lay_int (i : Int) : (PyData.int i).canLay0 = true := by simp [PyData.canLay0]
theorem lay_row (n : Nat) (g : Nat → Int) : (dRow n g).canLay0 = true := lay_list _ fun d hd => by
  obtain ⟨j, _, rfl⟩ := List.mem_map.mp hd
  exact lay_int _
theorem lay_tab (n : Nat) (f : Nat → Nat → Int) : (dTab n f).canLay0 = true := lay_list _ fun d hd => by
  obtain ⟨j, _, rfl⟩ := List.mem_map.mp hd
  exact lay_row _ _
theorem lay_bal (b : List Nat × Int) : (dBal b).canLay0 = true := lay_tup _ fun d hd => by
  rcases List.mem_cons.mp hd with rfl | hd
  · refine lay_list _ fun e he => ?_
    obtain ⟨j, _, rfl⟩ := List.mem_map.mp he
    exact lay_int _
  · rcases List.mem_cons.mp hd with rfl | hd
    · exact lay_int _
    · cases hd
theorem lay_bals (bs : List (List Nat × Int)) : (dBals bs).canLay0 = true := lay_list _ fun d hd => by
  obtain ⟨b, _, rfl⟩ := List.mem_map.mp hd
  exact lay_bal _
end Hc

namespace Hc
open PySem PySem.Spec PyProof.Rows L2 Evl

theorem depth_all : ∀ (ds : List PyData) (k : Nat), (∀ d ∈ ds, d.depth ≤ k) → PyData.depthAll ds ≤ k
  | [], k, _ => by rw [PyData.depthAll]; exact Nat.zero_le _
  | d :: ds, k, h => by
    rw [PyData.depthAll]
    exact Nat.max_le.mpr ⟨h d (List.mem_cons_self ..), depth_all ds k fun e he => h e (List.mem_cons_of_mem _ he)⟩
theorem depth_list {ds : List PyData} {k : Nat} (h : ∀ d ∈ ds, d.depth ≤ k) : (PyData.list ds).depth ≤ k + 1 := by
  rw [PyData.depth]
  exact Nat.succ_le_succ (depth_all ds k h)
theorem depth_tup {ds : List PyData} {k : Nat} (h : ∀ d ∈ ds, d.depth ≤ k) : (PyData.tuple ds).depth ≤ k + 1 := by
  rw [PyData.depth]
  exact Nat.succ_le_succ (depth_all ds k h)
theorem depth_int (i : Int) : (PyData.int i).depth ≤ 0 := by rw [PyData.depth]; exact Nat.le_refl _
theorem shaped_of {d : PyData} {k : Nat} (h : d.canLay0 = true) (hk : d.depth ≤ k) (h6 : k ≤ 64) : SeqAt.shaped d = true := by
  unfold SeqAt.shaped
  rw [h, decide_eq_true (Nat.le_trans hk h6)]
  rfl
theorem depth_ints (ns : List Int) : (PyData.list (ns.map PyData.int)).depth ≤ 1 := depth_list fun d hd => by
  obtain ⟨j, _, rfl⟩ := List.mem_map.mp hd
  exact depth_int _
theorem shaped_ints (ns : List Int) : SeqAt.shaped (.list (ns.map PyData.int)) = true := shaped_of (lay_list _ fun d hd => by
  obtain ⟨j, _, rfl⟩ := List.mem_map.mp hd
  exact lay_int _) (depth_ints ns) (by decide)
theorem depth_row (n : Nat) (g : Nat → Int) : (dRow n g).depth ≤ 1 := depth_list fun d hd => by
  obtain ⟨j, _, rfl⟩ := List.mem_map.mp hd
  exact depth_int _
theorem shaped_row (n : Nat) (g : Nat → Int) : SeqAt.shaped (dRow n g) = true := shaped_of (lay_row n g) (depth_row n g) (by decide)
theorem depth_tab (n : Nat) (f : Nat → Nat → Int) : (dTab n f).depth ≤ 2 := depth_list fun d hd => by
  obtain ⟨j, _, rfl⟩ := List.mem_map.mp hd
  exact depth_row _ _
theorem shaped_tab (n : Nat) (f : Nat → Nat → Int) : SeqAt.shaped (dTab n f) = true := shaped_of (lay_tab n f) (depth_tab n f) (by decide)
theorem depth_bal (b : List Nat × Int) : (dBal b).depth ≤ 2 := depth_tup fun d hd => by
  rcases List.mem_cons.mp hd with rfl | hd
  · refine depth_list fun e he => ?_
    obtain ⟨j, _, rfl⟩ := List.mem_map.mp he
    exact depth_int _
  · rcases List.mem_cons.mp hd with rfl | hd
    · exact Nat.le_trans (depth_int _) (Nat.zero_le _)
    · cases hd
theorem shaped_bals (bs : List (List Nat × Int)) : SeqAt.shaped (dBals bs) = true := shaped_of (lay_bals bs) (depth_list fun d hd => by
  obtain ⟨b, _, rfl⟩ := List.mem_map.mp hd
  exact depth_bal b) (by decide)
theorem dTab_congr {n : Nat} {f g : Nat → Nat → Int} (h : ∀ i j, i < n → j < n → f i j = g i j) : dTab n f = dTab n g := by
  unfold dTab dRow
  congr 1
  refine List.map_congr_left fun i hi => ?_
  congr 1
  refine List.map_congr_left fun j hj => ?_
  rw [h i j (List.mem_range.mp hi) (List.mem_range.mp hj)]
theorem eqv_tab {n : Nat} {f g : Nat → Nat → Int} (h : ∀ i j, i < n → j < n → f i j = g i j) : PyData.eqv (dTab n f) (dTab n g) = true := by
  rw [dTab_congr h]
  exact SeqAt.eqv_refl _ (lay_tab n g)

/-! ### ballots -/
theorem Paired.get {α β : Type} {F : α → β → Prop} : ∀ {l : List α} {m : List β} {i : Nat} {x : α}, Paired F l m → l[i]? = some x → ∃ y, m[i]? = some y ∧ F x y
  | _, _, _, _, .nil, h => by simp at h
  | _, _, 0, _, .cons r _, h => by
    cases (show some _ = some _ from h)
    exact ⟨_, rfl, r⟩
  | _, _, i + 1, x, .cons _ t, h => by
    obtain ⟨y, h1, h2⟩ := Paired.get (i := i) (x := x) t (by simpa using h)
    exact ⟨y, by simpa using h1, h2⟩
theorem Paired.take {α β : Type} {F : α → β → Prop} : ∀ {l : List α} {m : List β} (k : Nat), Paired F l m → Paired F (l.take k) (m.take k)
  | _, _, 0, _ => .nil
  | _, _, _ + 1, .nil => .nil
  | _, _, k + 1, .cons r t => .cons r (Paired.take k t)
theorem Paired.drop {α β : Type} {F : α → β → Prop} : ∀ {l : List α} {m : List β} (k : Nat), Paired F l m → Paired F (l.drop k) (m.drop k)
  | _, _, 0, r => r
  | _, _, _ + 1, .nil => .nil
  | _, _, k + 1, .cons _ t => Paired.drop k t
theorem Paired.append {α β : Type} {F : α → β → Prop} : ∀ {l l' : List α} {m m' : List β}, Paired F l m → Paired F l' m' → Paired F (l ++ l') (m ++ m')
  | _, _, _, _, .nil, s => s
  | _, _, _, _, .cons r t, s => .cons r (Paired.append t s)
theorem Paired.len {α β : Type} {F : α → β → Prop} : ∀ {l : List α} {m : List β}, Paired F l m → l.length = m.length
  | _, _, .nil => rfl
  | _, _, .cons _ t => by rw [List.length_cons, List.length_cons, Paired.len t]
def BalR (K : PySem.W.Frag) (H : Hp) (x : V) (b : List Nat × Int) : Prop := ∃ (t l : Addr), x = .ref t ∧ SqT K H t [.ref l, .int b.2] ∧ SqL K H l (nv b.1)
def BalsR (K : PySem.W.Frag) (H : Hp) (v : V) (bs : List (List Nat × Int)) : Prop := ∃ (a : Addr) (xs : List V), v = .ref a ∧ SqL K H a xs ∧ Paired (BalR K H) xs bs
section
variable {K : PySem.W.Frag} {H H' : Hp} {v x : V} {bs : List (List Nat × Int)} {b : List Nat × Int}
theorem BalR.mono (h : BalR K H x b) (e : Ex H H') : BalR K H' x b := by
  obtain ⟨t, l, h1, h2, h3⟩ := h
  exact ⟨t, l, h1, ex_t e h2, ex_l e h3⟩
theorem BalsR.mono (h : BalsR K H v bs) (e : Ex H H') : BalsR K H' v bs := by
  obtain ⟨a, xs, h1, h2, h3⟩ := h
  exact ⟨a, xs, h1, ex_l e h2, Paired.mapP h3 fun _ _ q => q.mono e⟩
theorem BalR.dp (h : BalR K H x b) : Dp K H x (dBal b) := by
  obtain ⟨t, l, rfl, h2, h3⟩ := h
  refine .tup h2 (.cons ?_ (.cons (.int _) .nil))
  rw [nv_iv] at h3
  have e := dp_ints h3
  rw [List.map_map] at e
  exact e
theorem BalsR.dp (h : BalsR K H v bs) : Dp K H v (dBals bs) := by
  obtain ⟨a, xs, rfl, h2, h3⟩ := h
  refine .lst h2 (dpAll_of (by rw [List.length_map]; exact Paired.len h3) fun i x d hx hd => ?_)
  obtain ⟨b, hb, r⟩ := Paired.get h3 hx
  rw [List.getElem?_map, hb] at hd
  cases hd
  exact r.dp
end

/-! ### comprehensions -/
/-- all but D stands -/
def ExB (D : Addr) (H H' : Hp) : Prop := ∀ a o, a ≠ D → H a = some o → H' a = some o
theorem Ex.exB {D : Addr} {H H' : Hp} (e : Ex H H') : ExB D H H' := fun a o _ h => e a o h
theorem exB_upd {D : Addr} {H : Hp} {o : HO} : ExB D H (upd H D o) := fun a u n h => by rw [upd_ne n]; exact h
section
variable {J : It} {n : Nat} {G : Hp → Prop} {Y : Nat → Hp → V → Hp → Prop} {g : TG} {tt : TT} {te : TE} {vs : List Nat} {σ : L2.St} {H1 : Hp} {D : Addr} {Qd : Hp → Prop}
/-- every turn gives one item; what is known of the items so far -/
theorem lc_acc (w : Walk J n G Y) (hD : H1 D = none) (hn : n ≤ 100000) (hG : ∀ H, Ex H1 H → G H) (I : List V → Hp → Prop) (hI : ∀ ys Ha Hb, I ys Ha → ExB D Ha Hb → I ys Hb) (h0 : I [] (upd H1 D (.lst [])))
    (hs : ∀ (i : Nat) (x : V) (H H' : Hp) (ys : List V), i < n → Ex H1 H → H D = some (.lst ys) → ys.length = i → I ys H → Y i H x H' → ∀ Qc : VK, (∀ y H4, Ex H H4 → I (ys ++ [y]) H4 → Qc y H4) → g x (wipe σ vs) H' fun σ2 H2 => wipe σ2 vs = wipe σ vs ∧ te σ2 H2 Qc)
    (hd : ∀ H ys, Ex H1 H → H D = some (.lst ys) → ys.length = n → I ys H → Qd H) :
    ∃ W : Nat → Nat → Hp → Prop, (∃ m, W 0 m (upd H1 D (.lst []))) ∧ ∀ i m H, W i m H → (J.stop i H ∧ Qd H) ∨ (J.go i H ∧ ∃ Nx : Hp → Prop, (∀ H', Nx H' → ∃ m', m' < m ∧ W (i + 1) m' H') ∧ ∀ x H', J.yld i H x H' → g x (wipe σ vs) H' fun σ2 H2 => wipe σ2 vs = wipe σ vs ∧ tYes σ2 H2 fun b H3 => if b = true then te σ2 H3 fun y H4 => ∃ acc, H4 D = some (.lst acc) ∧ acc.length < sizeLine ∧ Nx (upd H4 D (.lst (acc ++ [y]))) else Nx H3) := by
  refine lc_it w (fun i H => ∃ ys, Ex H1 H ∧ H D = some (.lst ys) ∧ ys.length = i ∧ I ys H) ⟨[], Ex.new hD, upd_same, rfl, h0⟩ (fun i H _ ⟨_, e, _⟩ => hG H e) ?_ (fun H ⟨ys, e, h1, h2, h3⟩ => hd H ys e h1 h2 h3)
  rintro i x H H' hi ⟨ys, e, h1, h2, h3⟩ hy
  exact hs i x H H' ys hi e h1 h2 h3 hy _ fun y H4 e4 h5 => ⟨ys, e4 _ _ h1, sz_lt (by omega), ys ++ [y], (e.trans e4).mut hD, upd_same, by rw [List.length_append, h2]; rfl, hI _ _ _ h5 exB_upd⟩
/-- items by value -/
theorem lc_vals (w : Walk J n G Y) (hD : H1 D = none) (hn : n ≤ 100000) (hG : ∀ H, Ex H1 H → G H) (v : Nat → V)
    (hs : ∀ (i : Nat) (x : V) (H H' : Hp), i < n → Ex H1 H → Y i H x H' → ∀ Qc : VK, (∀ H4, Ex H H4 → Qc (v i) H4) → g x (wipe σ vs) H' fun σ2 H2 => wipe σ2 vs = wipe σ vs ∧ te σ2 H2 Qc)
    (hd : ∀ H, Ex H1 H → H D = some (.lst ((List.range n).map v)) → Qd H) :
    ∃ W : Nat → Nat → Hp → Prop, (∃ m, W 0 m (upd H1 D (.lst []))) ∧ ∀ i m H, W i m H → (J.stop i H ∧ Qd H) ∨ (J.go i H ∧ ∃ Nx : Hp → Prop, (∀ H', Nx H' → ∃ m', m' < m ∧ W (i + 1) m' H') ∧ ∀ x H', J.yld i H x H' → g x (wipe σ vs) H' fun σ2 H2 => wipe σ2 vs = wipe σ vs ∧ tYes σ2 H2 fun b H3 => if b = true then te σ2 H3 fun y H4 => ∃ acc, H4 D = some (.lst acc) ∧ acc.length < sizeLine ∧ Nx (upd H4 D (.lst (acc ++ [y]))) else Nx H3) := by
  refine lc_acc w hD hn hG (fun ys _ => ys = (List.range ys.length).map v) (fun _ _ _ h _ => h) rfl ?_ (fun H ys e h1 h2 h3 => hd H e (by rw [h1, h3, h2]))
  intro i x H H' ys hi e h1 h2 h3 hy Qc hq
  refine hs i x H H' hi e hy Qc fun H4 e4 => hq _ H4 e4 ?_
  rw [List.length_append, List.length_singleton, List.range_succ, List.map_append, ← h3, h2]
  rfl
/-- new lists -/
structure Rows (H0 H : Hp) (ps : List Addr) (L : Nat → List V) : Prop where
  at_ : ∀ i p, ps[i]? = some p → H p = some (.lst (L i))
  nd : ps.Nodup
  fr : ∀ p, p ∈ ps → H0 p = none
theorem lc_rows (w : Walk J n G Y) (hD : H1 D = none) (hn : n ≤ 100000) (hG : ∀ H, Ex H1 H → G H) (L : Nat → List V)
    (hs : ∀ (i : Nat) (x : V) (H H' : Hp), i < n → Ex H1 H → Y i H x H' → ∀ Qc : VK, (∀ p H4, H p = none → Ex H H4 → H4 p = some (.lst (L i)) → Qc (.ref p) H4) → g x (wipe σ vs) H' fun σ2 H2 => wipe σ2 vs = wipe σ vs ∧ te σ2 H2 Qc)
    (hd : ∀ H ps, Ex H1 H → H D = some (.lst (ps.map V.ref)) → ps.length = n → Rows H1 H ps L → Qd H) :
    ∃ W : Nat → Nat → Hp → Prop, (∃ m, W 0 m (upd H1 D (.lst []))) ∧ ∀ i m H, W i m H → (J.stop i H ∧ Qd H) ∨ (J.go i H ∧ ∃ Nx : Hp → Prop, (∀ H', Nx H' → ∃ m', m' < m ∧ W (i + 1) m' H') ∧ ∀ x H', J.yld i H x H' → g x (wipe σ vs) H' fun σ2 H2 => wipe σ2 vs = wipe σ vs ∧ tYes σ2 H2 fun b H3 => if b = true then te σ2 H3 fun y H4 => ∃ acc, H4 D = some (.lst acc) ∧ acc.length < sizeLine ∧ Nx (upd H4 D (.lst (acc ++ [y]))) else Nx H3) := by
  refine lc_acc w hD hn hG (fun ys H => ∃ ps, ys = ps.map V.ref ∧ D ∉ ps ∧ Rows H1 H ps L) ?_ ⟨[], rfl, by simp, fun _ _ h => by simp at h, List.nodup_nil, fun _ h => by simp at h⟩ ?_ ?_
  · rintro ys Ha Hb ⟨ps, h1, h2, h3⟩ e
    exact ⟨ps, h1, h2, fun i p h => e _ _ (fun q => h2 (q ▸ List.mem_of_getElem? h)) (h3.at_ i p h), h3.nd, h3.fr⟩
  · rintro i x H H' ys hi e h1 h2 ⟨ps, h3, h4, h5⟩ hy Qc hq
    refine hs i x H H' hi e hy Qc fun p H4 np e4 hp => hq _ H4 e4 ⟨ps ++ [p], ?_, ?_, ?_, ?_, ?_⟩
    · rw [h3, List.map_append]
      rfl
    · intro hm
      rcases List.mem_append.mp hm with q | q
      · exact h4 q
      · have e5 : D = p := by simpa using q
        rw [e5, np] at h1
        cases h1
    · intro k q hk
      have hl : ps.length = i := by rw [← h2, h3, List.length_map]
      rw [List.getElem?_append] at hk
      split at hk
      · exact e4 _ _ (h5.at_ k q hk)
      · rename_i hge
        have ek : k - ps.length = 0 := by
          have := (List.getElem?_eq_some_iff.mp hk).1
          simp at this
          omega
        rw [ek] at hk
        have e6 : q = p := by simpa using hk.symm
        rw [e6, hp, show k = i by omega]
    · rw [List.nodup_append]
      refine ⟨h5.nd, by simp, ?_⟩
      intro a ha b hb e7
      have e8 : b = p := by simpa using hb
      obtain ⟨k, hk, ek⟩ := List.mem_iff_getElem.mp ha
      have := h5.at_ k a (by rw [List.getElem?_eq_getElem hk, ek])
      rw [e7, e8, np] at this
      cases this
    · intro q hq'
      rcases List.mem_append.mp hq' with z | z
      · exact h5.fr q z
      · have e8 : q = p := by simpa using z
        rw [e8]
        exact fresh_back e np
  · rintro H ys e h1 h2 ⟨ps, h3, h4, h5⟩
    exact hd H ps e (by rw [h1, h3]) (by rw [← h2, h3, List.length_map]) h5
/-- new pairs of a new list of candidates and a number -/
structure BalsN (H0 H : Hp) (D : Addr) (ts ls : List Addr) (bs : List (List Nat × Int)) : Prop where
  top : H D = some (.lst (ts.map V.ref))
  lt : ts.length = bs.length
  ll : ls.length = bs.length
  at_ : ∀ (i : Nat) (t l : Addr) (b : List Nat × Int), ts[i]? = some t → ls[i]? = some l → bs[i]? = some b → H t = some (.tup [.ref l, .int b.2]) ∧ H l = some (.lst (nv b.1))
  nd : ls.Nodup
  fl : ∀ l, l ∈ ls → H0 l = none
  ft : ∀ t, t ∈ ts → H0 t = none
  fD : H0 D = none
theorem BalsN.rd {K : PySem.W.Frag} {H0 H : Hp} {D : Addr} {ts ls : List Addr} {bs : List (List Nat × Int)} (B : BalsN H0 H D ts ls bs) : BalsR K H (.ref D) bs := by
  refine ⟨D, _, rfl, sq_of B.top, ?_⟩
  have gen : ∀ (ts ls : List Addr) (bs : List (List Nat × Int)), ts.length = bs.length → ls.length = bs.length → (∀ (i : Nat) (t l : Addr) (b : List Nat × Int), ts[i]? = some t → ls[i]? = some l → bs[i]? = some b → H t = some (.tup [.ref l, .int b.2]) ∧ H l = some (.lst (nv b.1))) → Paired (BalR K H) (ts.map V.ref) bs := by
    intro ts
    induction ts with
    | nil =>
      intro ls bs hl _ _
      cases bs with
      | nil => exact .nil
      | cons _ _ => simp at hl
    | cons t ts ih =>
      intro ls bs hl hl2 h
      cases bs with
      | nil => simp at hl
      | cons b bs =>
        cases ls with
        | nil => simp at hl2
        | cons l ls =>
          obtain ⟨q1, q2⟩ := h 0 t l b rfl rfl rfl
          refine .cons ⟨t, l, rfl, st_of q1, sq_of q2⟩ (ih ls bs (by simpa using hl) (by simpa using hl2) fun i t' l' b' a1 a2 a3 => h (i + 1) t' l' b' (by simpa using a1) (by simpa using a2) (by simpa using a3))
  exact gen ts ls bs B.lt B.ll B.at_
theorem lc_bals (w : Walk J n G Y) (hD : H1 D = none) (hn : n ≤ 100000) (hG : ∀ H, Ex H1 H → G H) (bs : List (List Nat × Int)) (hbs : bs.length = n)
    (hs : ∀ (i : Nat) (x : V) (H H' : Hp) (b : List Nat × Int), i < n → bs[i]? = some b → Ex H1 H → Y i H x H' → ∀ Qc : VK, (∀ p l H4, H p = none → H l = none → Ex H H4 → H4 p = some (.tup [.ref l, .int b.2]) → H4 l = some (.lst (nv b.1)) → Qc (.ref p) H4) → g x (wipe σ vs) H' fun σ2 H2 => wipe σ2 vs = wipe σ vs ∧ te σ2 H2 Qc)
    (hd : ∀ H ts ls, Ex H1 H → BalsN H1 H D ts ls bs → Qd H) :
    ∃ W : Nat → Nat → Hp → Prop, (∃ m, W 0 m (upd H1 D (.lst []))) ∧ ∀ i m H, W i m H → (J.stop i H ∧ Qd H) ∨ (J.go i H ∧ ∃ Nx : Hp → Prop, (∀ H', Nx H' → ∃ m', m' < m ∧ W (i + 1) m' H') ∧ ∀ x H', J.yld i H x H' → g x (wipe σ vs) H' fun σ2 H2 => wipe σ2 vs = wipe σ vs ∧ tYes σ2 H2 fun b H3 => if b = true then te σ2 H3 fun y H4 => ∃ acc, H4 D = some (.lst acc) ∧ acc.length < sizeLine ∧ Nx (upd H4 D (.lst (acc ++ [y]))) else Nx H3) := by
  refine lc_acc w hD hn hG (fun ys H => ∃ ts ls : List Addr, ys = ts.map V.ref ∧ ls.length = ts.length ∧ D ∉ ts ∧ D ∉ ls ∧ (∀ (i : Nat) (t l : Addr) (b : List Nat × Int), ts[i]? = some t → ls[i]? = some l → bs[i]? = some b → H t = some (.tup [.ref l, .int b.2]) ∧ H l = some (.lst (nv b.1))) ∧ ls.Nodup ∧ (∀ l, l ∈ ls → H1 l = none) ∧ (∀ l, l ∈ ts → H1 l = none) ∧ (∀ l, l ∈ ls → H l ≠ none)) ?_ ⟨[], [], rfl, rfl, by simp, by simp, fun _ _ _ _ h => by simp at h, List.nodup_nil, fun _ h => by simp at h, fun _ h => by simp at h, fun _ h => by simp at h⟩ ?_ ?_
  · rintro ys Ha Hb ⟨ts, ls, h1, h2, h3, h4, h5, h6, h7, h8, h9⟩ e
    refine ⟨ts, ls, h1, h2, h3, h4, fun i t l b ht hl hb => ?_, h6, h7, h8, fun l hl => ?_⟩
    · obtain ⟨q1, q2⟩ := h5 i t l b ht hl hb
      exact ⟨e _ _ (fun q => h3 (q ▸ List.mem_of_getElem? ht)) q1, e _ _ (fun q => h4 (q ▸ List.mem_of_getElem? hl)) q2⟩
    · have := h9 l hl
      cases q : Ha l with
      | none => exact absurd q this
      | some o =>
        rw [e _ _ (fun q => h4 (q ▸ hl)) q]
        simp
  · rintro i x H H' ys hi e h1 h2 ⟨ts, ls, h3, h4, h5, h6, h7, h8, h9, h10, h11⟩ hy Qc hq
    have hb : i < bs.length := by omega
    have eL : ts.length = i := by rw [← h2, h3, List.length_map]
    refine hs i x H H' bs[i] hi (List.getElem?_eq_getElem hb) e hy Qc fun p l H4 np nl e4 hp hl => hq _ H4 e4 ⟨ts ++ [p], ls ++ [l], ?_, ?_, ?_, ?_, ?_, ?_, ?_, ?_, ?_⟩
    · rw [h3, List.map_append]
      rfl
    · rw [List.length_append, List.length_append, h4]
      rfl
    · intro hm
      rcases List.mem_append.mp hm with q | q
      · exact h5 q
      · have e5 : D = p := by simpa using q
        rw [e5, np] at h1
        cases h1
    · intro hm
      rcases List.mem_append.mp hm with q | q
      · exact h6 q
      · have e5 : D = l := by simpa using q
        rw [e5, nl] at h1
        cases h1
    · intro k t l' b ht hl' hbk
      rw [List.getElem?_append] at ht hl'
      by_cases hk : k < ts.length
      · rw [if_pos hk] at ht
        rw [if_pos (by omega)] at hl'
        obtain ⟨q1, q2⟩ := h7 k t l' b ht hl' hbk
        exact ⟨e4 _ _ q1, e4 _ _ q2⟩
      · rw [if_neg hk] at ht
        rw [if_neg (by omega)] at hl'
        have ek : k - ts.length = 0 := by
          have := (List.getElem?_eq_some_iff.mp ht).1
          simp at this
          omega
        rw [ek] at ht
        rw [h4, ek] at hl'
        have e6 : t = p := by simpa using ht.symm
        have e7 : l' = l := by simpa using hl'.symm
        have e8 : k = i := by omega
        subst e8
        rw [List.getElem?_eq_getElem hb] at hbk
        cases hbk
        rw [e6, e7]
        exact ⟨hp, hl⟩
    · rw [List.nodup_append]
      refine ⟨h8, by simp, ?_⟩
      intro a ha b hb' e7
      have e8 : b = l := by simpa using hb'
      exact h11 a ha (by rw [e7, e8]; exact nl)
    · intro q hq'
      rcases List.mem_append.mp hq' with z | z
      · exact h9 q z
      · have e8 : q = l := by simpa using z
        rw [e8]
        exact fresh_back e nl
    · intro q hq'
      rcases List.mem_append.mp hq' with z | z
      · exact h10 q z
      · have e8 : q = p := by simpa using z
        rw [e8]
        exact fresh_back e np
    · intro q hq'
      rcases List.mem_append.mp hq' with z | z
      · have := h11 q z
        cases w : H q with
        | none => exact absurd w this
        | some o => rw [e4 _ _ w]; simp
      · have e8 : q = l := by simpa using z
        rw [e8, hl]
        simp
  · rintro H ys e h1 h2 ⟨ts, ls, h3, h4, h5, h6, h7, h8, h9, h10, h11⟩
    have eL : ts.length = n := by rw [← h2, h3, List.length_map]
    have hts : H D = some (.lst (ts.map V.ref)) := by rw [h1, h3]
    exact hd H ts ls e ⟨hts, by omega, by omega, h7, h8, h9, h10, hD⟩
end
end Hc
namespace Hc
open PySem PySem.Spec PyProof.Rows L2 Evl
theorem rgV_nv (n : Nat) : rgV 0 (n : Int) = nv (List.range n) := by
  unfold rgV nv
  rw [show ((n : Int) - 0).toNat = n by omega]
  refine List.map_congr_left fun i _ => ?_
  rw [Int.zero_add]
theorem eqvAll_ints : ∀ (ns ms : List Int), PyData.eqvAll (ns.map PyData.int) (ms.map PyData.int) = decide (ns = ms)
  | [], [] => by simp [PyData.eqvAll]
  | [], _ :: _ => by simp [PyData.eqvAll]
  | _ :: _, [] => by simp [PyData.eqvAll]
  | n :: ns, m :: ms => by
    rw [List.map_cons, List.map_cons, PyData.eqvAll, eqvAll_ints ns ms, PyData.eqv]
    by_cases h1 : n = m <;> by_cases h2 : ns = ms <;> simp [h1, h2]
theorem eqv_ints (ns ms : List Int) : PyData.eqv (.list (ns.map PyData.int)) (.list (ms.map PyData.int)) = decide (ns = ms) := by
  rw [PyData.eqv]
  exact eqvAll_ints ns ms
theorem map_const_bl (n : Nat) (b : Bool) : ((List.range n).map fun _ => V.bl b) = ((List.range n).map fun _ => b).map V.bl := by
  rw [List.map_map]
  rfl
theorem all_const_true (n : Nat) : ((List.range n).map fun _ => true).all id = true := by
  rw [List.all_map]
  exact List.all_eq_true.mpr fun _ _ => rfl
theorem itT {c : Bool} {A B : Prop} (h : c = true) (k : A) : if c = true then A else B := by rw [if_pos h]; exact k
theorem itF {c : Bool} {A B : Prop} (h : c = false) (k : B) : if c = true then A else B := by rw [if_neg (by rw [h]; decide)]; exact k
theorem it2 {c : Bool} {A B : Prop} (h1 : c = true → A) (h2 : c = false → B) : if c = true then A else B := by
  cases c with
  | true => rw [if_pos rfl]; exact h1 rfl
  | false => rw [if_neg (by decide)]; exact h2 rfl
theorem rep_row (n : Nat) : (List.replicate n [V.int 0]).flatten = rowV n (fun _ => 0) := by
  unfold rowV
  rw [List.map_const', List.length_range]
  induction n with
  | zero => rfl
  | succ n ih => rw [List.replicate_succ, List.flatten_cons, ih, List.replicate_succ]; rfl
theorem nv_drop (ks : List Nat) (k : Nat) : (nv ks).drop k = nv (ks.drop k) := by unfold nv; rw [List.map_drop]
theorem nv_take (ks : List Nat) (k : Nat) : (nv ks).take k = nv (ks.take k) := by unfold nv; rw [List.map_take]
theorem cut_nv_from (ks : List Nat) (k : Nat) : cutV (nv ks) (some ((k : Int) + 1)) none = nv (ks.drop (k + 1)) := by
  rw [show ((k : Int) + 1) = ((k + 1 : Nat) : Int) from rfl, cut_from, nv_drop]
theorem cut_nv_to (ks : List Nat) (k : Nat) : cutV (nv ks) none (some (k : Int)) = nv (ks.take k) := by rw [cut_to, nv_take]
theorem Rows.tab {H0 H : Hp} {D : Addr} {ps : List Addr} {n : Nat} {f : Nat → Nat → Int} (hD : H0 D = none) (h : H D = some (.lst (ps.map V.ref))) (hl : ps.length = n) (R : Rows H0 H ps (fun i => rowV n (f i))) : Tab H0 H D ps n f :=
  ⟨hl, h, R.at_, R.nd, hD, R.fr⟩
theorem rgOk_nat {n : Nat} (h : n ≤ 1000) : RgOk 0 (n : Int) := RgOk.of_le (by omega) (by omega) (by omega) (by omega)
end Hc
namespace Hc
open PySem PySem.Spec PyProof.Rows L2 Evl
/-! ### great numbers -/
def Big (B : Nat) (x : Int) : Prop := x.natAbs < 2 ^ B
theorem Big.mono {B C : Nat} {x : Int} (h : Big B x) (hc : B ≤ C) : Big C x := Nat.lt_of_lt_of_le h (Nat.pow_le_pow_right (by decide) hc)
theorem Big.mul {B C : Nat} {x y : Int} (h : Big B x) (k : Big C y) : Big (B + C) (x * y) := by
  unfold Big at *
  rw [Int.natAbs_mul, Nat.pow_add]
  exact Nat.mul_lt_mul'' h k
theorem Big.add {B : Nat} {x y : Int} (h : Big B x) (k : Big B y) : Big (B + 1) (x + y) := by
  unfold Big at *
  have := Int.natAbs_add_le x y
  rw [Nat.pow_succ]
  omega
theorem big_bits {B : Nat} {x : Int} (h0 : 0 < B) (h : Big B x) : Builtin.Int.intBits x ≤ B := by
  have h1 := PySem.Flt.log2_lt_of h0 h
  unfold Builtin.Int.intBits
  split
  · exact Nat.zero_le _
  · omega
theorem big_of_bits {x : Int} {B : Nat} (h : Builtin.Int.intBits x ≤ B) : Big B x := by
  unfold Builtin.Int.intBits at h
  unfold Big
  split at h
  · rename_i e
    have e0 : x = 0 := by simpa using e
    rw [e0]
    exact Nat.pow_pos (by decide)
  · exact Nat.lt_of_lt_of_le Nat.lt_log2_self (Nat.pow_le_pow_right (by decide) h)
theorem mulOk_big {B C : Nat} {x y : Int} (h : Big B x) (k : Big C y) (hB : 0 < B) (hC : 0 < C) (hs : B + C ≤ 100000000) : IntMulOk x y := by
  have h1 := big_bits hB h
  have h2 := big_bits hC k
  have e : bitsLine = 134217728 := by decide
  intro z
  rw [Bool.and_eq_true] at z
  have z2 := of_decide_eq_true z.2
  rw [e] at z2
  omega
theorem mulOk_small {x y : Int} (h1 : -(2 ^ 64) < x) (h2 : x < 2 ^ 64) : IntMulOk x y := PySem.IntMulOk.of_left (PySem.intBits_le_64 h1 h2)
theorem mulOk_smallR {x y : Int} (h1 : -(2 ^ 64) < y) (h2 : y < 2 ^ 64) : IntMulOk x y := PySem.IntMulOk.of_right (PySem.intBits_le_64 h1 h2)
theorem big_small {x : Int} {B : Nat} (hB : 64 ≤ B) (h1 : -(2 ^ 64) < x) (h2 : x < 2 ^ 64) : Big B x := Big.mono (B := 64) (by unfold Big; omega) hB
theorem divW_small {i j : Int} (h1 : 0 < j) (h2 : j < 1000000) : CDivW i j := by
  refine ⟨h1, ?_⟩
  have : j.natAbs < 2 ^ 20 := by omega
  exact Nat.lt_trans (PySem.Flt.log2_lt_of (by decide) this) (by decide)
theorem Big.div {B : Nat} {x j : Int} (h : Big B x) (hj : 0 < j) : Big B (x / j) := by
  unfold Big at *
  refine Nat.lt_of_le_of_lt ?_ h
  exact Int.natAbs_ediv_le_natAbs x j
theorem big_sum : ∀ (ns : List Int) (B : Nat), (∀ n ∈ ns, Big B n) → Big (B + ns.length) ns.sum
  | [], B, _ => by
    show (0 : Nat) < 2 ^ (B + 0)
    exact Nat.pow_pos (by decide)
  | n :: ns, B, h => by
    rw [List.sum_cons]
    have h1 := big_sum ns B fun m hm => h m (List.mem_cons_of_mem _ hm)
    exact Big.add ((h n (List.mem_cons_self ..)).mono (Nat.le_add_right _ _)) h1
end Hc
namespace Hc
open PySem PySem.Spec PyProof.Rows L2 Evl
/-! ### the heap without one object -/
def rem (H : Hp) (F : Addr) : Hp := fun a => if a = F then none else H a
theorem rem_ne {H : Hp} {F a : Addr} (h : a ≠ F) : rem H F a = H a := by unfold rem; rw [if_neg h]
theorem rem_ex {H : Hp} {F : Addr} : Ex (rem H F) H := fun a o h => by
  unfold rem at h
  split at h
  · cases h
  · exact h
theorem rem_mono {H H' : Hp} {F : Addr} (e : Ex H H') : Ex (rem H F) (rem H' F) := fun a o h => by
  unfold rem at h ⊢
  split at h
  · cases h
  · rename_i n
    rw [if_neg n]
    exact e a o h
theorem rem_upd {H : Hp} {F : Addr} {o : HO} : rem (upd H F o) F = rem H F := by
  funext a
  unfold rem
  split
  · rfl
  · rename_i n
    rw [upd_ne n]
theorem rem_exB {H H' : Hp} {F : Addr} (e : ExB F H H') : Ex (rem H F) (rem H' F) := fun a o h => by
  unfold rem at h ⊢
  split at h
  · cases h
  · rename_i n
    rw [if_neg n]
    exact e a o n h
theorem rem_none {H : Hp} {F : Addr} (h : H F = none) : rem H F = H := by
  funext a
  unfold rem
  split
  · rename_i e
    rw [e, h]
  · rfl
end Hc
namespace Hc
open PySem PySem.Spec PyProof.Rows L2 Evl
/-! ### the rules with the written part named -/
section
variable {X : Cx} {e l : Expr} {te tl : TE} {tg : Expr} {pos p : Pos}
theorem isiK (K : PySem.W.Frag) (h : X.K = K := by rfl) : CallR X (.builtin "isinstance") (rIsi K) := by cases h; exact call_isi
theorem ixLK (K : PySem.W.Frag) (h : X.K = K := by rfl) : IxR X (rIxL K) := by cases h; exact ix_list
theorem ixTK (K : PySem.W.Frag) (h : X.K = K := by rfl) : IxR X (rIxT K) := by cases h; exact ix_tup
theorem slLK (K : PySem.W.Frag) (h : X.K = K := by rfl) : SlR X (rSlL K) := by cases h; exact sl_list
theorem allK (K : PySem.W.Frag) (h : X.K = K := by rfl) (hc : X.calm = true := by rfl) : CallR X (.builtin "all") (rAll K) := by cases h; exact cr_all hc
theorem anyK (K : PySem.W.Frag) (h : X.K = K := by rfl) (hc : X.calm = true := by rfl) : CallR X (.builtin "any") (rAny K) := by cases h; exact cr_any hc
theorem sumK (K : PySem.W.Frag) (h : X.K = K := by rfl) (hc : X.calm = true := by rfl) : CallR X (.builtin "sum") (rSum K) := by cases h; exact cr_sum hc
theorem minK (K : PySem.W.Frag) (h : X.K = K := by rfl) (hc : X.calm = true := by rfl) : CallR X (.builtin "min") (rMin K) := by cases h; exact cr_min hc
theorem maxK (K : PySem.W.Frag) (h : X.K = K := by rfl) (hc : X.calm = true := by rfl) : CallR X (.builtin "max") (rMax K) := by cases h; exact cr_max hc
theorem sortK (K : PySem.W.Frag) (h : X.K = K := by rfl) : CallR X (.builtin "sorted") (rSorted K) := by cases h; exact cr_sorted
theorem lenK (K : PySem.W.Frag) (h : X.K = K := by rfl) : CallR X (.builtin "len") (rLenS K) := by cases h; exact call_len_seq
theorem listK (K : PySem.W.Frag) (h : X.K = K := by rfl) : CallR X (.type "list") (rListS K) := by cases h; exact call_list_of
theorem inK (K : PySem.W.Frag) (h : X.K = K := by rfl) : OpR X (compareOp .In) (rIn K false) := by cases h; exact op_in_seq
theorem notInK (K : PySem.W.Frag) (h : X.K = K := by rfl) : OpR X (compareOp .NotIn) (rIn K true) := by cases h; exact op_notIn_seq
theorem eqDK (K : PySem.W.Frag) (hu : X.A.units + 64 < cLine) (h : X.K = K := by rfl) : OpR X (compareOp .Eq) (rEqD K) := by cases h; exact op_eqD hu
theorem neDK (K : PySem.W.Frag) (hu : X.A.units + 64 < cLine) (h : X.K = K := by rfl) : OpR X (compareOp .NotEq) (rNeD K) := by cases h; exact op_neD hu
theorem piL (K : PySem.W.Frag) (hl : PE X l tl) (h : X.K = K := by rfl) : PI X tg l (iList K tl) := by cases h; exact pi_list hl
theorem piT (K : PySem.W.Frag) (hl : PE X l tl) (h : X.K = K := by rfl) : PI X tg l (iTup K tl) := by cases h; exact pi_tup hl
theorem piE (K : PySem.W.Frag) {ta : TA} {tpos : Pos} {elts : List Expr} {kk : Nat} (hg : Gl X "enumerate") (hm : X.mg "enumerate" = none) (ha : PA X [e] ta) (hs : starEach [e] X.env = [(false, eval e X.env)] := by rfl) (h : X.K = K := by rfl) : PI X (.Tuple elts kk tpos) (.Call (.Name "enumerate" p) [e] [] pos) (iEnum K ta) := by cases h; exact pi_enum hg hm ha hs
theorem piZ (K : PySem.W.Frag) {e2 : Expr} {ta : TA} {tpos : Pos} {elts : List Expr} {kk : Nat} (hg : Gl X "zip") (hm : X.mg "zip" = none) (ha : PA X [e, e2] ta) (hs : starEach [e, e2] X.env = (false, eval e X.env) :: starEach [e2] X.env := by rfl) (hpl : (backTo pos (starEach [e2] X.env)).any (·.1) = false := by rfl) (h : X.K = K := by rfl) : PI X (.Tuple elts kk tpos) (.Call (.Name "zip" p) [e, e2] [] pos) (iZip K ta) := by cases h; exact pi_zip hg hm ha hs hpl
theorem pgT (K : PySem.W.Frag) {es : List Expr} {k : Nat} {t : TGs} {n : Nat} (h : PGs X es t) (hn : (assignEach es X.env).length = n := by rfl) (hst : (assignEach es X.env).findIdx? (·.1) = none := by rfl) (hK : X.K = K := by rfl) (hc : X.calm = true := by rfl) : PG X (.Tuple es k pos) (gTup K n t) := by cases hK; exact pg_tup hc h hn hst
end
end Hc
namespace Hc
open PySem PySem.Spec PyProof.Rows L2 Evl
theorem revLK {X : Cx} {e : Expr} {te : TE} {k : Nat} {p1 p2 p3 pos : Pos} (K : PySem.W.Frag) (he : PE X e te) (h : X.K = K := by rfl) : PE X (.Subscript e (.Slice none none (some (.UnaryOp .USub (.Constant (.int 1) k p1) p2)) p3) pos) (tRevL K te) := by cases h; exact pe_revL he
end Hc
namespace Hc
open PySem PySem.Spec PyProof.Rows L2 Evl
/-! ### rows from a place on -/
def dRows (n k : Nat) (f : Nat → Nat → Int) : PyData := .list (((List.range n).drop k).map fun i => dRow n (f i))
theorem lay_rows (n k : Nat) (f : Nat → Nat → Int) : (dRows n k f).canLay0 = true := lay_list _ fun d hd => by
  obtain ⟨j, _, rfl⟩ := List.mem_map.mp hd
  exact lay_row _ _
theorem shaped_rows (n k : Nat) (f : Nat → Nat → Int) : SeqAt.shaped (dRows n k f) = true := shaped_of (lay_rows n k f) (depth_list fun d hd => by
  obtain ⟨j, _, rfl⟩ := List.mem_map.mp hd
  exact depth_row _ _) (by decide)
theorem dp_rows {K : PySem.W.Frag} {H : Hp} {a : Addr} {rs : List Addr} {n k : Nat} {f : Nat → Nat → Int} (hl : rs.length = n) (h : SqL K H a ((rs.drop k).map V.ref)) (hr : ∀ i r, k ≤ i → rs[i]? = some r → SqL K H r (rowV n (f i))) : Dp K H (.ref a) (dRows n k f) := by
  refine .lst h (dpAll_of (by rw [List.length_map, List.length_map, List.length_drop, List.length_drop, List.length_range, hl]) fun i x d hx hd => ?_)
  rw [List.getElem?_map, List.getElem?_drop] at hx hd
  cases e : rs[k + i]? with
  | none => rw [e] at hx; cases hx
  | some r =>
    rw [e] at hx
    have hi : k + i < n := by rw [← hl]; exact (List.getElem?_eq_some_iff.mp e).1
    rw [List.getElem?_range hi] at hd
    cases hx
    cases hd
    exact dp_row (hr (k + i) r (Nat.le_add_right _ _) e)
end Hc

/-! Plain laws of ballots that make a table: no program in sight. -/
namespace Hc
theorem cnt_cons (b : List Nat × Int) (bs : List (List Nat × Int)) (i j : Nat) : cnt (b :: bs) i j = b.2 * psum i j b.1 + cnt bs i j := by
  unfold cnt
  rw [List.map_cons, List.sum_cons]
def restOf (n a b : Nat) : List Nat := (List.range n).filter fun k => !(k == a || k == b)
def twoB (n a b : Nat) (m : Int) : List (List Nat × Int) := [(a :: b :: restOf n a b, m), ((restOf n a b).reverse ++ [a, b], m)]
theorem psum_two (i j a b : Nat) (r : List Nat) : psum i j (a :: b :: r) + psum i j (r.reverse ++ [a, b]) = 2 * dlt i j a b := by
  have e1 : psum i j (a :: b :: r) = dsum i j a (b :: r) + (dsum i j b r + psum i j r) := rfl
  have e2 : psum i j (r.reverse ++ [a, b]) = psum i j ((r.reverse ++ [a]) ++ [b]) := by rw [List.append_assoc]; rfl
  rw [e1, e2, psum_snoc, psum_snoc, esum_append, psum_reverse, esum_dsum, esum_dsum, dsum_reverse, dsum_reverse, dsum_cons, esum_cons, esum_nil]
  omega
theorem cnt_two (n a b : Nat) (m : Int) (i j : Nat) : cnt (twoB n a b m) i j = 2 * m * dlt i j a b := by
  unfold twoB
  rw [cnt_cons, cnt_cons, cnt_nil]
  have h := psum_two i j a b (restOf n a b)
  show m * psum i j (a :: b :: restOf n a b) + (m * psum i j ((restOf n a b).reverse ++ [a, b]) + 0) = 2 * m * dlt i j a b
  rw [Int.add_zero, ← Int.mul_add, h, ← Int.mul_assoc, Int.mul_comm m 2]
theorem mem_restOf {n a b k : Nat} : k ∈ restOf n a b ↔ k < n ∧ k ≠ a ∧ k ≠ b := by
  unfold restOf
  rw [List.mem_filter, List.mem_range]
  simp
theorem two_perm {n a b : Nat} (ha : a < n) (hb : b < n) (hab : a ≠ b) : (a :: b :: restOf n a b).Perm (List.range n) := by
  have hr : (restOf n a b).Nodup := List.nodup_range.filter _
  have h1 : (a :: b :: restOf n a b).Nodup := by
    rw [List.nodup_cons, List.nodup_cons]
    refine ⟨fun h => ?_, fun h => (mem_restOf.mp h).2.2 rfl, hr⟩
    rcases List.mem_cons.mp h with e | e
    · exact hab e
    · exact (mem_restOf.mp e).2.1 rfl
  rw [List.perm_ext_iff_of_nodup h1 List.nodup_range]
  intro k
  rw [List.mem_cons, List.mem_cons, mem_restOf, List.mem_range]
  constructor
  · rintro (rfl | rfl | h)
    · exact ha
    · exact hb
    · exact h.1
  · intro h
    by_cases h1 : k = a
    · exact .inl h1
    · by_cases h2 : k = b
      · exact .inr (.inl h2)
      · exact .inr (.inr ⟨h, h1, h2⟩)
theorem two_perm2 {n a b : Nat} (ha : a < n) (hb : b < n) (hab : a ≠ b) : ((restOf n a b).reverse ++ [a, b]).Perm (List.range n) := by
  have h : ((restOf n a b).reverse ++ [a, b]).Perm ([a, b] ++ restOf n a b) := List.perm_append_comm.trans (List.Perm.append_left _ (List.reverse_perm _))
  exact h.trans (two_perm ha hb hab)
theorem dlt_self (i a b : Nat) : dlt i i a b = 0 := by
  unfold dlt
  have e : (a = i ∧ b = i) ↔ (b = i ∧ a = i) := And.comm
  simp only [e]
  omega
theorem esum_range (i j y : Nat) : ∀ m : Nat, esum i j y (List.range m) = (if y = j ∧ i < m then 1 else 0) - (if y = i ∧ j < m then 1 else 0)
  | 0 => by simp [esum]
  | m + 1 => by
    rw [List.range_succ, esum_append, esum_range i j y m, esum_cons, esum_nil]
    unfold dlt
    by_cases h1 : y = j <;> by_cases h2 : y = i <;> by_cases h3 : m = i <;> by_cases h4 : m = j <;> by_cases h5 : i < m <;> by_cases h6 : j < m <;> simp_all <;> omega
theorem psum_range (i j : Nat) : ∀ n : Nat, psum i j (List.range n) = (if i < j ∧ j < n then 1 else 0) - (if j < i ∧ i < n then 1 else 0)
  | 0 => by simp [psum]
  | n + 1 => by
    rw [List.range_succ, psum_snoc, psum_range i j n, esum_range]
    by_cases h1 : n = j <;> by_cases h2 : n = i <;> by_cases h3 : i < j <;> by_cases h4 : j < i <;> by_cases h5 : i < n <;> by_cases h6 : j < n <;> simp_all <;> omega
/-- f is a table of n -/
def Anti (n : Nat) (f : Nat → Nat → Int) : Prop := ∀ i j, i < n → j < n → f i j = - f j i
theorem Anti.self {n : Nat} {f : Nat → Nat → Int} (h : Anti n f) {i : Nat} (hi : i < n) : f i i = 0 := by
  have := h i i hi hi
  omega
theorem anti_cnt (n : Nat) (bs : List (List Nat × Int)) : Anti n (cnt bs) := fun i j _ _ => cnt_swap bs j i
/-- two tables that are alike above are alike -/
theorem anti_ext {n : Nat} {f g : Nat → Nat → Int} (hf : Anti n f) (hg : Anti n g) (h : ∀ i j, i < j → j < n → f i j = g i j) : ∀ i j, i < n → j < n → f i j = g i j := fun i j hi hj => by
  by_cases h1 : i < j
  · exact h i j h1 hj
  · by_cases h2 : j < i
    · rw [hf i j hi hj, hg i j hi hj, h j i h2 hi]
    · have e : i = j := by omega
      subst e
      rw [hf.self hi, hg.self hi]
/-- what is told so far: all pairs ahead of (one, other) are done, o for the others -/
def Done (n : Nat) (f : Nat → Nat → Int) (o : Int) (a b : Nat) (bs : List (List Nat × Int)) : Prop := ∀ i j, i < j → j < n → cnt bs i j = if i < a ∨ (i = a ∧ j < b) then f i j else o
theorem done_start {n : Nat} {f : Nat → Nat → Int} {o : Int} {bs : List (List Nat × Int)} (h : ∀ i j, i < j → j < n → cnt bs i j = o) : Done n f o 0 1 bs := fun i j hi hj => by
  rw [h i j hi hj, if_neg (by omega)]
theorem dlt_lt {i j a b : Nat} (h1 : i < j) (h2 : a < b) : dlt i j a b = if i = a ∧ j = b then 1 else 0 := by
  unfold dlt
  by_cases h : i = a ∧ j = b
  · obtain ⟨rfl, rfl⟩ := h
    have : ¬ (j = i ∧ i = j) := by omega
    simp [this]
  · rw [if_neg h, if_neg (by omega), if_neg (by omega)]
    rfl
theorem done_step {n a b : Nat} {f : Nat → Nat → Int} {o m : Int} {bs : List (List Nat × Int)} (h : Done n f o a b bs) (hab : a < b) (hm : f a b - o = 2 * m) : Done n f o a (b + 1) (bs ++ twoB n a b m) := fun i j hi hj => by
  rw [cnt_append, h i j hi hj, cnt_two, dlt_lt hi hab]
  by_cases e : i = a ∧ j = b
  · obtain ⟨rfl, rfl⟩ := e
    rw [if_neg (by omega), if_pos ⟨rfl, rfl⟩, if_pos (by omega)]
    omega
  · rw [if_neg e, Int.mul_zero, Int.add_zero]
    by_cases e2 : i < a ∨ (i = a ∧ j < b)
    · rw [if_pos e2, if_pos (by omega)]
    · rw [if_neg e2, if_neg (by omega)]
theorem done_back {n a b : Nat} {f : Nat → Nat → Int} {o m : Int} {bs : List (List Nat × Int)} (h : Done n f o a b bs) (hab : a < b) (hm : f a b - o = - (2 * m)) : Done n f o a (b + 1) (bs ++ twoB n b a m) := fun i j hi hj => by
  rw [cnt_append, h i j hi hj, cnt_two, dlt_swap i j a b, dlt_lt hi hab]
  by_cases e : i = a ∧ j = b
  · obtain ⟨rfl, rfl⟩ := e
    rw [if_neg (by omega), if_pos ⟨rfl, rfl⟩, if_pos (by omega)]
    omega
  · rw [if_neg e, show (-0 : Int) = 0 from rfl, Int.mul_zero, Int.add_zero]
    by_cases e2 : i < a ∨ (i = a ∧ j < b)
    · rw [if_pos e2, if_pos (by omega)]
    · rw [if_neg e2, if_neg (by omega)]
theorem done_same {n a b : Nat} {f : Nat → Nat → Int} {o : Int} {bs : List (List Nat × Int)} (h : Done n f o a b bs) (hm : f a b = o) : Done n f o a (b + 1) bs := fun i j hi hj => by
  rw [h i j hi hj]
  by_cases e : i = a ∧ j = b
  · obtain ⟨rfl, rfl⟩ := e
    rw [if_neg (by omega), if_pos (by omega), hm]
  · by_cases e2 : i < a ∨ (i = a ∧ j < b)
    · rw [if_pos e2, if_pos (by omega)]
    · rw [if_neg e2, if_neg (by omega)]
theorem done_row {n a : Nat} {f : Nat → Nat → Int} {o : Int} {bs : List (List Nat × Int)} (h : Done n f o a n bs) : Done n f o (a + 1) (a + 2) bs := fun i j hi hj => by
  rw [h i j hi hj]
  by_cases e2 : i < a ∨ (i = a ∧ j < n)
  · rw [if_pos e2, if_pos (by omega)]
  · rw [if_neg e2, if_neg (by omega)]
theorem done_all {n b : Nat} {f : Nat → Nat → Int} {o : Int} {bs : List (List Nat × Int)} (hf : Anti n f) (h : Done n f o n b bs) : ∀ i j, i < n → j < n → cnt bs i j = f i j :=
  anti_ext (anti_cnt n bs) hf fun i j hi hj => by rw [h i j hi hj, if_pos (by omega)]
/-- all numbers above are like the first one -/
def Alike (n : Nat) (f : Nat → Nat → Int) : Prop := ∀ i j, i < j → j < n → f i j % 2 = f 0 1 % 2
end Hc

namespace Hc
open PySem PySem.Spec PyProof.Rows L2 Evl
/-! ### one of two rules -/
theorem pe_alt {X : Cx} {e : Expr} {t u : TE} (h1 : PE X e t) (h2 : PE X e u) : PE X e (fun σ H Q => t σ H Q ∨ u σ H Q) := ⟨fun pins s σ H Q I h => h.elim (h1.run pins s σ H Q I) (h2.run pins s σ H Q I)⟩
/-! ### max, min of a pair of numbers -/
/-- a pair's walk, for the two built-ins alike: the better of the two is handed on -/
theorem pair_walk {prog : Program} {w : World} {B : Around} {op : CmpOp} {sh : Shared} {q : Addr} {x y : Int} {tx ty : Tok} {bt : Nat → Nat → Bool} {R : Value → Shared → Prop} {F : Value → Shared → Prop} (hB : B.handled = none) (hp : sh.heap.IsTuple q #[.int x tx, .int y ty])
    (hc : CmpOf prog w B op (fun i v => (#[Value.int x tx, Value.int y ty] : Array Value)[i]? = some v) bt) (done : ∀ v hh tt, (v = .int x tx ∧ bt 1 0 = false ∨ v = .int y ty ∧ bt 1 0 = true) → (∀ c o, sh.heap.get? c = some o → hh.get? c = some o) → R v { sh with heap := hh, toks := tt }) :
    wpAny (model prog w) B (pyIter (.ref q)) (fun it s2 => ∃ I fp wr n P St bt', it = .ref I ∧ Walks prog w B I fp wr n P St ∧ St 0 s2.heap ∧ (∀ c ∈ fp, c < s2.heap.objs.size) ∧ 0 < n ∧ CmpOf prog w B op P bt' ∧
      ∀ v hh tt, P (argBest bt' (n - 1)) v → (∀ c o, c ∉ wr → s2.heap.get? c = some o → hh.get? c = some o) → R v { s2 with heap := hh, toks := tt }) F sh := by
  have lt : q < sh.heap.objs.size := hp.elim fun _ z => Heap.lt_size z.1
  apply wpAny_pyIter_tuple hp
  refine ⟨_, _, _, _, _, _, bt, rfl, Walks.tuple hB _ q (Nat.ne_of_lt lt) #[Value.int x tx, Value.int y ty], ⟨⟨_, Heap.get?_push_size _ rfl, rfl, rfl⟩, hp.push _⟩, ?_, by simp, hc, ?_⟩
  · intro c hc2
    rw [Heap.size_push]
    have : c = sh.heap.objs.size ∨ c = q := by simpa using hc2
    rcases this with e | e <;> rw [e]
    · exact Nat.lt_succ_self _
    · exact Nat.lt_succ_of_lt lt
  · intro v hh tt best keep
    refine done v hh tt ?_ fun c o ho => keep c o (fun z => ?_) (Heap.get?_push_of_some _ ho)
    · cases hb : bt 1 0 <;> simp [argBest, hb] at best
      · exact .inl ⟨best.symm, rfl⟩
      · exact .inr ⟨best.symm, rfl⟩
    · have z1 : c = sh.heap.objs.size := by simpa using z
      exact Nat.lt_irrefl _ (z1 ▸ Heap.lt_size ho)
def rMaxT (K : PySem.W.Frag) : List V → Hp → VK → Prop := fun vs H Q => ∃ (p : Addr) (x y : Int), vs = [V.ref p] ∧ SqT K H p [.int x, .int y] ∧ Q (.int (max x y)) H
def rMinT (K : PySem.W.Frag) : List V → Hp → VK → Prop := fun vs H Q => ∃ (p : Addr) (x y : Int), vs = [V.ref p] ∧ SqT K H p [.int x, .int y] ∧ Q (.int (min x y)) H
theorem maxTK {X : Cx} (K : PySem.W.Frag) (h : X.K = K := by rfl) (hc : X.calm = true := by rfl) : CallR X (.builtin "max") (rMaxT K) := by
  subst h
  rintro pins sh σ H _ us Q I rel ⟨p, x, y, rfl, hp, want⟩
  obtain ⟨its, rv, tup, _⟩ := I.tuple hp
  obtain ⟨_, _, rfl, ⟨tx, rfl⟩, ⟨ty, rfl⟩⟩ := vals2 rv
  rw [Vals.ref1 rel]
  refine call_max_walk (pair_walk (I.ok.hd hc) tup (CmpOf.ints_gt (fun i => if i = 0 then x else y) fun i v hv => ?_) fun v hh tt hv keep => ?_)
  · match i, hv with
    | 0, hv => exact ⟨tx, (Option.some.inj hv).symm⟩
    | 1, hv => exact ⟨ty, (Option.some.inj hv).symm⟩
    | _ + 2, hv => simp at hv
  · refine ⟨.int (max x y), H, I.kept keep, ?_, want⟩
    rcases hv with ⟨rfl, z⟩ | ⟨rfl, z⟩
    · have z2 : ¬ y > x := of_decide_eq_false z
      exact ⟨tx, by rw [show max x y = x by omega]⟩
    · have z2 : y > x := of_decide_eq_true z
      exact ⟨ty, by rw [show max x y = y by omega]⟩
theorem minTK {X : Cx} (K : PySem.W.Frag) (h : X.K = K := by rfl) (hc : X.calm = true := by rfl) : CallR X (.builtin "min") (rMinT K) := by
  subst h
  rintro pins sh σ H _ us Q I rel ⟨p, x, y, rfl, hp, want⟩
  obtain ⟨its, rv, tup, _⟩ := I.tuple hp
  obtain ⟨_, _, rfl, ⟨tx, rfl⟩, ⟨ty, rfl⟩⟩ := vals2 rv
  rw [Vals.ref1 rel]
  refine call_min_walk (pair_walk (I.ok.hd hc) tup (CmpOf.ints_lt (fun i => if i = 0 then x else y) fun i v hv => ?_) fun v hh tt hv keep => ?_)
  · match i, hv with
    | 0, hv => exact ⟨tx, (Option.some.inj hv).symm⟩
    | 1, hv => exact ⟨ty, (Option.some.inj hv).symm⟩
    | _ + 2, hv => simp at hv
  · refine ⟨.int (min x y), H, I.kept keep, ?_, want⟩
    rcases hv with ⟨rfl, z⟩ | ⟨rfl, z⟩
    · have z2 : ¬ y < x := of_decide_eq_false z
      exact ⟨tx, by rw [show min x y = x by omega]⟩
    · have z2 : y < x := of_decide_eq_true z
      exact ⟨ty, by rw [show min x y = y by omega]⟩
/-! ### how many unlike numbers -/
theorem firstMet_facts (val : Nat → Int) : ∀ i, (firstMet val i).Nodup ∧ ∀ x, x ∈ firstMet val i ↔ ∃ j, j < i ∧ val j = x
  | 0 => by
    rw [firstMet_zero]
    exact ⟨List.nodup_nil, fun x => ⟨fun h => by simp at h, fun ⟨j, h, _⟩ => by omega⟩⟩
  | i + 1 => by
    obtain ⟨h1, h2⟩ := firstMet_facts val i
    have e : firstMet val (i + 1) = if (firstMet val i).any (· == val i) then firstMet val i else firstMet val i ++ [val i] := by rw [firstMet_succ]; rfl
    rw [e]
    by_cases hb : (firstMet val i).any (· == val i) = true
    · rw [if_pos hb]
      refine ⟨h1, fun x => ⟨fun hx => ?_, fun ⟨j, hj, ej⟩ => ?_⟩⟩
      · obtain ⟨j, hj, ej⟩ := (h2 x).mp hx
        exact ⟨j, by omega, ej⟩
      · by_cases hji : j < i
        · exact (h2 x).mpr ⟨j, hji, ej⟩
        · have : j = i := by omega
          subst this
          obtain ⟨y, hy, ey⟩ := List.any_eq_true.mp hb
          have ey2 : y = val j := eq_of_beq ey
          rw [← ej, ← ey2]
          exact hy
    · rw [if_neg hb]
      have hni : val i ∉ firstMet val i := fun hm => hb (List.any_eq_true.mpr ⟨_, hm, beq_self_eq_true _⟩)
      refine ⟨?_, fun x => ⟨fun hx => ?_, fun ⟨j, hj, ej⟩ => ?_⟩⟩
      · rw [List.nodup_append]
        refine ⟨h1, by simp, fun a ha b hb' e2 => ?_⟩
        have e3 : b = val i := by simpa using hb'
        exact hni (by rw [← e3, ← e2]; exact ha)
      · rcases List.mem_append.mp hx with hx | hx
        · obtain ⟨j, hj, ej⟩ := (h2 x).mp hx
          exact ⟨j, by omega, ej⟩
        · have e3 : x = val i := by simpa using hx
          exact ⟨i, by omega, e3.symm⟩
      · by_cases hji : j < i
        · exact List.mem_append_left _ ((h2 x).mpr ⟨j, hji, ej⟩)
        · have : j = i := by omega
          subst this
          rw [← ej]
          exact List.mem_append_right _ (List.mem_singleton.mpr rfl)
theorem firstMet_list (ns : List Int) : (firstMet (fun i => ns.getD i 0) ns.length).Nodup ∧ ∀ x, x ∈ firstMet (fun i => ns.getD i 0) ns.length ↔ x ∈ ns := by
  obtain ⟨h1, h2⟩ := firstMet_facts (fun i => ns.getD i 0) ns.length
  refine ⟨h1, fun x => (h2 x).trans ⟨fun ⟨j, hj, ej⟩ => ?_, fun hx => ?_⟩⟩
  · rw [← ej]
    show ns.getD j 0 ∈ ns
    rw [List.getD_eq_getElem?_getD, List.getElem?_eq_getElem hj]
    exact List.getElem_mem hj
  · obtain ⟨j, hj, ej⟩ := List.mem_iff_getElem.mp hx
    refine ⟨j, hj, ?_⟩
    show ns.getD j 0 = x
    rw [List.getD_eq_getElem?_getD, List.getElem?_eq_getElem hj]
    exact ej
/-- set(xs): a new set of what is in xs -/
def rSetL (K : PySem.W.Frag) : List V → Hp → VK → Prop := fun vs H Q => ∃ (l : Addr) (ns : List Int), vs = [.ref l] ∧ SqL K H l (ns.map V.int) ∧ ns.length ≤ 4000 ∧ ∀ (p : Addr) (d : List Int), H p = none → d.Nodup → (∀ x, x ∈ d ↔ x ∈ ns) → d.length ≤ ns.length → Q (.ref p) (upd H p (.set (fun k => d.any (· == k)) d.length))
theorem setLK {X : Cx} (K : PySem.W.Frag) (h : X.K = K := by rfl) (hc : X.calm = true := by rfl) : CallR X (.type "set") (rSetL K) := by
  subst h
  rintro pins sh σ H _ us Q I rel ⟨l, ns, rfl, hl, small, want⟩
  obtain ⟨its, rv, pl, _⟩ := I.list hl
  have len : its.length = ns.length := by simpa using rv.length.symm
  obtain ⟨u1, u2⟩ := firstMet_list ns
  rw [Vals.ref1 rel]
  have size : its.toArray.size = ns.length := by simpa using len
  apply call_set_list (I.ok.hd hc) pl.isList (ns := ns) (by simpa using rv.ints) (by rw [size]; unfold scanBound; omega)
  intro hh tt new keep
  rw [size] at new
  exact ⟨.ref _, _, I.laid (o := .set _ _) (fun c o ho => keep c o (Heap.lt_size ho) ho) (Nat.le_refl _) new, rfl, want _ _ (I.hok.fresh (Nat.le_refl _)) u1 u2 (firstMet_length_le _ _)⟩
/-- len of such a set -/
def rLenZ : List V → Hp → VK → Prop := fun vs H Q => ∃ (p : Addr) (S : Int → Bool) (n : Nat), vs = [.ref p] ∧ H p = some (.set S n) ∧ n ≤ 4000 ∧ Q (.int (n : Nat)) H
theorem lenZ {X : Cx} : CallR X (.builtin "len") rLenZ := by
  rintro pins sh σ H _ us Q I rel ⟨p, S, n, rfl, hp, small, want⟩
  rw [Vals.ref1 rel]
  obtain ⟨ob, es, ep, tb, at1, ex, dat, _, _, _, fit, num⟩ := (show sh.heap.SetOf (intKind X.prog X.w) p S n from I.hok p _ hp)
  apply call_len_set at1 ex dat fit (by omega)
  exact ⟨.int (n : Nat), H, I.tok _, ⟨_, by rw [num]⟩, want⟩
end Hc
namespace Hc
open PySem PySem.Spec PyProof.Rows L2 Evl
/-! ### instances of own classes -/
/-- an instance of C has C as its type -/
def Typ (K : PySem.W.Frag) (C : Addr) : Prop := ∀ (H : Hp) (a dx : Addr) (fs : List (Str × V)), H a = some (.ins C dx fs) → TyX K H (.ref a) (.ref C)
theorem tyx_ins {K : PySem.W.Frag} {H : Hp} {a C dx : Addr} {fs : List (Str × V)} (e : H a = some (.ins C dx fs)) (_cl : Cls K C) (y : Typ K C) : TyX K H (.ref a) (.ref C) := y H a dx fs e
end Hc
namespace Hc
open PySem PySem.Spec PyProof.Rows L2 Evl
/-! ### ranges by counts -/
theorem walk_rg0 {n : Nat} : Walk (Itr 0 n) n (fun _ => True) (fun i H x H' => H' = H ∧ x = .int ((i : Nat) : Int)) :=
  walk_range.mono (fun _ h => h) fun i H x H' _ _ y => ⟨y.1, y.2.trans (by show V.int (0 + (i : Int)) = _; rw [Int.zero_add])⟩
theorem walk_rg {a n : Nat} : Walk (Itr (a : Int) n) n (fun _ => True) (fun i H x H' => H' = H ∧ x = .int ((a + i : Nat) : Int)) :=
  walk_range.mono (fun _ h => h) fun i H x H' _ _ y => ⟨y.1, y.2.trans (by show V.int ((a : Int) + (i : Int)) = _; rw [Int.natCast_add])⟩
end Hc
namespace Hc
open PySem PySem.Spec PyProof.Rows L2 Evl
/-! ### three comparisons in a row, as a value -/
/-- one link: the next thing, the comparison, and, if it holds, what is left of the row -/
def tLink (r : R2) (tb : TE) (Nx : V → Hp → Prop) (No : Hp → Prop) (x : V) : L2.St → Hp → Prop := fun σ H => tb σ H fun y H1 => r x y H1 fun z H2 => ∃ k, z = .bl k ∧ (if k = true then Nx y H2 else No H2)
theorem link_run {X : Cx} {b : Expr} {tb : TE} {pos : Pos} {op op' : CmpOp} {ops : List CmpOp} {r : R2} {more : Sem Value} {rest : List (Sem Value)} {Nx : V → Hp → Prop} {Q : VK} {pins : List (Addr × Obj)} {sh : Shared} {σ : L2.St} {H : Hp} {x : V} {u : Value}
    (ho : OpR X (compareOp op) r) (hb : PE X b tb) (I : Inv X pins σ H sh) (rx : RelV x u) (h : tLink r tb Nx (Q (.bl false)) x σ H)
    (go : ∀ y v s' H', Inv X pins σ H' s' → RelV y v → Nx y H' → wpAny (model X.prog X.w) X.A (compareChain pos v (op' :: ops) (more :: rest)) (EP X pins σ Q) X.xe s') :
    wpAny (model X.prog X.w) X.A (compareChain pos u (op :: op' :: ops) (eval b X.env :: more :: rest)) (EP X pins σ Q) X.xe sh := by
  apply chain_link
  refine thn (hb.run pins sh σ H _ I h) ?_
  rintro v s1 ⟨y, H1, I1, ry, q1⟩
  refine thn (ho pins s1 σ H1 x y u v _ I1 rx ry q1) ?_
  rintro c s2 ⟨_, H2, I2, rc, k, rfl, q2⟩
  cases rc
  apply wpAny_truthy_bool
  by_cases hk : k = true
  · subst hk
    exact go y v s2 H2 I2 ry q2
  · have : k = false := by simpa using hk
    subst this
    exact ⟨.bl false, H2, I2, rfl, q2⟩
def tChain3 (r r' r'' : R2) (ta tb tc td : TE) : TE := fun σ H Q => ta σ H fun x H1 => tLink r tb (fun y H2 => tLink r' tc (fun w' H3 => td σ H3 fun v' H4 => r'' w' v' H4 Q) (Q (.bl false)) y σ H2) (Q (.bl false)) x σ H1
theorem pe_chain3 {X : Cx} {a b c d : Expr} {ta tb tc td : TE} {pos : Pos} {op op' op'' : CmpOp} {r r' r'' : R2} (ho : OpR X (compareOp op) r) (ho' : OpR X (compareOp op') r') (ho'' : OpR X (compareOp op'') r'') (ha : PE X a ta) (hb : PE X b tb) (hc : PE X c tc) (hd : PE X d td)
    (hm : lastMarks [op, op', op''] [b, c, d] = false := by with_unfolding_all rfl) : PE X (.Compare a [op, op', op''] [b, c, d] pos) (tChain3 r r' r'' ta tb tc td) := by
  constructor
  intro pins sh σ H Q I h
  apply Compare_chain (hm := hm)
  refine thn (ha.run pins sh σ H _ I h) ?_
  rintro u s1 ⟨x, H1, I1, rx, q1⟩
  refine link_run ho hb I1 rx q1 fun y v s2 H2 I2 ry q2 => link_run ho' hc I2 ry q2 fun w' z s3 H3 I3 rz q3 => chain_last ?_
  exact thn (hd.run pins s3 σ H3 _ I3 q3) fun e s4 ⟨v', H4, I4, rv, q4⟩ => ho'' pins s4 σ H4 w' v' z e Q I4 rz rv q4
end Hc
namespace Hc
open PySem PySem.Spec PyProof.Rows L2 Evl
theorem BalsN.exB {H0 H H' : Hp} {x D : Addr} {ts ls : List Addr} {bs : List (List Nat × Int)} (B : BalsN H0 H D ts ls bs) (hx : H0 x ≠ none) (e : ExB x H H') : BalsN H0 H' D ts ls bs := by
  have nD : D ≠ x := fun q => hx (q ▸ B.fD)
  refine ⟨e _ _ nD B.top, B.lt, B.ll, fun i t l b ht hl hb => ?_, B.nd, B.fl, B.ft, B.fD⟩
  obtain ⟨h1, h2⟩ := B.at_ i t l b ht hl hb
  exact ⟨e _ _ (fun q => hx (q ▸ B.ft t (List.mem_of_getElem? ht))) h1, e _ _ (fun q => hx (q ▸ B.fl l (List.mem_of_getElem? hl))) h2⟩
theorem BalsN.mono {H0 H H' : Hp} {D : Addr} {ts ls : List Addr} {bs : List (List Nat × Int)} (B : BalsN H0 H D ts ls bs) (e : Ex H H') : BalsN H0 H' D ts ls bs :=
  ⟨e _ _ B.top, B.lt, B.ll, fun i t l b ht hl hb => ⟨e _ _ (B.at_ i t l b ht hl hb).1, e _ _ (B.at_ i t l b ht hl hb).2⟩, B.nd, B.fl, B.ft, B.fD⟩
theorem BalsN.base {Hb H0 H : Hp} {D : Addr} {ts ls : List Addr} {bs : List (List Nat × Int)} (B : BalsN H0 H D ts ls bs) (e : Ex Hb H0) : BalsN Hb H D ts ls bs :=
  ⟨B.top, B.lt, B.ll, B.at_, B.nd, fun l h => fresh_back e (B.fl l h), fun t h => fresh_back e (B.ft t h), fresh_back e B.fD⟩
end Hc
namespace Hc
open PySem PySem.Spec PyProof.Rows L2 Evl
section
variable {J : It} {n : Nat} {G : Hp → Prop} {Y : Nat → Hp → V → Hp → Prop} {g : TG} {tt : TT} {te : TE} {vs : List Nat} {σ : L2.St} {H1 : Hp} {D : Addr} {Qd : Hp → Prop}
/-- some of the items, by value -/
theorem lc_filt (w : Walk J n G Y) (hD : H1 D = none) (hn : n ≤ 90000) (hG : ∀ H, Ex H1 H → G H) (p : Nat → Bool) (v : Nat → V)
    (hs : ∀ (i : Nat) (x : V) (H H' : Hp), i < n → Ex H1 H → Y i H x H' → ∀ (A : Hp → Prop) (Qc : VK), (∀ H3, Ex H H3 → p i = false → A H3) → (∀ H4, Ex H H4 → p i = true → Qc (v i) H4) → g x (wipe σ vs) H' fun σ2 H2 => wipe σ2 vs = wipe σ vs ∧ tt σ2 H2 fun b H3 => if b = true then te σ2 H3 Qc else A H3)
    (hd : ∀ H, Ex H1 H → H D = some (.lst (((List.range n).filter p).map v)) → Qd H) :
    ∃ W : Nat → Nat → Hp → Prop, (∃ m, W 0 m (upd H1 D (.lst []))) ∧ ∀ i m H, W i m H → (J.stop i H ∧ Qd H) ∨ (J.go i H ∧ ∃ Nx : Hp → Prop, (∀ H', Nx H' → ∃ m', m' < m ∧ W (i + 1) m' H') ∧ ∀ x H', J.yld i H x H' → g x (wipe σ vs) H' fun σ2 H2 => wipe σ2 vs = wipe σ vs ∧ tt σ2 H2 fun b H3 => if b = true then te σ2 H3 fun y H4 => ∃ acc, H4 D = some (.lst acc) ∧ acc.length < sizeLine ∧ Nx (upd H4 D (.lst (acc ++ [y]))) else Nx H3) := by
  refine lc_it w (fun i H => i ≤ n ∧ Ex H1 H ∧ H D = some (.lst (((List.range i).filter p).map v))) ⟨Nat.zero_le _, Ex.new hD, upd_same⟩ (fun i H _ ⟨_, e, _⟩ => hG H e) ?_ (fun H ⟨_, e, h1⟩ => hd H e h1)
  rintro i x H H' hi ⟨_, e, h1⟩ hy
  refine hs i x H H' hi e hy _ _ (fun H3 e3 hp => ⟨hi, e.trans e3, ?_⟩) (fun H4 e4 hp => ⟨_, e4 _ _ h1, ?_, hi, (e.trans e4).mut hD, ?_⟩)
  · rw [e3 _ _ h1, List.range_succ, List.filter_append]
    simp [hp]
  · refine sz_lt ?_
    rw [List.length_map]
    have := List.length_filter_le p (List.range i)
    rw [List.length_range] at this
    omega
  · rw [upd_same, List.range_succ, List.filter_append]
    simp [hp]
end
theorem eqV_int (i j : Int) : eqV (.int i) (.int j) = (i == j) := rfl
theorem dec_int (i j : Int) : decide (V.int i = V.int j) = decide (i = j) := by
  by_cases h : i = j
  · rw [decide_eq_true h, decide_eq_true (by rw [h])]
  · rw [decide_eq_false h, decide_eq_false (fun e => h (by injection e))]
theorem dec_bl (i j : Bool) : decide (V.bl i = V.bl j) = (i == j) := by
  cases i <;> cases j <;> rfl
/-- two new ballots -/
theorem balsN_two {H0 H : Hp} {D t1 t2 l1 l2 : Addr} {b1 b2 : List Nat × Int} (top : H D = some (.lst [.ref t1, .ref t2])) (h1 : H t1 = some (.tup [.ref l1, .int b1.2])) (h2 : H l1 = some (.lst (nv b1.1))) (h3 : H t2 = some (.tup [.ref l2, .int b2.2])) (h4 : H l2 = some (.lst (nv b2.1)))
    (ne : l1 ≠ l2) (f1 : H0 l1 = none) (f2 : H0 l2 = none) (f3 : H0 t1 = none) (f4 : H0 t2 = none) (f5 : H0 D = none) : BalsN H0 H D [t1, t2] [l1, l2] [b1, b2] := by
  refine ⟨top, rfl, rfl, fun i t l b ht hl hb => ?_, ?_, fun l hl => ?_, fun t ht => ?_, f5⟩
  · match i with
    | 0 =>
      cases (show some t1 = some t from ht)
      cases (show some l1 = some l from hl)
      cases (show some b1 = some b from hb)
      exact ⟨h1, h2⟩
    | 1 =>
      cases (show some t2 = some t from ht)
      cases (show some l2 = some l from hl)
      cases (show some b2 = some b from hb)
      exact ⟨h3, h4⟩
    | k + 2 => simp at ht
  · simp [ne]
  · rcases List.mem_cons.mp hl with rfl | hl
    · exact f1
    · have e : l = l2 := by simpa using hl
      rw [e]
      exact f2
  · rcases List.mem_cons.mp ht with rfl | ht
    · exact f3
    · have e : t = t2 := by simpa using ht
      rw [e]
      exact f4
theorem ne_of_fresh {H : Hp} {a b : Addr} {o : HO} (h : H a = some o) (hb : H b = none) : a ≠ b := fun e => by
  rw [e, hb] at h
  cases h
theorem paired_of {K : PySem.W.Frag} {H : Hp} : ∀ (ts ls : List Addr) (bs : List (List Nat × Int)), ts.length = bs.length → ls.length = bs.length → (∀ (i : Nat) (t l : Addr) (b : List Nat × Int), ts[i]? = some t → ls[i]? = some l → bs[i]? = some b → H t = some (.tup [.ref l, .int b.2]) ∧ H l = some (.lst (nv b.1))) → Paired (BalR K H) (ts.map V.ref) bs
  | [], _, [], _, _, _ => .nil
  | [], _, _ :: _, hl, _, _ => by simp at hl
  | _ :: _, _, [], hl, _, _ => by simp at hl
  | _ :: _, [], _ :: _, _, hl, _ => by simp at hl
  | t :: ts, l :: ls, b :: bs, hl, hl2, h => by
    obtain ⟨q1, q2⟩ := h 0 t l b rfl rfl rfl
    exact .cons ⟨t, l, rfl, st_of q1, sq_of q2⟩ (paired_of ts ls bs (by simpa using hl) (by simpa using hl2) fun i t' l' b' a1 a2 a3 => h (i + 1) t' l' b' (by simpa using a1) (by simpa using a2) (by simpa using a3))
theorem BalsN.paired {K : PySem.W.Frag} {H0 H : Hp} {D : Addr} {ts ls : List Addr} {bs : List (List Nat × Int)} (B : BalsN H0 H D ts ls bs) : Paired (BalR K H) (ts.map V.ref) bs := paired_of ts ls bs B.lt B.ll B.at_
/-- new ballots without F -/
theorem BalsN.rem {K : PySem.W.Frag} {H0 H : Hp} {F D : Addr} {ts ls : List Addr} {bs : List (List Nat × Int)} (B : BalsN H0 H D ts ls bs) (hF : H0 F ≠ none) : Paired (BalR K (Hc.rem H F)) (ts.map V.ref) bs := by
  have ne : ∀ a, H0 a = none → a ≠ F := fun a h e => hF (by rw [← e]; exact h)
  refine paired_of ts ls bs B.lt B.ll fun i t l b ht hl hb => ?_
  rw [rem_ne (ne _ (B.ft t (List.mem_of_getElem? ht))), rem_ne (ne _ (B.fl l (List.mem_of_getElem? hl)))]
  exact B.at_ i t l b ht hl hb
end Hc
namespace Hc
open PySem PySem.Spec PyProof.Rows L2 Evl
theorem ex_made {H : Hp} {x dx C : Addr} (nx : H x = none) (ndx : H dx = none) (ne : dx ≠ x) : Ex H (upd (upd H dx (.own x)) x (.ins C dx [])) := (Ex.new ndx).trans (Ex.new (by rw [upd_ne ne.symm]; exact nx))
theorem ex_after {H H3 : Hp} {x dx C : Addr} (nx : H x = none) (ndx : H dx = none) (ne : dx ≠ x) (eB : ExB x (upd (upd H dx (.own x)) x (.ins C dx [])) H3) : Ex H H3 := fun a o ha => eB a o (ne_of_fresh ha nx) (ex_made nx ndx ne a o ha)
end Hc
namespace Hc
open PySem PySem.Spec PyProof.Rows L2 Evl
/-! ### ballots whose lists are the program's own -/
def BalW (H : Hp) (x : V) (b : List Nat × Int) : Prop := ∃ (t l : Addr), x = .ref t ∧ H t = some (.tup [.ref l, .int b.2]) ∧ H l = some (.lst (nv b.1))
def BalsW (H : Hp) (v : V) (bs : List (List Nat × Int)) : Prop := ∃ (a : Addr) (xs : List V), v = .ref a ∧ H a = some (.lst xs) ∧ Paired (BalW H) xs bs
section
variable {K : PySem.W.Frag} {H H' : Hp} {v x : V} {bs : List (List Nat × Int)} {b : List Nat × Int}
theorem BalW.mono (h : BalW H x b) (e : Ex H H') : BalW H' x b := by
  obtain ⟨t, l, h1, h2, h3⟩ := h
  exact ⟨t, l, h1, e _ _ h2, e _ _ h3⟩
theorem BalsW.mono (h : BalsW H v bs) (e : Ex H H') : BalsW H' v bs := by
  obtain ⟨a, xs, h1, h2, h3⟩ := h
  exact ⟨a, xs, h1, e _ _ h2, Paired.mapP h3 fun _ _ q => q.mono e⟩
theorem BalW.rd (h : BalW H x b) : BalR K H x b := by
  obtain ⟨t, l, h1, h2, h3⟩ := h
  exact ⟨t, l, h1, st_of h2, sq_of h3⟩
theorem BalsW.rd (h : BalsW H v bs) : BalsR K H v bs := by
  obtain ⟨a, xs, h1, h2, h3⟩ := h
  exact ⟨a, xs, h1, sq_of h2, Paired.mapP h3 fun _ _ q => q.rd⟩
end
theorem pairedW_of {H : Hp} : ∀ (ts ls : List Addr) (bs : List (List Nat × Int)), ts.length = bs.length → ls.length = bs.length → (∀ (i : Nat) (t l : Addr) (b : List Nat × Int), ts[i]? = some t → ls[i]? = some l → bs[i]? = some b → H t = some (.tup [.ref l, .int b.2]) ∧ H l = some (.lst (nv b.1))) → Paired (BalW H) (ts.map V.ref) bs
  | [], _, [], _, _, _ => .nil
  | [], _, _ :: _, hl, _, _ => by simp at hl
  | _ :: _, _, [], hl, _, _ => by simp at hl
  | _ :: _, [], _ :: _, _, hl, _ => by simp at hl
  | t :: ts, l :: ls, b :: bs, hl, hl2, h => by
    obtain ⟨q1, q2⟩ := h 0 t l b rfl rfl rfl
    exact .cons ⟨t, l, rfl, q1, q2⟩ (pairedW_of ts ls bs (by simpa using hl) (by simpa using hl2) fun i t' l' b' a1 a2 a3 => h (i + 1) t' l' b' (by simpa using a1) (by simpa using a2) (by simpa using a3))
theorem BalsN.w {H0 H : Hp} {D : Addr} {ts ls : List Addr} {bs : List (List Nat × Int)} (B : BalsN H0 H D ts ls bs) : BalsW H (.ref D) bs := ⟨D, _, rfl, B.top, pairedW_of ts ls bs B.lt B.ll B.at_⟩
end Hc
namespace Hc
open PySem PySem.Spec PyProof.Rows L2 Evl
theorem rowV_take {n i : Nat} {g : Nat → Int} (h : i ≤ n) : (rowV n g).take i = rowV i g := by
  unfold rowV
  rw [← List.map_take, List.take_range, Nat.min_eq_left h]
end Hc
namespace Hc
open PySem PySem.Spec PyProof.Rows L2 Evl
/-! ### told ballots, the first one's line made longer, one more behind -/
theorem balsN_neB {H0 H : Hp} {B : Addr} {ts ls : List Addr} {bs : List (List Nat × Int)} (BN : BalsN H0 H B ts ls bs) {i : Nat} {l : Addr} (hl : ls[i]? = some l) : l ≠ B := fun e => by
  subst e
  have hi : i < ls.length := (List.getElem?_eq_some_iff.mp hl).1
  have hb : i < bs.length := by rw [← BN.ll]; exact hi
  have ht : i < ts.length := by rw [BN.lt]; exact hb
  obtain ⟨_, h2⟩ := BN.at_ i _ l _ (List.getElem?_eq_getElem ht) hl (List.getElem?_eq_getElem hb)
  rw [BN.top] at h2
  have h3 : ts.map V.ref = nv bs[i].1 := by injection Option.some.inj h2
  cases hts : ts with
  | nil => rw [hts] at ht; simp at ht
  | cons t0 ts' =>
    rw [hts] at h3
    unfold nv at h3
    cases hb1 : bs[i].1 with
    | nil => rw [hb1] at h3; simp at h3
    | cons k ks =>
      rw [hb1] at h3
      simp at h3
theorem balsW_bent {H0 H H' : Hp} {B tp p : Addr} {ts ls : List Addr} {bs : List (List Nat × Int)} (BN : BalsN H0 H B ts ls bs) (hB : H' B = some (.lst (ts.map V.ref ++ [.ref tp]))) (htp : H' tp = some (.tup [.ref p, .int 1])) (hp : H' p = some (.lst (nv [0])))
    (hl : ∀ l b, ls[0]? = some l → bs[0]? = some b → H' l = some (.lst (nv (b.1 ++ [0])))) (hk : ∀ a o, a ≠ B → ls[0]? ≠ some a → H a = some o → H' a = some o) :
    BalsW H' (.ref B) ((bs.take 1).map (fun b => (b.1 ++ [0], b.2)) ++ bs.drop 1 ++ [([0], 1)]) := by
  refine ⟨B, _, rfl, hB, Paired.append ?_ (.cons ⟨tp, p, rfl, htp, hp⟩ .nil)⟩
  cases hbs : bs with
  | nil =>
    have h1 := BN.lt
    rw [hbs] at h1
    have h2 : ts = [] := List.length_eq_zero_iff.mp h1
    rw [h2]
    exact .nil
  | cons b0 bs' =>
    subst hbs
    have h1 := BN.lt
    have h2 := BN.ll
    cases hts : ts with
    | nil => rw [hts] at h1; simp at h1
    | cons t0 ts' =>
      cases hls : ls with
      | nil => rw [hls] at h2; simp at h2
      | cons l0 ls' =>
        subst hts hls
        have ne0 : ∀ {i : Nat} {t : Addr}, (t0 :: ts')[i]? = some t → t ≠ B ∧ (l0 :: ls')[0]? ≠ some t := fun {i t} ht => by
          have hi : i < (t0 :: ts').length := (List.getElem?_eq_some_iff.mp ht).1
          obtain ⟨q1, q2⟩ := BN.at_ i t _ _ ht (List.getElem?_eq_getElem (by omega : i < (l0 :: ls').length)) (List.getElem?_eq_getElem (by omega : i < (b0 :: bs').length))
          refine ⟨fun e => ?_, fun e => ?_⟩
          · rw [e, BN.top] at q1
            cases q1
          · have e2 : l0 = t := by simpa using e
            obtain ⟨_, q4⟩ := BN.at_ 0 t0 l0 b0 rfl rfl rfl
            rw [e2, q1] at q4
            cases q4
        refine .cons ⟨t0, l0, rfl, ?_, hl l0 b0 rfl rfl⟩ (pairedW_of ts' ls' bs' (by simpa using h1) (by simpa using h2) fun i t l b a1 a2 a3 => ?_)
        · obtain ⟨q1, q2⟩ := BN.at_ 0 t0 l0 b0 rfl rfl rfl
          exact hk _ _ (ne0 (i := 0) rfl).1 (ne0 (i := 0) rfl).2 q1
        · obtain ⟨q1, q2⟩ := BN.at_ (i + 1) t l b (by simpa using a1) (by simpa using a2) (by simpa using a3)
          have n1 := ne0 (i := i + 1) (t := t) (by simpa using a1)
          refine ⟨hk _ _ n1.1 n1.2 q1, hk _ _ (balsN_neB BN (i := i + 1) (by simpa using a2)) (fun e => ?_) q2⟩
          have e2 : l0 = l := by simpa using e
          have := nd_ix BN.nd (i := 0) (j := i + 1) (x := l) (by simpa using e) (by simpa using a2)
          omega
def dLines (bs : List (List Nat × Int)) : PyData := .list (bs.map fun b => .list (b.1.map fun (k : Nat) => .int (k : Int)))
theorem lay_line (ks : List Nat) : (PyData.list (ks.map fun (k : Nat) => .int (k : Int))).canLay0 = true := lay_list _ fun d hd => by
  obtain ⟨j, _, rfl⟩ := List.mem_map.mp hd
  exact lay_int _
theorem lay_lines (bs : List (List Nat × Int)) : (dLines bs).canLay0 = true := lay_list _ fun d hd => by
  obtain ⟨j, _, rfl⟩ := List.mem_map.mp hd
  exact lay_line _
theorem shaped_lines (bs : List (List Nat × Int)) : SeqAt.shaped (dLines bs) = true := shaped_of (lay_lines bs) (depth_list (k := 1) fun d hd => by
  obtain ⟨j, _, rfl⟩ := List.mem_map.mp hd
  refine depth_list (k := 0) fun e he => ?_
  obtain ⟨i, _, rfl⟩ := List.mem_map.mp he
  exact depth_int _) (by decide)
theorem dp_nv {K : PySem.W.Frag} {H : Hp} {a : Addr} {ks : List Nat} (h : SqL K H a (nv ks)) : Dp K H (.ref a) (.list (ks.map fun (k : Nat) => .int (k : Int))) := by
  rw [nv_iv] at h
  have e := dp_ints h
  rw [List.map_map] at e
  exact e
theorem dp_lines {K : PySem.W.Frag} {H : Hp} {a : Addr} {ps : List Addr} {bs : List (List Nat × Int)} (h : H a = some (.lst (ps.map V.ref))) (hl : ps.length = bs.length) (hp : ∀ (i : Nat) (p : Addr) (b : List Nat × Int), ps[i]? = some p → bs[i]? = some b → H p = some (.lst (nv b.1))) : Dp K H (.ref a) (dLines bs) := by
  refine .lst (sq_of h) (dpAll_of (by rw [List.length_map, List.length_map, hl]) fun i x d hx hd => ?_)
  rw [List.getElem?_map] at hx hd
  cases e : ps[i]? with
  | none => rw [e] at hx; cases hx
  | some p =>
    rw [e] at hx
    cases hx
    cases e2 : bs[i]? with
    | none => rw [e2] at hd; cases hd
    | some b =>
      rw [e2] at hd
      cases hd
      exact dp_nv (sq_of (hp i p b e e2))
theorem ecut1 (l : List Addr) : cutV (l.map V.ref) (some 1) none = (l.drop 1).map V.ref := by
  rw [show (1 : Int) = ((1 : Nat) : Int) from rfl, cut_from, List.map_drop]
theorem ecut0 (l : List Addr) : cutV (l.map V.ref) none (some 1) = (l.take 1).map V.ref := by
  rw [show (1 : Int) = ((1 : Nat) : Int) from rfl, cut_to, List.map_take]
end Hc
namespace Hc
open PySem PySem.Spec PyProof.Rows L2 Evl
theorem fldK {X : Cx} {e : Expr} {ta : TE} {f : Str} {pos : Pos} (K : PySem.W.Frag) (he : PE X e ta) (hb : attributeBase e f X.env (eval e X.env) = eval e X.env := by rfl) (h : X.K = K := by rfl) : PE X (.Attribute e f pos) (tFld K ta f) := by
  cases h
  exact pe_fld he hb
end Hc
namespace Hc
open PySem PySem.Spec PyProof.Rows L2 Evl
theorem rowV_reverse {n : Nat} {g : Nat → Int} : (rowV n g).reverse = rowV n (fun j => g (n - 1 - j)) := by
  apply List.ext_getElem?
  intro j
  by_cases hj : j < n
  · rw [List.getElem?_reverse (by rw [rowV_length]; exact hj), rowV_length, rowV_get (by omega), rowV_get hj]
  · rw [List.getElem?_eq_none (by rw [List.length_reverse, rowV_length]; omega), List.getElem?_eq_none (by rw [rowV_length]; omega)]
/-! ### written tables -/
def litF (ls : List (List Int)) (i j : Nat) : Int := (ls.getD i []).getD j 0
theorem rowV_lit {n : Nat} {l : List Int} (h : l.length = n) : rowV n (fun j => l.getD j 0) = iv l := by
  apply List.ext_getElem?
  intro j
  by_cases hj : j < n
  · unfold iv
    rw [rowV_get hj, List.getElem?_map, List.getElem?_eq_getElem (by omega), List.getD_eq_getElem?_getD, List.getElem?_eq_getElem (by omega)]
    rfl
  · rw [List.getElem?_eq_none (by rw [rowV_length]; omega), List.getElem?_eq_none (by rw [iv_length]; omega)]
theorem tabR_lit {K : PySem.W.Frag} {H : Hp} {t : Addr} {rs : List Addr} (ls : List (List Int)) (top : H t = some (.lst (rs.map V.ref))) (hsq : ∀ l ∈ ls, l.length = ls.length) (hr : Paired (fun r l => H r = some (.lst (iv l))) rs ls) : TabR K H (.ref t) ls.length (litF ls) := by
  refine ⟨t, rs, rfl, Paired.len hr, sq_of top, fun i r h => ?_⟩
  obtain ⟨l, h1, h2⟩ := Paired.get hr h
  have e : rowV ls.length (litF ls i) = iv l := by
    rw [← rowV_lit (hsq l (List.mem_of_getElem? h1))]
    refine rowV_congr fun j _ => ?_
    unfold litF
    rw [show ls.getD i [] = l by rw [List.getD_eq_getElem?_getD, h1]; rfl]
  rw [e]
  exact sq_of h2
end Hc
namespace Hc
open PySem PySem.Spec PyProof.Rows L2 Evl
theorem catTK {X : Cx} (K : PySem.W.Frag) (h : X.K = K := by rfl) : OpR X (binaryOp .Add) (rCatT K) := by cases h; exact op_catT
theorem ex_rem {H H' : Hp} {F : Addr} (e : Ex H H') (hF : H F = none) : Ex H (rem H' F) := fun a o ha => by
  rw [rem_ne (ne_of_fresh ha hF)]
  exact e a o ha
end Hc
namespace Hc
open PySem PySem.Spec PyProof.Rows L2 Evl
/-! ### a list of lists of ballots that grows -/
def GoodB (H : Hp) (x : V) : Prop := ∃ bs, BalsW H x bs ∧ bs.length ≤ 100 ∧ ∀ b ∈ bs, b.1.length < 60
theorem GoodB.mono {H H' : Hp} {x : V} (h : GoodB H x) (e : Ex H H') : GoodB H' x := by
  obtain ⟨bs, h1, h2, h3⟩ := h
  exact ⟨bs, h1.mono e, h2, h3⟩
def Tried (H : Hp) (F : Addr) (k : Nat) : Prop := ∃ xs, H F = some (.lst xs) ∧ xs.length ≤ k ∧ ∀ x ∈ xs, GoodB (rem H F) x
theorem Tried.push {H' H'' : Hp} {F : Addr} {k : Nat} {xs : List V} {p : V} (hl : xs.length ≤ k) (h : ∀ x ∈ xs, GoodB (rem H' F) x) (e : Ex H' H'') (hp : GoodB (rem H'' F) p) : Tried (upd H'' F (.lst (xs ++ [p]))) F (k + 1) := by
  refine ⟨_, upd_same, by rw [List.length_append]; show _ + 1 ≤ _; omega, fun x hx => ?_⟩
  rw [rem_upd]
  rcases List.mem_append.mp hx with hx | hx
  · exact (h x hx).mono (rem_mono e)
  · have : x = p := by simpa using hx
    rw [this]
    exact hp
theorem BalsN.remW {H0 H : Hp} {F D : Addr} {ts ls : List Addr} {bs : List (List Nat × Int)} (B : BalsN H0 H D ts ls bs) (hF : H0 F ≠ none) : BalsW (Hc.rem H F) (.ref D) bs := by
  have ne : ∀ a, H0 a = none → a ≠ F := fun a h e => hF (by rw [← e]; exact h)
  refine ⟨D, _, rfl, by rw [rem_ne (ne _ B.fD)]; exact B.top, pairedW_of ts ls bs B.lt B.ll fun i t l b ht hl hb => ?_⟩
  rw [rem_ne (ne _ (B.ft t (List.mem_of_getElem? ht))), rem_ne (ne _ (B.fl l (List.mem_of_getElem? hl)))]
  exact B.at_ i t l b ht hl hb
/-- ballots and more behind -/
theorem goodB_cat {H : Hp} {a : Addr} {xs ys : List V} {bs cs : List (List Nat × Int)} (h : H a = some (.lst (xs ++ ys))) (h1 : Paired (BalW H) xs bs) (h2 : Paired (BalW H) ys cs) (hl : bs.length + cs.length ≤ 100) (k1 : ∀ b ∈ bs, b.1.length < 60) (k2 : ∀ b ∈ cs, b.1.length < 60) : GoodB H (.ref a) :=
  ⟨bs ++ cs, ⟨a, _, rfl, h, Paired.append h1 h2⟩, by rw [List.length_append]; exact hl, fun b hb => (List.mem_append.mp hb).elim (k1 b) (k2 b)⟩
theorem rep_nv (n : Nat) : (List.replicate n [V.int 0]).flatten = nv (List.replicate n 0) := by
  unfold nv
  rw [List.map_replicate]
  induction n with
  | zero => rfl
  | succ n ih => rw [List.replicate_succ, List.flatten_cons, ih, List.replicate_succ]; rfl
end Hc
namespace Hc
open PySem PySem.Spec PyProof.Rows L2 Evl
theorem named {H H' : Hp} (e : Ex H H') : ∃ H5, H5 = H' := ⟨_, rfl⟩
end Hc

/-! Plain laws of rings and of lists without a thing twice: no program in sight. -/
namespace Hc
theorem perm_of_sub : ∀ (d l : List Int), d.Nodup → (∀ x ∈ d, x ∈ l) → l.length ≤ d.length → d.Perm l
  | [], l, _, _, hl => by
    have : l = [] := List.length_eq_zero_iff.mp (by simpa using hl)
    rw [this]
  | x :: d, l, hd, hs, hl => by
    rw [List.nodup_cons] at hd
    have hx : x ∈ l := hs x (List.mem_cons_self ..)
    have h1 : l.Perm (x :: l.erase x) := List.perm_cons_erase hx
    have h2 : d.Perm (l.erase x) := by
      refine perm_of_sub d (l.erase x) hd.2 (fun y hy => ?_) ?_
      · have hy2 : y ∈ l := hs y (List.mem_cons_of_mem _ hy)
        have hne : y ≠ x := fun e => hd.1 (e ▸ hy)
        exact (List.mem_erase_of_ne hne).mpr hy2
      · rw [List.length_erase_of_mem hx]
        have : l.length ≤ d.length + 1 := by simpa using hl
        omega
    exact (h2.cons x).trans h1.symm
theorem sub_len (d l : List Int) (hd : d.Nodup) (hs : ∀ x ∈ d, x ∈ l) : d.length ≤ l.length := by
  induction d generalizing l with
  | nil => simp
  | cons x d ih =>
    rw [List.nodup_cons] at hd
    have hx : x ∈ l := hs x (List.mem_cons_self ..)
    have h2 := ih (l.erase x) hd.2 (fun y hy => by
      have hy2 : y ∈ l := hs y (List.mem_cons_of_mem _ hy)
      have hne : y ≠ x := fun e => hd.1 (e ▸ hy)
      exact (List.mem_erase_of_ne hne).mpr hy2)
    rw [List.length_erase_of_mem hx] at h2
    have := List.length_pos_of_mem hx
    rw [List.length_cons]
    omega
theorem set_len {d l : List Int} (hd : d.Nodup) (hm : ∀ x, x ∈ d ↔ x ∈ l) : d.length = l.length ↔ l.Nodup := by
  constructor
  · intro h
    exact (perm_of_sub d l hd (fun x hx => (hm x).mp hx) (by omega)).nodup hd
  · intro h
    exact ((List.perm_ext_iff_of_nodup hd h).mpr hm).length_eq
/-! ### around -/
def at0 (ns : List Int) (i : Nat) : Int := ns.getD i 0
def ringBack (f : Nat → Nat → Int) (ns : List Int) : Bool := (List.range ns.length).all fun i => decide (0 < f (at0 ns (if i = 0 then ns.length - 1 else i - 1)).toNat (at0 ns i).toNat)
def ringFore (f : Nat → Nat → Int) (ns : List Int) : Bool := (List.range ns.length).all fun i => decide (0 < f (at0 ns i).toNat (at0 ns (if i + 1 = ns.length then 0 else i + 1)).toNat)
theorem ring_turn (f : Nat → Nat → Int) (ns : List Int) : ringBack f ns = ringFore f ns := by
  unfold ringBack ringFore
  rw [Bool.eq_iff_iff, List.all_eq_true, List.all_eq_true]
  constructor
  · intro h i hi
    rw [List.mem_range] at hi
    by_cases e : i + 1 = ns.length
    · have h1 := of_decide_eq_true (h 0 (List.mem_range.mpr (by omega)))
      rw [if_pos rfl] at h1
      rw [if_pos e]
      rw [show ns.length - 1 = i by omega] at h1
      exact decide_eq_true h1
    · have h1 := of_decide_eq_true (h (i + 1) (List.mem_range.mpr (by omega)))
      rw [if_neg (by omega), show i + 1 - 1 = i by omega] at h1
      rw [if_neg e]
      exact decide_eq_true h1
  · intro h i hi
    rw [List.mem_range] at hi
    by_cases e : i = 0
    · subst e
      have h1 := of_decide_eq_true (h (ns.length - 1) (List.mem_range.mpr (by omega)))
      rw [if_pos (by omega)] at h1
      rw [if_pos rfl]
      exact decide_eq_true h1
    · have h1 := of_decide_eq_true (h (i - 1) (List.mem_range.mpr (by omega)))
      rw [if_neg (by omega), show i - 1 + 1 = i by omega] at h1
      rw [if_neg e]
      exact decide_eq_true h1
def inB (n : Nat) (k : Int) : Bool := decide (0 ≤ k) && decide (k < (n : Int))
def shN (n : Nat) (f : Nat → Nat → Int) (w : Int) : Bool := inB n w && (List.range n).all fun j => decide (0 ≤ f w.toNat j)
def shR (n : Nat) (f : Nat → Nat → Int) (ns : List Int) : Bool := !ns.isEmpty && (decide ns.Nodup && (ns.all (inB n) && ringBack f ns))
end Hc

/-! Plain laws of strongest chains: no program in sight. -/
namespace Hc
/-- one more candidate let in between -/
def phase (m : Nat) (g : Nat → Nat → Int) (i j : Nat) : Int := if i ≠ j ∧ m ≠ i ∧ m ≠ j then max (g i j) (min (g i m) (g m j)) else g i j
def wid (f : Nat → Nat → Int) : Nat → Nat → Nat → Int
  | 0 => f
  | m + 1 => phase m (wid f m)
theorem phase_col (m : Nat) (g : Nat → Nat → Int) (i : Nat) : phase m g i m = g i m := if_neg fun h => h.2.2 rfl
theorem phase_row (m : Nat) (g : Nat → Nat → Int) (j : Nat) : phase m g m j = g m j := if_neg fun h => h.2.1 rfl
theorem phase_ge (m : Nat) (g : Nat → Nat → Int) (i j : Nat) : g i j ≤ phase m g i j := by
  unfold phase
  split <;> omega
/-- chains over those let in are no stronger -/
def Closed (m : Nat) (g : Nat → Nat → Int) : Prop := ∀ i j k, k < m → i ≠ j → k ≠ i → k ≠ j → min (g i k) (g k j) ≤ g i j
theorem closed_phase {m : Nat} {g : Nat → Nat → Int} (h : Closed m g) : Closed (m + 1) (phase m g) := fun i j k hk hij hki hkj => by
  by_cases e : k = m
  · subst e
    rw [phase_col, phase_row]
    unfold phase
    rw [if_pos ⟨hij, hki, hkj⟩]
    omega
  · have hkm : k < m := by omega
    have h1 := h i j k hkm hij hki hkj
    by_cases ei : i = m
    · subst ei
      rw [phase_row, phase_row]
      unfold phase
      rw [if_pos ⟨hkj, hki.symm, hij⟩]
      omega
    · by_cases ej : j = m
      · subst ej
        rw [phase_col, phase_col]
        unfold phase
        rw [if_pos ⟨hki.symm, fun q => hij q.symm, hkj.symm⟩]
        omega
      · have h2 := h i m k hkm ei hki e
        have h3 := h m j k hkm (fun q => ej q.symm) e hkj
        unfold phase
        rw [if_pos ⟨hki.symm, fun q => ei q.symm, fun q => e q.symm⟩, if_pos ⟨hkj, fun q => e q.symm, fun q => ej q.symm⟩, if_pos ⟨hij, fun q => ei q.symm, fun q => ej q.symm⟩]
        omega
theorem closed_wid (f : Nat → Nat → Int) : ∀ m, Closed m (wid f m)
  | 0 => fun _ _ _ h => by omega
  | m + 1 => closed_phase (closed_wid f m)
theorem wid_ge (f : Nat → Nat → Int) (i j : Nat) : ∀ m, f i j ≤ wid f m i j
  | 0 => Int.le_refl _
  | m + 1 => Int.le_trans (wid_ge f i j m) (phase_ge m _ i j)
theorem wid_self (f : Nat → Nat → Int) (i : Nat) : ∀ m, wid f m i i = f i i
  | 0 => rfl
  | m + 1 => by
    show phase m (wid f m) i i = f i i
    unfold phase
    rw [if_neg (fun h => h.1 rfl)]
    exact wid_self f i m
/-- whom chains reach whose numbers are all no less than L -/
inductive Reach (n : Nat) (f : Nat → Nat → Int) (L : Int) (i : Nat) : Nat → Prop where
  | me : Reach n f L i i
  | on {k j : Nat} (h : Reach n f L i k) (hk : k < n) (hj : j < n) (e : L ≤ f k j) : Reach n f L i j
theorem Reach.trans {n : Nat} {f : Nat → Nat → Int} {L : Int} {i k j : Nat} (a : Reach n f L i k) (b : Reach n f L k j) : Reach n f L i j := by
  induction b with
  | me => exact a
  | on _ hk hj e ih => exact .on ih hk hj e
theorem wid_reach {n : Nat} {f : Nat → Nat → Int} {L : Int} : ∀ m, m ≤ n → ∀ i j, i < n → j < n → i ≠ j → L ≤ wid f m i j → Reach n f L i j
  | 0, _, i, j, hi, hj, _, h => .on .me hi hj h
  | m + 1, hm, i, j, hi, hj, hij, h => by
    have h2 : L ≤ phase m (wid f m) i j := h
    unfold phase at h2
    by_cases c : i ≠ j ∧ m ≠ i ∧ m ≠ j
    · rw [if_pos c] at h2
      by_cases c2 : L ≤ wid f m i j
      · exact wid_reach m (by omega) i j hi hj hij c2
      · exact (wid_reach m (by omega) i m hi (by omega) (fun q => c.2.1 q.symm) (by omega)).trans (wid_reach m (by omega) m j (by omega) hj c.2.2 (by omega))
    · rw [if_neg c] at h2
      exact wid_reach m (by omega) i j hi hj hij h2
theorem reach_wid {n : Nat} {f : Nat → Nat → Int} {L : Int} {i j : Nat} (h : Reach n f L i j) : i ≠ j → L ≤ wid f n i j := by
  induction h with
  | me => exact fun h => absurd rfl h
  | @on k j h hk hj e ih =>
    intro hij
    have h1 : L ≤ wid f n k j := Int.le_trans e (wid_ge f k j n)
    by_cases c : i = k
    · subst c
      exact h1
    · by_cases c2 : k = j
      · subst c2
        exact ih c
      · have h2 := ih c
        have h3 := closed_wid f n i j k hk hij (fun q => c q.symm) c2
        omega
/-- each strength is one of the numbers -/
theorem wid_mem (f : Nat → Nat → Int) (n : Nat) : ∀ m, m ≤ n → ∀ i j, i < n → j < n → i ≠ j → ∃ a b, a < n ∧ b < n ∧ a ≠ b ∧ wid f m i j = f a b
  | 0, _, i, j, hi, hj, hij => ⟨i, j, hi, hj, hij, rfl⟩
  | m + 1, hm, i, j, hi, hj, hij => by
    show ∃ a b, a < n ∧ b < n ∧ a ≠ b ∧ phase m (wid f m) i j = f a b
    unfold phase
    by_cases c : i ≠ j ∧ m ≠ i ∧ m ≠ j
    · rw [if_pos c]
      by_cases c1 : min (wid f m i m) (wid f m m j) ≤ wid f m i j
      · rw [show max (wid f m i j) (min (wid f m i m) (wid f m m j)) = wid f m i j by omega]
        exact wid_mem f n m (by omega) i j hi hj hij
      · by_cases c2 : wid f m i m ≤ wid f m m j
        · rw [show max (wid f m i j) (min (wid f m i m) (wid f m m j)) = wid f m i m by omega]
          exact wid_mem f n m (by omega) i m hi (by omega) fun q => c.2.1 q.symm
        · rw [show max (wid f m i j) (min (wid f m i m) (wid f m m j)) = wid f m m j by omega]
          exact wid_mem f n m (by omega) m j (by omega) hj c.2.2
    · rw [if_neg c]
      exact wid_mem f n m (by omega) i j hi hj hij
/-! ### an order -/
/-- stronger there than back goes on -/
theorem beats_trans {n : Nat} {p : Nat → Nat → Int} (h : Closed n p) {a b c : Nat} (ha : a < n) (hb : b < n) (hc : c < n) (h1 : p b a < p a b) (h2 : p c b < p b c) : p c a < p a c := by
  have n1 : a ≠ b := fun e => by subst e; omega
  have n2 : b ≠ c := fun e => by subst e; omega
  by_cases n3 : a = c
  · subst n3
    omega
  · have k1 := h a c b hb n3 (fun e => n1 e.symm) n2
    have k2 := h b a c hc (fun e => n1 e.symm) (fun e => n2 e.symm) (fun e => n3 e.symm)
    have k3 := h c b a ha (fun e => n2 e.symm) n3 n1
    omega
theorem free_one {n : Nat} {p : Nat → Nat → Int} (h : Closed n p) : ∀ l : List Nat, l ≠ [] → (∀ x ∈ l, x < n) → ∃ x ∈ l, ∀ y ∈ l, p y x ≤ p x y
  | [], h0, _ => absurd rfl h0
  | [a], _, _ => ⟨a, by simp, fun y hy => by
    have : y = a := by simpa using hy
    rw [this]
    exact Int.le_refl _⟩
  | a :: b :: l, _, hl => by
    obtain ⟨x, hx, hm⟩ := free_one h (b :: l) (by simp) fun z hz => hl z (List.mem_cons_of_mem _ hz)
    have hxn := hl x (List.mem_cons_of_mem _ hx)
    have han := hl a (List.mem_cons_self ..)
    by_cases c : p a x ≤ p x a
    · exact ⟨x, List.mem_cons_of_mem _ hx, fun y hy => (List.mem_cons.mp hy).elim (fun e => e ▸ c) (hm y)⟩
    · refine ⟨a, List.mem_cons_self .., fun y hy => ?_⟩
      rcases List.mem_cons.mp hy with e | hy
      · rw [e]
        exact Int.le_refl _
      · by_cases c2 : p y a ≤ p a y
        · exact c2
        · have k := beats_trans h (hl y (List.mem_cons_of_mem _ hy)) han hxn (by omega) (by omega)
          have := hm y hy
          omega
def isFree (p : Nat → Nat → Int) (l : List Nat) (x : Nat) : Bool := l.all fun y => decide (p y x ≤ p x y)
/-- the first free one, then the rest -/
def ordGo (p : Nat → Nat → Int) : Nat → List Nat → List Nat
  | 0, _ => []
  | k + 1, l => match l.find? (isFree p l) with
    | some x => x :: ordGo p k (l.erase x)
    | none => []
def ordF (p : Nat → Nat → Int) (n : Nat) : List Nat := ordGo p n (List.range n)
theorem ordGo_good {n : Nat} {p : Nat → Nat → Int} (h : Closed n p) : ∀ (k : Nat) (l : List Nat), l.length = k → (∀ x ∈ l, x < n) → (ordGo p k l).Perm l ∧ (ordGo p k l).Pairwise fun a b => p b a ≤ p a b
  | 0, l, hk, _ => by
    rw [List.length_eq_zero_iff.mp hk]
    exact ⟨List.Perm.refl _, List.Pairwise.nil⟩
  | k + 1, l, hk, hl => by
    obtain ⟨x, hx, hm⟩ := free_one h l (fun e => by rw [e] at hk; simp at hk) hl
    have hfx : isFree p l x = true := List.all_eq_true.mpr fun y hy => decide_eq_true (hm y hy)
    show (match l.find? (isFree p l) with | some x => x :: ordGo p k (l.erase x) | none => []).Perm l ∧ List.Pairwise _ (match l.find? (isFree p l) with | some x => x :: ordGo p k (l.erase x) | none => [])
    cases hf : l.find? (isFree p l) with
    | none => exact absurd hfx (by simpa using List.find?_eq_none.mp hf x hx)
    | some z =>
      have hz : z ∈ l := List.mem_of_find?_eq_some hf
      have hzf := List.find?_some hf
      obtain ⟨i1, i2⟩ := ordGo_good h k (l.erase z) (by rw [List.length_erase_of_mem hz, hk]; rfl) fun y hy => hl y (List.mem_of_mem_erase hy)
      refine ⟨(i1.cons z).trans (List.perm_cons_erase hz).symm, List.pairwise_cons.mpr ⟨fun y hy => ?_, i2⟩⟩
      exact of_decide_eq_true (List.all_eq_true.mp hzf y (List.mem_of_mem_erase (i1.mem_iff.mp hy)))
theorem ordF_good (f : Nat → Nat → Int) (n : Nat) : (ordF (wid f n) n).Perm (List.range n) ∧ (ordF (wid f n) n).Pairwise fun a b => wid f n b a ≤ wid f n a b :=
  ordGo_good (closed_wid f n) n _ List.length_range fun x hx => List.mem_range.mp hx
/-! ### the strengths, one after the other -/
/-- what stands in a cell when the first k numbers of a rising list are done -/
def cur (w : Nat → Nat → Int) (ls : List Int) : Nat → Nat → Nat → Int
  | 0, _, _ => 0
  | k + 1, i, j => if i ≠ j ∧ ls.getD k 0 ≤ w i j then ls.getD k 0 else cur w ls k i j
theorem cur_self (w : Nat → Nat → Int) (ls : List Int) (i : Nat) : ∀ k, cur w ls k i i = 0
  | 0 => rfl
  | k + 1 => by
    show (if i ≠ i ∧ _ then _ else _) = _
    rw [if_neg (fun h => h.1 rfl)]
    exact cur_self w ls i k
theorem cur_end {w : Nat → Nat → Int} {ls : List Int} {i j : Nat} (hs : ls.Pairwise (· < ·)) (hij : i ≠ j) (hm : w i j ∈ ls) : cur w ls ls.length i j = w i j := by
  obtain ⟨p, hp, e⟩ := List.mem_iff_getElem.mp hm
  have at_ : ∀ q (hq : q < ls.length), ls.getD q 0 = ls[q] := fun q hq => by
    rw [List.getD_eq_getElem?_getD, List.getElem?_eq_getElem hq]
    rfl
  have up : ∀ k, p < k → k ≤ ls.length → cur w ls k i j = w i j := by
    intro k
    induction k with
    | zero => omega
    | succ k ih =>
      intro h1 h2
      show (if i ≠ j ∧ ls.getD k 0 ≤ w i j then ls.getD k 0 else cur w ls k i j) = w i j
      rw [at_ k (by omega)]
      by_cases c : k = p
      · subst c
        rw [if_pos ⟨hij, by omega⟩, e]
      · have := List.pairwise_iff_getElem.mp hs p k hp (by omega) (by omega)
        rw [if_neg (by omega)]
        exact ih (by omega) (by omega)
  exact up ls.length hp (Nat.le_refl _)
end Hc

/-! Plain laws of peaked orders: no program in sight. -/
namespace Hc
/-- falls off both ways: from lo to hi are taken -/
def pk : Int → Int → List Nat → Bool
  | _, _, [] => true
  | lo, hi, x :: l => if (x : Int) = lo - 1 then pk x hi l else if (x : Int) = hi + 1 then pk lo x l else false
def isPk : List Nat → Bool
  | [] => true
  | x :: l => pk x x l
/-- a peaked rest: whoever lies between what is taken and another one stands ahead of it -/
theorem pk_between : ∀ (l : List Nat) (lo hi : Int), lo ≤ hi → pk lo hi l = true → ∀ a b : Nat, b ∈ l → (hi < (a : Int) ∧ a < b) ∨ ((a : Int) < lo ∧ b < a) → ∃ p q, l = p ++ q ∧ a ∈ p ∧ b ∈ q
  | [], _, _, _, _, _, _, hb, _ => by simp at hb
  | x :: l, lo, hi, hlh, h, a, b, hb, hab => by
    unfold pk at h
    by_cases e : a = x
    · subst e
      refine ⟨[a], l, rfl, by simp, ?_⟩
      rcases List.mem_cons.mp hb with q | q
      · omega
      · exact q
    · by_cases c1 : (x : Int) = lo - 1
      · rw [if_pos c1] at h
        have hbl : b ∈ l := (List.mem_cons.mp hb).resolve_left fun q => by omega
        obtain ⟨p, q, e1, e2, e3⟩ := pk_between l x hi (by omega) h a b hbl (by omega)
        exact ⟨x :: p, q, by rw [e1]; rfl, List.mem_cons_of_mem _ e2, e3⟩
      · rw [if_neg c1] at h
        by_cases c2 : (x : Int) = hi + 1
        · rw [if_pos c2] at h
          have hbl : b ∈ l := (List.mem_cons.mp hb).resolve_left fun q => by omega
          obtain ⟨p, q, e1, e2, e3⟩ := pk_between l lo x (by omega) h a b hbl (by omega)
          exact ⟨x :: p, q, by rw [e1]; rfl, List.mem_cons_of_mem _ e2, e3⟩
        · rw [if_neg c2] at h
          cases h
/-- in a peaked order one between the top and another one is ahead of it -/
theorem isPk_ahead {x : Nat} {l : List Nat} (h : isPk (x :: l) = true) {a b : Nat} (hb : b ∈ x :: l) (hab : (x ≤ a ∧ a < b) ∨ (a ≤ x ∧ b < a)) : ∃ p q, x :: l = p ++ q ∧ a ∈ p ∧ b ∈ q := by
  have hbl : b ∈ l := (List.mem_cons.mp hb).resolve_left fun q => by omega
  by_cases e : a = x
  · subst e
    exact ⟨[a], l, rfl, by simp, hbl⟩
  · obtain ⟨p, q, e1, e2, e3⟩ := pk_between l x x (Int.le_refl _) h a b hbl (by omega)
    exact ⟨x :: p, q, by rw [e1]; rfl, List.mem_cons_of_mem _ e2, e3⟩
/-! ### ahead, by the count of pairs -/
theorem psum_append (i j : Nat) : ∀ p q : List Nat, psum i j (p ++ q) = psum i j p + psum i j q + (p.map fun a => dsum i j a q).sum
  | [], q => by show psum i j q = 0 + psum i j q + 0; omega
  | a :: p, q => by
    show dsum i j a (p ++ q) + psum i j (p ++ q) = dsum i j a p + psum i j p + psum i j q + (dsum i j a q + (p.map fun a => dsum i j a q).sum)
    rw [dsum_append, psum_append i j p q]
    omega
theorem dsum_none (i j a : Nat) : ∀ l : List Nat, (i ∉ l → j ∉ l → dsum i j a l = 0)
  | [], _, _ => rfl
  | b :: l, hi, hj => by
    rw [dsum_cons, dsum_none i j a l (fun h => hi (List.mem_cons_of_mem _ h)) fun h => hj (List.mem_cons_of_mem _ h)]
    have h1 : b ≠ i := fun e => hi (e ▸ List.mem_cons_self ..)
    have h2 : b ≠ j := fun e => hj (e ▸ List.mem_cons_self ..)
    unfold dlt
    rw [if_neg (fun z => h2 z.2), if_neg (fun z => h1 z.1)]
    rfl
theorem dsum_other (i j a : Nat) (hi : a ≠ i) (hj : a ≠ j) : ∀ l : List Nat, dsum i j a l = 0
  | [] => rfl
  | b :: l => by
    rw [dsum_cons, dsum_other i j a hi hj l]
    unfold dlt
    rw [if_neg (fun z => hi z.1), if_neg (fun z => hj z.2)]
    rfl
/-- an order without a thing twice, a ahead of b: one for a -/
theorem psum_ahead {a b : Nat} (hab : a ≠ b) : ∀ {l : List Nat}, l.Nodup → ∀ p q, l = p ++ q → a ∈ p → b ∈ q → psum a b l = 1
  | [], _, p, q, e, ha, _ => by
    have : p = [] := (List.append_eq_nil_iff.mp e.symm).1
    rw [this] at ha
    cases ha
  | x :: l, hd, p, q, e, ha, hb => by
    cases p with
    | nil => cases ha
    | cons y p =>
      have e2 : x = y ∧ l = p ++ q := by simpa using e
      obtain ⟨rfl, rfl⟩ := e2
      rw [List.nodup_cons] at hd
      show dsum a b x (p ++ q) + psum a b (p ++ q) = 1
      by_cases c : a = x
      · subst c
        have hbm : b ∈ p ++ q := List.mem_append_right _ hb
        have h1 : ∀ l : List Nat, l.Nodup → b ∈ l → a ∉ l → dsum a b a l = 1 := by
          intro l
          induction l with
          | nil => intro _ h _; cases h
          | cons z l ih =>
            intro hn hm hna
            rw [List.nodup_cons] at hn
            rw [dsum_cons]
            have hza : z ≠ a := fun e => hna (e ▸ List.mem_cons_self ..)
            by_cases cz : z = b
            · subst cz
              rw [dsum_none a z a l (fun h => hna (List.mem_cons_of_mem _ h)) hn.1]
              unfold dlt
              rw [if_pos ⟨rfl, rfl⟩, if_neg (fun w => hza w.1)]
              rfl
            · rw [ih hn.2 ((List.mem_cons.mp hm).resolve_left fun e => cz e.symm) fun h => hna (List.mem_cons_of_mem _ h)]
              unfold dlt
              rw [if_neg (fun w => cz w.2), if_neg (fun w => hza w.1)]
              rfl
        have h2 : ∀ l : List Nat, a ∉ l → psum a b l = 0 := by
          intro l
          induction l with
          | nil => intro _; rfl
          | cons z l ih =>
            intro hna
            show dsum a b z l + psum a b l = 0
            rw [ih fun h => hna (List.mem_cons_of_mem _ h)]
            have hza : z ≠ a := fun e => hna (e ▸ List.mem_cons_self ..)
            by_cases cz : z = b
            · subst cz
              have h3 : ∀ l : List Nat, a ∉ l → dsum a z z l = 0 := by
                intro l
                induction l with
                | nil => intro _; rfl
                | cons u l ih2 =>
                  intro hn2
                  rw [dsum_cons, ih2 fun h => hn2 (List.mem_cons_of_mem _ h)]
                  have hua : u ≠ a := fun e => hn2 (e ▸ List.mem_cons_self ..)
                  unfold dlt
                  rw [if_neg (fun w => hza w.1), if_neg (fun w => hua w.1)]
                  rfl
              rw [h3 l fun h => hna (List.mem_cons_of_mem _ h)]
              rfl
            · rw [dsum_other a b z hza cz l]
              rfl
        rw [h1 _ hd.2 hbm hd.1, h2 _ hd.1]
        rfl
      · have hap : a ∈ p := (List.mem_cons.mp ha).resolve_left c
        have hxb : x ≠ b := fun e => hd.1 (e ▸ List.mem_append_right _ hb)
        rw [dsum_other a b x (fun e => c e.symm) hxb, psum_ahead hab hd.2 p q rfl hap hb]
        rfl
theorem one_ahead {a b : Nat} (hab : a ≠ b) : ∀ {l : List Nat}, a ∈ l → b ∈ l → (∃ p q, l = p ++ q ∧ a ∈ p ∧ b ∈ q) ∨ (∃ p q, l = p ++ q ∧ b ∈ p ∧ a ∈ q)
  | [], h, _ => by cases h
  | x :: l, ha, hb => by
    by_cases c1 : a = x
    · exact .inl ⟨[x], l, rfl, by simp [c1], (List.mem_cons.mp hb).resolve_left fun e => hab (c1.trans e.symm)⟩
    · by_cases c2 : b = x
      · exact .inr ⟨[x], l, rfl, by simp [c2], (List.mem_cons.mp ha).resolve_left c1⟩
      · rcases one_ahead hab ((List.mem_cons.mp ha).resolve_left c1) ((List.mem_cons.mp hb).resolve_left c2) with ⟨p, q, e, h1, h2⟩ | ⟨p, q, e, h1, h2⟩
        · exact .inl ⟨x :: p, q, by rw [e]; rfl, List.mem_cons_of_mem _ h1, h2⟩
        · exact .inr ⟨x :: p, q, by rw [e]; rfl, List.mem_cons_of_mem _ h1, h2⟩
theorem psum_low {a b : Nat} (hab : a ≠ b) {l : List Nat} (hd : l.Nodup) (ha : a ∈ l) (hb : b ∈ l) : -1 ≤ psum a b l := by
  rcases one_ahead hab ha hb with ⟨p, q, e, h1, h2⟩ | ⟨p, q, e, h1, h2⟩
  · rw [psum_ahead hab hd p q e h1 h2]
    decide
  · have := psum_ahead (fun e => hab e.symm) hd p q e h1 h2
    rw [psum_swap b a l, this]
    decide
/-! ### the middle one's top -/
def topOf (b : List Nat × Int) : Nat := b.1.headD 0
def held (bs : List (List Nat × Int)) (w : Nat) : Int := (bs.map fun b => if topOf b ≤ w then b.2 else 0).sum
def heldB (bs : List (List Nat × Int)) (w : Nat) : Int := (bs.map fun b => if topOf b < w then b.2 else 0).sum
def wholeOf (bs : List (List Nat × Int)) : Int := (bs.map fun b => b.2).sum
theorem heldB_succ (bs : List (List Nat × Int)) (w : Nat) : heldB bs (w + 1) = held bs w := by
  unfold heldB held
  congr 1
  refine List.map_congr_left fun b _ => ?_
  by_cases h : topOf b ≤ w
  · rw [if_pos h, if_pos (by omega)]
  · rw [if_neg h, if_neg (by omega)]
/-- what is asked of each ballot -/
def PkB (n : Nat) (b : List Nat × Int) : Prop := b.1.Perm (List.range n) ∧ isPk b.1 = true ∧ 1 ≤ b.2
theorem pkB_ahead {n : Nat} {b : List Nat × Int} (h : PkB n b) {w o : Nat} (hw : w < n) (ho : o < n) (hab : (topOf b ≤ w ∧ w < o) ∨ (w ≤ topOf b ∧ o < w)) : psum w o b.1 = 1 := by
  obtain ⟨l, m⟩ := b
  cases l with
  | nil =>
    have := h.1.length_eq
    rw [List.length_range] at this
    simp at this
    omega
  | cons x l =>
    have hm : ∀ k, k < n → k ∈ x :: l := fun k hk => h.1.mem_iff.mpr (List.mem_range.mpr hk)
    obtain ⟨p, q, e, h1, h2⟩ := isPk_ahead h.2.1 (hm o ho) hab
    exact psum_ahead (by omega) (h.1.nodup_iff.mpr List.nodup_range) p q e h1 h2
theorem pkB_low {n : Nat} {b : List Nat × Int} (h : PkB n b) {w o : Nat} (hw : w < n) (ho : o < n) (hne : w ≠ o) : -1 ≤ psum w o b.1 :=
  psum_low hne (h.1.nodup_iff.mpr List.nodup_range) (h.1.mem_iff.mpr (List.mem_range.mpr hw)) (h.1.mem_iff.mpr (List.mem_range.mpr ho))
theorem cnt_high {n w o : Nat} (hw : w < n) (ho : o < n) (hwo : w < o) : ∀ bs : List (List Nat × Int), (∀ b ∈ bs, PkB n b) → 2 * held bs w - wholeOf bs ≤ cnt bs w o
  | [], _ => by show 2 * 0 - 0 ≤ 0; decide
  | b :: bs, h => by
    have ih := cnt_high hw ho hwo bs fun c hc => h c (List.mem_cons_of_mem _ hc)
    have hb := h b (List.mem_cons_self ..)
    rw [cnt_cons]
    have e1 : held (b :: bs) w = (if topOf b ≤ w then b.2 else 0) + held bs w := by unfold held; rw [List.map_cons, List.sum_cons]
    have e2 : wholeOf (b :: bs) = b.2 + wholeOf bs := by unfold wholeOf; rw [List.map_cons, List.sum_cons]
    rw [e1, e2]
    have hm := hb.2.2
    by_cases c : topOf b ≤ w
    · rw [if_pos c, pkB_ahead hb hw ho (.inl ⟨c, hwo⟩)]
      omega
    · rw [if_neg c]
      have h1 := Int.mul_le_mul_of_nonneg_left (pkB_low hb hw ho (by omega)) (show 0 ≤ b.2 by omega)
      omega
theorem cnt_below {n w o : Nat} (hw : w < n) (ho : o < n) (hwo : o < w) : ∀ bs : List (List Nat × Int), (∀ b ∈ bs, PkB n b) → wholeOf bs - 2 * heldB bs w ≤ cnt bs w o
  | [], _ => by show 0 - 2 * 0 ≤ 0; decide
  | b :: bs, h => by
    have ih := cnt_below hw ho hwo bs fun c hc => h c (List.mem_cons_of_mem _ hc)
    have hb := h b (List.mem_cons_self ..)
    rw [cnt_cons]
    have e1 : heldB (b :: bs) w = (if topOf b < w then b.2 else 0) + heldB bs w := by unfold heldB; rw [List.map_cons, List.sum_cons]
    have e2 : wholeOf (b :: bs) = b.2 + wholeOf bs := by unfold wholeOf; rw [List.map_cons, List.sum_cons]
    rw [e1, e2]
    have hm := hb.2.2
    by_cases c : topOf b < w
    · rw [if_pos c]
      have h1 := Int.mul_le_mul_of_nonneg_left (pkB_low hb hw ho (by omega)) (show 0 ≤ b.2 by omega)
      omega
    · rw [if_neg c, pkB_ahead hb hw ho (.inr ⟨by omega, hwo⟩)]
      omega
/-- nobody is ahead of the middle one's top -/
theorem middle_free {n w : Nat} {bs : List (List Nat × Int)} (hw : w < n) (hb : ∀ b ∈ bs, PkB n b) (h1 : wholeOf bs ≤ 2 * held bs w) (h2 : ∀ v, v < w → 2 * held bs v < wholeOf bs) : ∀ o, o < n → 0 ≤ cnt bs w o := fun o ho => by
  by_cases c1 : w < o
  · have := cnt_high hw ho c1 bs hb
    omega
  · by_cases c2 : o < w
    · have k1 := cnt_below hw ho c2 bs hb
      have k2 := h2 (w - 1) (by omega)
      rw [← heldB_succ, show w - 1 + 1 = w by omega] at k2
      omega
    · have e : o = w := by omega
      subst e
      have := cnt_swap bs o o
      omega
/-! ### the same by a rising list of tops -/
def sumP (l : List (Nat × Int)) : Int := (l.map fun p => p.2).sum
def heldP (l : List (Nat × Int)) (w : Nat) : Int := (l.map fun p => if p.1 ≤ w then p.2 else 0).sum
theorem sumP_append (l m : List (Nat × Int)) : sumP (l ++ m) = sumP l + sumP m := by
  unfold sumP
  rw [List.map_append, sum_append_int]
theorem heldP_append (l m : List (Nat × Int)) (w : Nat) : heldP (l ++ m) w = heldP l w + heldP m w := by
  unfold heldP
  rw [List.map_append, sum_append_int]
theorem heldP_all {w : Nat} : ∀ l : List (Nat × Int), (∀ p ∈ l, p.1 ≤ w) → heldP l w = sumP l
  | [], _ => rfl
  | a :: l, h => by
    have ih := heldP_all l fun p hp => h p (List.mem_cons_of_mem _ hp)
    unfold heldP sumP at ih ⊢
    rw [List.map_cons, List.map_cons, List.sum_cons, List.sum_cons, ih, if_pos (h a (List.mem_cons_self ..))]
theorem heldP_none {w : Nat} : ∀ l : List (Nat × Int), (∀ p ∈ l, w < p.1) → heldP l w = 0
  | [], _ => rfl
  | a :: l, h => by
    have ih := heldP_none l fun p hp => h p (List.mem_cons_of_mem _ hp)
    have ha := h a (List.mem_cons_self ..)
    unfold heldP at ih ⊢
    rw [List.map_cons, List.sum_cons, ih, if_neg (by omega)]
    rfl
theorem heldP_bounds {w : Nat} : ∀ l : List (Nat × Int), (∀ p ∈ l, 1 ≤ p.2) → 0 ≤ heldP l w ∧ heldP l w ≤ sumP l
  | [], _ => ⟨Int.le_refl _, Int.le_refl _⟩
  | a :: l, h => by
    have ih := heldP_bounds (w := w) l fun p hp => h p (List.mem_cons_of_mem _ hp)
    have ha := h a (List.mem_cons_self ..)
    unfold heldP sumP at ih ⊢
    rw [List.map_cons, List.map_cons, List.sum_cons, List.sum_cons]
    by_cases c : a.1 ≤ w
    · rw [if_pos c]
      omega
    · rw [if_neg c]
      omega
/-- the first one at which half is reached has the least such top -/
theorem first_half {pre post : List (Nat × Int)} {x : Nat × Int} {W : Int} (hpos : ∀ p ∈ pre ++ x :: post, 1 ≤ p.2) (hs : (pre ++ x :: post).Pairwise fun a b => a.1 ≤ b.1) (hlow : pre = [] ∨ 2 * sumP pre < W) (h0 : pre = [] → 0 < W) (hx : W ≤ 2 * (sumP pre + x.2)) :
    W ≤ 2 * heldP (pre ++ x :: post) x.1 ∧ ∀ v, v < x.1 → 2 * heldP (pre ++ x :: post) v < W := by
  rw [List.pairwise_append] at hs
  obtain ⟨_, h2, h3⟩ := hs
  rw [List.pairwise_cons] at h2
  have ex : ∀ w, heldP (x :: post) w = (if x.1 ≤ w then x.2 else 0) + heldP post w := fun w => by
    unfold heldP
    rw [List.map_cons, List.sum_cons]
  constructor
  · rw [heldP_append, ex, if_pos (Nat.le_refl _), heldP_all pre fun p hp => h3 p hp x (List.mem_cons_self ..)]
    have := (heldP_bounds (w := x.1) post fun p hp => hpos p (List.mem_append_right _ (List.mem_cons_of_mem _ hp))).1
    omega
  · intro v hv
    rw [heldP_append, ex, if_neg (by omega), heldP_none post fun p hp => by
      have := h2.1 p hp
      omega]
    have k := (heldP_bounds (w := v) pre fun p hp => hpos p (List.mem_append_left _ hp)).2
    rcases hlow with e | e
    · subst e
      have := h0 rfl
      have : heldP [] v = 0 := rfl
      omega
    · omega
/-- two least ones are one -/
theorem least_uniq {P : Nat → Prop} {a b : Nat} (ha : P a) (hb : P b) (la : ∀ v, v < a → ¬ P v) (lb : ∀ v, v < b → ¬ P v) : a = b := by
  by_cases c1 : a < b
  · exact absurd ha (lb a c1)
  · by_cases c2 : b < a
    · exact absurd hb (la b c2)
    · omega
theorem held_pairs (bs : List (List Nat × Int)) (w : Nat) : heldP (bs.map fun b => (topOf b, b.2)) w = held bs w := by
  unfold heldP held
  rw [List.map_map]
  rfl
theorem sumP_pairs (bs : List (List Nat × Int)) : sumP (bs.map fun b => (topOf b, b.2)) = wholeOf bs := by
  unfold sumP wholeOf
  rw [List.map_map]
  rfl
theorem sum_permI {l m : List Int} (h : l.Perm m) : l.sum = m.sum := by
  induction h with
  | nil => rfl
  | cons a _ ih => rw [List.sum_cons, List.sum_cons, ih]
  | swap a b l => rw [List.sum_cons, List.sum_cons, List.sum_cons, List.sum_cons]; omega
  | trans _ _ h1 h2 => rw [h1, h2]
theorem heldP_perm {l m : List (Nat × Int)} (h : l.Perm m) (w : Nat) : heldP l w = heldP m w := sum_permI (h.map _)
theorem sumP_perm {l m : List (Nat × Int)} (h : l.Perm m) : sumP l = sumP m := sum_permI (h.map _)
end Hc

/-! any(xs) of a list of bools while an exception is handled. -/
namespace Hc
open PySem PySem.Spec PyProof.Rows L2 HotX L2H
section
variable {prog : Program} {w : World} {A : Around} {E : Value → Shared → Prop} {s : Shared}
/-- an object is pushed behind h, then changed: what stood is kept -/
theorem grown {h : Heap} {p : Obj} {f : Obj → Obj} {b : Addr} {u : Obj} (z : h.get? b = some u) : ((h.push p).update h.objs.size f).get? b = some u :=
  (Heap.get?_update_other _ _ (Nat.ne_of_gt (Heap.lt_size z))).trans (Heap.get?_push_of_some _ z)
/-- StopIteration is raised while x1 is handled: what stood is kept -/
theorem stop_hot {α : Type} {x1 : Addr} {Q : α → Shared → Prop} (hot : HotAt A x1 s.heap)
    (q : ∀ (h' : Heap) (e : Addr) (oe : Obj), (∀ b o, s.heap.get? b = some o → h'.get? b = some o) → h'.get? e = some oe → oe.cls = .type "StopIteration" → E (.ref e) { s with heap := h' }) :
    wpAny (model prog w) A (Builtin.SmallTypes.stopIteration : Sem α) Q E s := by
  unfold Builtin.SmallTypes.stopIteration
  obtain ⟨hh, o, vs, g, d, c⟩ := hot
  have fam : firstArgMember (.type "StopIteration") [] = pure .none := by unfold firstArgMember; rfl
  apply wpAny_bind
  unfold newExc newTuple
  rw [fam]
  apply wpAny_bind
  apply wpAny_newObj_type
  rotate_left
  · size_fits
  apply wpAny_bind
  apply wpAny_pure
  apply wpAny_newObj_type
  rotate_left
  · size_fits
  have g1 := fun (p : Obj) => Heap.get?_push_of_some (h := s.heap) p g
  apply raiseNew_hot (x1 := x1) ⟨hh, o, vs, Heap.get?_push_of_some _ (g1 _), d, c⟩
  · exact Nat.ne_of_lt (Heap.lt_size (g1 _))
  · exact Heap.get?_push_size _ rfl
  · rfl
  · simp
    omega
  · exact q _ _ _ (fun b u z => grown (Heap.get?_push_of_some _ z)) (Heap.get?_update_self _ (Heap.get?_push_size _ rfl) rfl) rfl
/-- the walk of a list is over while x1 is handled -/
theorem next_end_hot {it l x1 : Addr} {i : Nat} {items : Array Value} {Q : Option Value → Shared → Prop} (hot : HotAt A x1 s.heap) (hx : x1 ≠ it) (hit : s.heap.IsListIter it l i) (hl : s.heap.IsList l items) (hi : items[i]? = none)
    (q : ∀ h', (∀ b o, b ≠ it → s.heap.get? b = some o → h'.get? b = some o) → Q none { s with heap := h' }) : wpAny (model prog w) A (pyNext (.ref it)) Q E s := by
  obtain ⟨hh, o1, vs, g, d, c⟩ := hot
  obtain ⟨o, ho, _, hd⟩ := id hit
  obtain ⟨ol, hol, _, nl, hdl⟩ := hl
  have kept : ∀ (f : Obj → Obj) (b : Addr) (u : Obj), b ≠ it → s.heap.get? b = some u → (s.heap.update it f).get? b = some u := fun f b u n z => (Heap.get?_update_other _ _ n.symm).trans z
  have over : ∀ (e : Addr) (oe : Obj) (h' : Heap), h'.get? e = some oe → oe.cls = .type "StopIteration" → (∀ b u, b ≠ it → s.heap.get? b = some u → h'.get? b = some u) →
      wpAny (model prog w) A (do if ← isInstance (.ref e) (.type "StopIteration") then pure none else throw (.ref e)) Q E { s with heap := h' } := fun e oe h' ge ce k =>
    wpAny_bind (wpAny_isInstance (T := "StopIteration") (b := true) ⟨oe, ge, ce⟩ isSubtype_stop (wpAny_pure (q h' k)))
  unfold pyNext
  apply wpAny_bind
  apply wpAny_attempt
  apply wpAny_callSpecial?_slot (name := Str.ofString "__next__") hit.typeIs slot_listiter_next
  apply wpAny_call_entry slot_listiter_next hit.typeIs entry_listiter_next
  show wpAny _ _ (field (.ref it) 0 >>= _) _ _ _
  apply wpAny_bind
  apply wpAny_field ho hd (x := .ref l) rfl
  show wpAny _ _ (field (.ref it) 1 >>= _) _ _ _
  apply wpAny_bind
  apply wpAny_field ho hd (x := .int i 0) rfl
  show wpAny _ _ (seqItems? (.ref l) >>= _) _ _ _
  apply wpAny_bind
  apply wpAny_seqItems hol hdl
  dsimp only
  rw [show (Int.toNat (i : Int)) = i from Int.toNat_natCast i, hi]
  apply wpAny_bind
  apply wpAny_rule
  apply wpAny_bind
  apply wpAny_setField ho hd (by simp)
  apply stop_hot (A := A.in1) (x1 := x1) ⟨hh, o1, vs, kept _ _ _ hx g, d, c⟩
  intro h' e oe k ge ce
  exact over e oe h' ge ce fun b u n z => k b u (kept _ _ _ n z)
/-- the walk of a list while x1 is handled -/
theorem walks_hot {it l : Addr} {x1 : Addr} {o1 : Obj} {v1 : Array Value} (hh : A.handled = some (.ref x1)) (d : o1.data = .fields v1) (c : v1[2]? = some .none) (hx : x1 ≠ it) (hne : l ≠ it) (items : Array Value) :
    Walks prog w A it [it, l, x1] [it] items.size (fun i v => items[i]? = some v) (fun i h => (h.IsListIter it l i ∧ h.IsList l items) ∧ h.get? x1 = some o1) := by
  have m1 : it ∈ [it, l, x1] := List.mem_cons_self
  have m2 : l ∈ [it, l, x1] := List.mem_cons_of_mem _ List.mem_cons_self
  have m3 : x1 ∈ [it, l, x1] := List.mem_cons_of_mem _ (List.mem_cons_of_mem _ List.mem_cons_self)
  constructor
  · intro b hb
    rw [List.mem_singleton.mp hb]
    exact m1
  · intro i h h' st k
    exact ⟨⟨st.1.1.at (k it m1), st.1.2.at (k l m2)⟩, k x1 m3 _ st.2⟩
  · intro i s Q E hi st q
    have hget : items[i]? = some items[i] := Array.getElem?_eq_getElem hi
    apply wpAny_pyNext_list_item st.1.1 st.1.2 hget
    intro h' st' sb
    have k : ∀ b o, b ≠ it → s.heap.get? b = some o → h'.get? b = some o := sb.extBut
    exact q items[i] h' s.toks hget ⟨⟨st', st.1.2.at fun o e => k l o hne e⟩, k x1 _ hx st.2⟩ fun b o nb e => k b o (fun z => nb (z ▸ List.mem_singleton.mpr rfl)) e
  · intro s Q E st q
    exact next_end_hot ⟨hh, o1, v1, st.2, d, c⟩ hx st.1.1 st.1.2 (Array.getElem?_eq_none (Nat.le_refl _)) fun h' k => q h' s.toks fun b o nb e => k b o (fun z => nb (z ▸ List.mem_singleton.mpr rfl)) e
  · intro i s Q E st q
    exact wpAny_pyIter_listiter st.1.1 q
end
/-- any(xs) of a list of bools while an exception is handled -/
theorem any_hot {X : Cx} (hc : HotC X) : CallR X (.builtin "any") (rAny X.K) := by
  rintro pins s σ H vs us Q I hV ⟨a, bs, rfl, hs, q⟩
  obtain ⟨its, hv, hl, hlen⟩ := I.list hs
  obtain ⟨p, ⟨hh, v1, d1, c1⟩, hp⟩ := hc
  have hget := (I.pin p (List.mem_append_left _ hp)).1
  have hb := hv.bls
  rw [Vals.ref1 hV]
  apply call_any_walk
  apply iter_any hl.isList
  intro s₂ e2 st hne
  subst e2
  have hx : p.1 ≠ s.heap.objs.size := Nat.ne_of_lt (Heap.lt_size hget)
  have hbig : ∀ b o, s.heap.get? b = some o → b ∉ [s.heap.objs.size] := fun b o e m => Nat.lt_irrefl _ (List.mem_singleton.mp m ▸ Heap.lt_size e)
  refine ⟨_, _, _, _, _, _, _, rfl, walks_hot (A := X.A.in1) hh d1 c1 hx hne its.toArray, ⟨st, Heap.get?_push_of_some _ hget⟩, truth_bools hb, fun h' tk k => ?_⟩
  have hI := I.kept (t' := tk) fun b o e => k b o (hbig b o e) (Heap.get?_push_of_some _ e)
  have hn : its.toArray.size = bs.length := by rw [hb, List.size_toArray, List.length_map]
  refine ⟨.bl (bs.any id), H, hI, ?_, q⟩
  rw [hn, L2.any_range]
  rfl
end Hc

/-! Own errors: raised by a def, caught, asked for their class. -/
namespace Hc
open PySem PySem.Spec PyProof.Rows L2
abbrev upVE : List Value := [.type "ValueError", .type "Exception", .type "BaseException", .type "object"]
/-- what is known of an own error class -/
structure Err (K : PySem.W.Frag) (mg : Str → Option Value) (x : Str) (C : Addr) : Prop where
  g : mg x = some (.ref C)
  x : PySem.W.excIn K C upVE "ValueError.__new__" = true
  k : PySem.W.keepIn K (.ref C) = true
  d : PySem.W.hasDictIn K C = true
  b : PySem.W.subIn K (.ref C) (.type "BaseException") = some true
  t : PySem.W.typeIn K (.ref C) = some (.type "type")
/-- a def that may raise, its error's context None -/
theorem okN {P : Program} {w : World} {K : PySem.W.Frag} {mg : Str → Option Value} {base : Heap} {x qual : Str} {st : Stmt} {f : Addr} {fd : FuncData} {N ps : List Str} {k : Nat} {sp : Sp} (F : Fun K x qual st f fd) (S : FnScope N ps (defScope st))
    (len : ∀ vs H Q E, sp vs H Q E → vs.length = ps.length)
    (body : ∀ (cdv : Value) (A : Around) (outer : List Env) (s : Shared) (H : Hp) (vs : List V) (Q : VK) (E : XK), Room k (A.deeper (envOfC qual (defScope st) s.heap.objs.size f cdv)) → sp vs H Q E →
      ∃ t, PSs (cxOf (L2N.CX P w) P w K mg base N qual (defScope st) f cdv A outer s H E) (defBody st) t ∧ t { nx := fun _ H' => Q .non H', rt := Q } (start N vs) H) : FnOk P w K mg base (L2N.CX P w) (k + 1) f fd ps sp := by
  obtain ⟨_, _, _, _, _, _, cdv, _, _, rfl, lk, hcd⟩ := F.ex
  exact fn_of lk hcd S len (body cdv)
theorem takes0N {X : Cx} : L2N.Takes X (fun _ _ _ _ => False) := fun _ _ ⟨_, _, _, _, _, _, _, _, _, _, _, _, _, _, _, _, z⟩ => z.elim
/-- isinstance(error, C) in the suite that caught it -/
def rIsN (K : PySem.W.Frag) (cls : Value) (d : Option Addr) (a : Addr) : List V → Hp → VK → Prop := fun xs H Q => ∃ D, cls = .ref D ∧ d = none ∧ ExcC K D ∧ rIsE K D a xs H Q
theorem call_isN {X : Cx} {a : Addr} {oe : Obj} {cls : Value} {d : Option Addr} {pn : List (Addr × Obj)} (hz : L2N.Zn cls d oe) (hf : ∃ vs, oe.data = .fields vs) : CallR (X.suite a ((a, oe) :: pn)) (.builtin "isinstance") (rIsN X.K cls d a) := by
  rintro pins s σ H xs us Q I r ⟨D, rfl, rfl, C, h⟩
  exact call_isE C hz.zc hf pins s σ H xs us Q I r h
/-- the suite is hot -/
theorem hot_suite {X : Cx} {a : Addr} {oe : Obj} {cls : Value} {d : Option Addr} {pn : List (Addr × Obj)} (hz : L2N.Zn cls d oe) (hf : ∃ vs, oe.data = .fields vs) : L2H.HotC (X.suite a ((a, oe) :: pn)) := by
  obtain ⟨vs, e⟩ := hf
  exact ⟨(a, oe), ⟨rfl, vs, e, hz.2.2 vs e⟩, List.mem_cons_self⟩
/-- as above, K given -/
theorem isN (K : PySem.W.Frag) {X : Cx} {a : Addr} {oe : Obj} {cls : Value} {d : Option Addr} {pn : List (Addr × Obj)} (hz : L2N.Zn cls d oe) (hf : ∃ vs, oe.data = .fields vs) (hK : X.K = K := by rfl) : CallR (X.suite a ((a, oe) :: pn)) (.builtin "isinstance") (rIsN K cls d a) := by
  subst hK
  exact call_isN hz hf
theorem anyN (K : PySem.W.Frag) {X : Cx} {a : Addr} {oe : Obj} {cls : Value} {d : Option Addr} {pn : List (Addr × Obj)} (hz : L2N.Zn cls d oe) (hf : ∃ vs, oe.data = .fields vs) (hK : X.K = K := by rfl) : CallR (X.suite a ((a, oe) :: pn)) (.builtin "any") (rAny K) := by
  subst hK
  exact any_hot (hot_suite hz hf)
/-- C is caught by a clause of its own base -/
theorem exm_err {K : PySem.W.Frag} {mg : Str → Option Value} {x : Str} {C : Addr} {cls : Value} {b : Bool} (e : Err K mg x C) (h : PySem.W.subIn K cls (.ref C) = some b) : PySem.W.exmOne K cls (.ref C) = some b := PySem.W.exm_ref e.b e.d e.t h
end Hc

/-! min(xs, key=len) of a list of lists -/
namespace Hc
open PySem PySem.Spec PyProof.Rows L2 Att
/-- the first of the shortest -/
def rMinLen (K : PySem.W.Frag) : V → Hp → VK → Prop := fun x H Q => ∃ (l : Addr) (ps : List Addr) (ls : List (List V)), x = .ref l ∧ SqL K H l (ps.map V.ref) ∧ 0 < ps.length ∧ Paired (fun p xs => SqL K H p xs) ps ls ∧
  ∀ i p, ps[i]? = some p → (∀ j, j < ps.length → (ls.getD i []).length ≤ (ls.getD j []).length ∧ (j < i → (ls.getD i []).length < (ls.getD j []).length)) → Q (.ref p) H
def tMinLen (K : PySem.W.Frag) (t : TA) : TE := fun σ H Q => t σ H fun vs H1 => ∃ x, vs = [x] ∧ rMinLen K x H1 Q
section
variable {X : Cx} {pins : List (Addr × Obj)} {σ : L2.St} {H : Hp} {s : Shared}
/-- all but the frame's own object is kept, and the frame's map -/
theorem Inv.calmed {h' : Heap} {t' : Nat} {m : Str → Option Value} (I : L2.Inv X pins σ H s) (old : s.heap.Ns X.env.locals m) (new : h'.Ns X.env.locals m) (keep : ∀ b o, b ≠ X.env.locals → s.heap.get? b = some o → h'.get? b = some o) :
    L2.Inv X pins σ H { s with heap := h', toks := t' } := by
  have nl : ∀ b u, H b = some u → b ≠ X.env.locals := fun b u e z => by
    rw [z, I.free] at e
    cases e
  refine I.step (g' := s.gens) (d' := s.drawn) (ch := []) (fun _ z => nomatch z) (fun b o n _ _ e _ => keep b o n e) (fun b o n _ _ e _ => ⟨o.slots, keep b o n e⟩) (fun _ _ _ _ n => n) (fun b o _ e => ?_) (fun _ _ e => e) (fun _ _ _ e => e) (fun b ps e => ⟨#[], by rw [e]; simp⟩) (fun m' h => ?_) (fun b u e => ?_) I.bare
  · by_cases z : b = X.env.locals
    · obtain ⟨o', _, _, e', _⟩ := new
      exact ⟨o', by rw [z]; exact e'⟩
    · exact ⟨o, keep b o z e⟩
  · rw [h.eq_nsMap, ← old.eq_nsMap]
    exact new
  · refine (I.hok b u e).stay (fun c v hc q => keep c v ?_ q) (fun _ q => q) fun _ _ q => q
    rcases hc with z | z
    · rw [z]
      exact nl b u e
    · exact nl c _ z
theorem refs_only : ∀ {ps : List Addr} {us : List Value}, Vals (ps.map V.ref) us → us = ps.map Value.ref
  | [], _, .nil => rfl
  | p :: ps, _, .cons r rs => by rw [refs_only rs, show _ = Value.ref p from r]; rfl
/-- a list is no frame -/
theorem list_off {a : Addr} {xs : List V} (I : L2.Inv X pins σ H s) (h : SqL X.K H a xs) : ∃ (o : Obj) (us : List Value), s.heap.get? a = some o ∧ a ≠ X.env.locals ∧ us.length = xs.length ∧ xs.length ≤ sizeLine ∧ Vals xs us ∧ ∀ g : Heap, g.get? a = some o → g.IsList a us.toArray := by
  obtain ⟨us, rv, ⟨o, n, e, c, _, d⟩, z⟩ := I.list h
  obtain ⟨m, ⟨o', es, ep, e', d', _⟩, _⟩ := id I.loc
  refine ⟨o, us, e, fun z => ?_, rv.length.symm, z, rv, fun g eg => ⟨o, eg, c, n, d⟩⟩
  rw [z, e'] at e
  cases e
  rw [d'] at d
  cases d
theorem min_len {x : V} {v : Value} {Q : VK} (hc : X.calm = true) (I : L2.Inv X pins σ H s) (rx : RelV x v) (r : rMinLen X.K x H Q) : wpAny (model X.prog X.w) X.A (call (.builtin "min") [v] [(Str.ofString "key", .builtin "len")]) (EP X pins σ Q) X.xe s := by
  obtain ⟨l, ps, ls, rfl, hs, ne, hp, want⟩ := r
  obtain rfl : v = .ref l := rx
  obtain ⟨m, hm, _⟩ := id I.loc
  obtain ⟨o, us, e1, n1, _, _, rv, is1⟩ := list_off I hs
  have hus := refs_only rv
  have inAll : ∀ {a : Addr} {o : Obj} {h : Heap} {own : List (Addr × Obj)}, a ≠ X.env.locals → s.heap.get? a = some o → News (noObjs s.heap) X.env.locals h (allNews (noObjs s.heap) s.heap X.env.locals ++ own) → h.get? a = some o := fun n e N => (N _ (List.mem_append_left _ (mem_allNews n (noObjs_get _ _) e))).1
  have bare : ∀ {h : Heap}, News (noObjs s.heap) X.env.locals h (allNews (noObjs s.heap) s.heap X.env.locals) → News (noObjs s.heap) X.env.locals h (allNews (noObjs s.heap) s.heap X.env.locals ++ []) := fun N => by rw [List.append_nil]; exact N
  have at_ : ∀ {i : Nat} {v : Value}, us[i]? = some v → ∃ p xs, ps[i]? = some p ∧ v = .ref p ∧ ls[i]? = some xs ∧ SqL X.K H p xs := fun {i v} h => by
    rw [hus, List.getElem?_map] at h
    cases h1 : ps[i]? with
    | none => rw [h1] at h; cases h
    | some p =>
      rw [h1] at h
      obtain ⟨xs, h2, h3⟩ := Paired.get hp h1
      exact ⟨p, xs, rfl, (Option.some.inj h).symm, h2, h3⟩
  have len : us.length = ps.length := by rw [hus, List.length_map]
  refine kmb_min (kid := "len") (vs := us) (fun i => ((ls.getD i []).length : Int)) (I.ok.hd hc) (fr_all hm) (news := allNews (noObjs s.heap) s.heap X.env.locals) news_all (fun h _ N => is1 h (inAll n1 e1 (bare N))) (by omega) (fun i v hv h tk own F N => ?_) fun i v h' tk' hv best F N => ?_
  · obtain ⟨p, xs, h1, rfl, h2, h3⟩ := at_ hv
    obtain ⟨o2, us2, e2, n2, l2, z2, _, is2⟩ := list_off I h3
    refine Calls.call_len_list (is2 h (inAll n2 e2 N)) (by rw [List.size_toArray, l2]; rw [sizeLine_eq] at z2; omega) ⟨h, _, tk + 1, rfl, ?_, F, N⟩
    rw [List.getD_eq_getElem?_getD, h2, List.size_toArray, l2]
    rfl
  · obtain ⟨p, xs, h1, rfl, h2, h3⟩ := at_ hv
    refine ⟨.ref p, H, Inv.calmed I hm F.ns fun b u n e => inAll n e (bare N), rfl, want i p h1 fun j hj => ?_⟩
    have := best j (by omega)
    omega
theorem pe_minLen {e : Expr} {t : TA} {p p2 p3 pos : Pos} (ha : PA X [e] t) (g1 : Gl X "min") (m1 : X.mg "min" = none) (g2 : Gl X "len") (m2 : X.mg "len" = none) (hc : X.calm = true := by rfl) (hst : backTo pos (starEach [e] X.env) = (false, eval e X.env) :: backTo pos (starEach [] X.env) := by rfl) (hpl : (backTo pos (starEach [e] X.env)).any (·.1) = false := by rfl) :
    PE X (.Call (.Name "min" p) [e] [⟨some "key", .Name "len" p2, p3⟩] pos) (tMinLen X.K t) := by
  refine ⟨fun pins s σ H Q I h => ?_⟩
  refine wpAny_Call_Name_kw (ld_blt I g1 m1 PyProof.Rows.boot_min ?_)
  refine PyProof.Rows.callWith_kw (thn (ha.run pos pins s σ H _ I h) fun us s1 ⟨vs, H1, I1, r1, x, e1, q1⟩ => ?_) hst hpl rfl rfl
  subst e1
  obtain ⟨u, rfl, ru⟩ := r1.one
  refine wpAny_evalAll_cons (wpAny_bind (ld_blt I1 g2 m2 PySem.boot_len (wpAny_bind (wpAny_standAt (wpAny_pure (wpAny_evalAll_nil ?_))))))
  exact min_len hc I1 ru q1
end
end Hc

namespace Hc
open PySem PySem.Spec PyProof.Rows L2 Evl
def topS (i : Nat) : Stmt := PySem.Challenge.pw_headcounts_k08_whole_numbers.main.body.getD i (.Pass ⟨0, 0, 0, 0⟩)
abbrev s_is_number : Stmt := topS 8
theorem sc_is_number : FnScope ["thing"] ["thing"] (defScope s_is_number) := ⟨rfl, rfl, rfl, by decide +kernel, rfl, by decide +kernel, by decide +kernel⟩
abbrev s_asked_candidates : Stmt := topS 9
theorem sc_asked_candidates : FnScope ["candidates"] ["candidates"] (defScope s_asked_candidates) := ⟨rfl, rfl, rfl, by decide +kernel, rfl, by decide +kernel, by decide +kernel⟩
abbrev s_are_ballots : Stmt := topS 10
theorem sc_are_ballots : FnScope ["candidates", "ballots", "ballot", "one"] ["candidates", "ballots"] (defScope s_are_ballots) := ⟨rfl, rfl, rfl, by decide +kernel, rfl, by decide +kernel, by decide +kernel⟩
abbrev s_asked_ballots : Stmt := topS 11
theorem sc_asked_ballots : FnScope ["candidates", "ballots"] ["candidates", "ballots"] (defScope s_asked_ballots) := ⟨rfl, rfl, rfl, by decide +kernel, rfl, by decide +kernel, by decide +kernel⟩
abbrev s_asked_table : Stmt := topS 12
theorem sc_asked_table : FnScope ["table", "row", "one", "other"] ["table"] (defScope s_asked_table) := ⟨rfl, rfl, rfl, by decide +kernel, rfl, by decide +kernel, by decide +kernel⟩
abbrev s_count_of : Stmt := topS 13
theorem sc_count_of : FnScope ["candidates", "ballots", "table", "order", "many", "at", "one", "other"] ["candidates", "ballots"] (defScope s_count_of) := ⟨rfl, rfl, rfl, by decide +kernel, rfl, by decide +kernel, by decide +kernel⟩
abbrev s_counted : Stmt := topS 14
theorem sc_counted : FnScope ["candidates", "ballots"] ["candidates", "ballots"] (defScope s_counted) := ⟨rfl, rfl, rfl, by decide +kernel, rfl, by decide +kernel, by decide +kernel⟩
abbrev s_is_pair : Stmt := topS 17
theorem sc_is_pair : FnScope ["pair", "size"] ["pair", "size"] (defScope s_is_pair) := ⟨rfl, rfl, rfl, by decide +kernel, rfl, by decide +kernel, by decide +kernel⟩
abbrev s_Ballots__init : Stmt := inClass (topS 18) 0
theorem sc_Ballots__init : FnScope ["self", "ballots", "order", "many"] ["self", "ballots"] (defScope s_Ballots__init) := ⟨rfl, rfl, rfl, by decide +kernel, rfl, by decide +kernel, by decide +kernel⟩
abbrev s_Ballots_shows : Stmt := inClass (topS 18) 1
theorem sc_Ballots_shows : FnScope ["self", "table"] ["self", "table"] (defScope s_Ballots_shows) := ⟨rfl, rfl, rfl, by decide +kernel, rfl, by decide +kernel, by decide +kernel⟩
abbrev s_Uneven__init : Stmt := inClass (topS 19) 0
theorem sc_Uneven__init : FnScope ["self", "one", "other"] ["self", "one", "other"] (defScope s_Uneven__init) := ⟨rfl, rfl, rfl, by decide +kernel, rfl, by decide +kernel, by decide +kernel⟩
abbrev s_Uneven_shows : Stmt := inClass (topS 19) 1
theorem sc_Uneven_shows : FnScope ["self", "table", "mine"] ["self", "table"] (defScope s_Uneven_shows) := ⟨rfl, rfl, rfl, by decide +kernel, rfl, by decide +kernel, by decide +kernel⟩
abbrev s_Unbeaten__init : Stmt := inClass (topS 20) 0
theorem sc_Unbeaten__init : FnScope ["self", "who"] ["self", "who"] (defScope s_Unbeaten__init) := ⟨rfl, rfl, rfl, by decide +kernel, rfl, by decide +kernel, by decide +kernel⟩
abbrev s_Unbeaten_shows : Stmt := inClass (topS 20) 1
theorem sc_Unbeaten_shows : FnScope ["self", "table"] ["self", "table"] (defScope s_Unbeaten_shows) := ⟨rfl, rfl, rfl, by decide +kernel, rfl, by decide +kernel, by decide +kernel⟩
abbrev s_Ring__init : Stmt := inClass (topS 21) 0
theorem sc_Ring__init : FnScope ["self", "way"] ["self", "way"] (defScope s_Ring__init) := ⟨rfl, rfl, rfl, by decide +kernel, rfl, by decide +kernel, by decide +kernel⟩
abbrev s_Ring_shows : Stmt := inClass (topS 21) 1
theorem sc_Ring_shows : FnScope ["self", "table", "one", "at"] ["self", "table"] (defScope s_Ring_shows) := ⟨rfl, rfl, rfl, by decide +kernel, rfl, by decide +kernel, by decide +kernel⟩
abbrev s_two_ballots : Stmt := topS 23
theorem sc_two_ballots : FnScope ["size", "ahead", "behind", "many", "rest", "one"] ["size", "ahead", "behind", "many"] (defScope s_two_ballots) := ⟨rfl, rfl, rfl, by decide +kernel, rfl, by decide +kernel, by decide +kernel⟩
abbrev s_told : Stmt := topS 24
theorem sc_told : FnScope ["table", "size", "odd", "found", "one", "other", "left"] ["table"] (defScope s_told) := ⟨rfl, rfl, rfl, by decide +kernel, rfl, by decide +kernel, by decide +kernel⟩
abbrev s_is_peaked : Stmt := topS 26
theorem sc_is_peaked : FnScope ["order", "low", "high", "one"] ["order"] (defScope s_is_peaked) := ⟨rfl, rfl, rfl, by decide +kernel, rfl, by decide +kernel, by decide +kernel⟩
abbrev s_peaked : Stmt := topS 27
theorem sc_peaked : FnScope ["candidates", "ballots", "order", "many"] ["candidates", "ballots"] (defScope s_peaked) := ⟨rfl, rfl, rfl, by decide +kernel, rfl, by decide +kernel, by decide +kernel⟩
abbrev s_middle : Stmt := topS 28
theorem sc_middle : FnScope ["candidates", "ballots", "whole", "held", "who", "order", "many"] ["candidates", "ballots"] (defScope s_middle) := ⟨rfl, rfl, rfl, by decide +kernel, rfl, by decide +kernel, by decide +kernel⟩
abbrev s_foremost : Stmt := topS 30
theorem sc_foremost : FnScope ["table", "who", "row", "way", "further", "one"] ["table"] (defScope s_foremost) := ⟨rfl, rfl, rfl, by decide +kernel, rfl, by decide +kernel, by decide +kernel⟩
abbrev s_tops : Stmt := topS 31
theorem sc_tops : FnScope ["table", "groups", "who", "group", "at", "row", "other"] ["table"] (defScope s_tops) := ⟨rfl, rfl, rfl, by decide +kernel, rfl, by decide +kernel, by decide +kernel⟩
abbrev s_widest : Stmt := topS 32
theorem sc_widest : FnScope ["table", "size", "found", "middle", "one", "other", "row"] ["table"] (defScope s_widest) := ⟨rfl, rfl, rfl, by decide +kernel, rfl, by decide +kernel, by decide +kernel⟩
abbrev s_strengths : Stmt := topS 33
theorem sc_strengths : FnScope ["table"] ["table"] (defScope s_strengths) := ⟨rfl, rfl, rfl, by decide +kernel, rfl, by decide +kernel, by decide +kernel⟩
abbrev s_order : Stmt := topS 34
theorem sc_order : FnScope ["table", "strong", "left", "found", "free", "one", "other"] ["table"] (defScope s_order) := ⟨rfl, rfl, rfl, by decide +kernel, rfl, by decide +kernel, by decide +kernel⟩
abbrev s_law_number : Stmt := topS 36
theorem sc_law_number : FnScope ["_law_cell", "_law_at", "_law_whole", "_law_blend", "_law_more"] ["_law_cell", "_law_at", "_law_whole"] (defScope s_law_number) := ⟨rfl, rfl, rfl, by decide +kernel, rfl, by decide +kernel, by decide +kernel⟩
abbrev s_law_plain : Stmt := topS 37
theorem sc_law_plain : FnScope ["_law_thing", "_law_one"] ["_law_thing"] (defScope s_law_plain) := ⟨rfl, rfl, rfl, by decide +kernel, rfl, by decide +kernel, by decide +kernel⟩
abbrev s_law_truths : Stmt := topS 38
theorem sc_law_truths : FnScope ["_law_things", "_law_one"] ["_law_things"] (defScope s_law_truths) := ⟨rfl, rfl, rfl, by decide +kernel, rfl, by decide +kernel, by decide +kernel⟩
abbrev s_law_table_right : Stmt := topS 39
theorem sc_law_table_right : FnScope ["_law_table", "_law_found", "_law_answer", "_law_made", "_law_shown", "_law_built"] ["_law_table"] (defScope s_law_table_right) := ⟨rfl, rfl, rfl, by decide +kernel, rfl, by decide +kernel, by decide +kernel⟩
abbrev s_law_is_not_peaked : Stmt := topS 40
theorem sc_law_is_not_peaked : FnScope ["_law_candidates", "_law_ballots", "error"] ["_law_candidates", "_law_ballots"] (defScope s_law_is_not_peaked) := ⟨rfl, rfl, rfl, by decide +kernel, rfl, by decide +kernel, by decide +kernel⟩
abbrev s_law_rings_promises : Stmt := topS 41
theorem sc_law_rings_promises : FnScope ["_law_ring", "_law_chain", "_law_over", "_law_cases", "_law_way", "_law_table", "_law_due", "_law_who", "_law_row"] [] (defScope s_law_rings_promises) := ⟨rfl, rfl, rfl, by decide +kernel, rfl, by decide +kernel, by decide +kernel⟩
abbrev s_law_chains_promises : Stmt := topS 42
theorem sc_law_chains_promises : FnScope ["_law_ring", "_law_chain", "_law_over", "_law_cases", "_law_some", "_law_due", "_law_halves", "_law_ballots"] ["_law_ring", "_law_chain", "_law_over"] (defScope s_law_chains_promises) := ⟨rfl, rfl, rfl, by decide +kernel, rfl, by decide +kernel, by decide +kernel⟩
abbrev s_law_promises_right : Stmt := topS 43
theorem sc_law_promises_right : FnScope ["_law_great", "_law_two", "_law_cases", "_law_ballots", "_law_table", "_law_due", "_law_odd", "_law_one", "_law_other"] [] (defScope s_law_promises_right) := ⟨rfl, rfl, rfl, by decide +kernel, rfl, by decide +kernel, by decide +kernel⟩
abbrev s_law : Stmt := topS 44
theorem sc_law : FnScope ["_law_script", "_law_whole", "_law_cells", "_law_many", "_law_ballots", "_law_at", "_law_cell", "_law_number_here", "_law_ranks", "_law_alike", "_law_found", "_law_shown", "_law_who", "_law_rank"] ["_law_script"] (defScope s_law) := ⟨rfl, rfl, rfl, by decide +kernel, rfl, by decide +kernel, by decide +kernel⟩
structure Tx (K : PySem.W.Frag) (mg : Str → Option Value) : Type where
  c_Answer : Addr
  g_Answer : mg "Answer" = some (.ref c_Answer)
  c_Ballots : Addr
  g_Ballots : mg "Ballots" = some (.ref c_Ballots)
  c_Uneven : Addr
  g_Uneven : mg "Uneven" = some (.ref c_Uneven)
  c_Unbeaten : Addr
  g_Unbeaten : mg "Unbeaten" = some (.ref c_Unbeaten)
  c_Ring : Addr
  g_Ring : mg "Ring" = some (.ref c_Ring)
  f_is_number : Addr
  d_is_number : FuncData
  F_is_number : Fun K "is_number" "is_number" s_is_number f_is_number d_is_number
  g_is_number : mg "is_number" = some (.ref f_is_number)
  f_asked_candidates : Addr
  d_asked_candidates : FuncData
  F_asked_candidates : Fun K "asked_candidates" "asked_candidates" s_asked_candidates f_asked_candidates d_asked_candidates
  g_asked_candidates : mg "asked_candidates" = some (.ref f_asked_candidates)
  f_are_ballots : Addr
  d_are_ballots : FuncData
  F_are_ballots : Fun K "are_ballots" "are_ballots" s_are_ballots f_are_ballots d_are_ballots
  g_are_ballots : mg "are_ballots" = some (.ref f_are_ballots)
  f_asked_ballots : Addr
  d_asked_ballots : FuncData
  F_asked_ballots : Fun K "asked_ballots" "asked_ballots" s_asked_ballots f_asked_ballots d_asked_ballots
  g_asked_ballots : mg "asked_ballots" = some (.ref f_asked_ballots)
  f_asked_table : Addr
  d_asked_table : FuncData
  F_asked_table : Fun K "asked_table" "asked_table" s_asked_table f_asked_table d_asked_table
  g_asked_table : mg "asked_table" = some (.ref f_asked_table)
  f_count_of : Addr
  d_count_of : FuncData
  F_count_of : Fun K "count_of" "count_of" s_count_of f_count_of d_count_of
  g_count_of : mg "count_of" = some (.ref f_count_of)
  f_counted : Addr
  d_counted : FuncData
  F_counted : Fun K "counted" "counted" s_counted f_counted d_counted
  g_counted : mg "counted" = some (.ref f_counted)
  f_is_pair : Addr
  d_is_pair : FuncData
  F_is_pair : Fun K "is_pair" "is_pair" s_is_pair f_is_pair d_is_pair
  g_is_pair : mg "is_pair" = some (.ref f_is_pair)
  f_Ballots__init : Addr
  d_Ballots__init : FuncData
  F_Ballots__init : Fun K "__init__" "Ballots.__init__" s_Ballots__init f_Ballots__init d_Ballots__init
  f_Ballots_shows : Addr
  d_Ballots_shows : FuncData
  F_Ballots_shows : Fun K "shows" "Ballots.shows" s_Ballots_shows f_Ballots_shows d_Ballots_shows
  f_Uneven__init : Addr
  d_Uneven__init : FuncData
  F_Uneven__init : Fun K "__init__" "Uneven.__init__" s_Uneven__init f_Uneven__init d_Uneven__init
  f_Uneven_shows : Addr
  d_Uneven_shows : FuncData
  F_Uneven_shows : Fun K "shows" "Uneven.shows" s_Uneven_shows f_Uneven_shows d_Uneven_shows
  f_Unbeaten__init : Addr
  d_Unbeaten__init : FuncData
  F_Unbeaten__init : Fun K "__init__" "Unbeaten.__init__" s_Unbeaten__init f_Unbeaten__init d_Unbeaten__init
  f_Unbeaten_shows : Addr
  d_Unbeaten_shows : FuncData
  F_Unbeaten_shows : Fun K "shows" "Unbeaten.shows" s_Unbeaten_shows f_Unbeaten_shows d_Unbeaten_shows
  f_Ring__init : Addr
  d_Ring__init : FuncData
  F_Ring__init : Fun K "__init__" "Ring.__init__" s_Ring__init f_Ring__init d_Ring__init
  f_Ring_shows : Addr
  d_Ring_shows : FuncData
  F_Ring_shows : Fun K "shows" "Ring.shows" s_Ring_shows f_Ring_shows d_Ring_shows
  f_two_ballots : Addr
  d_two_ballots : FuncData
  F_two_ballots : Fun K "two_ballots" "two_ballots" s_two_ballots f_two_ballots d_two_ballots
  g_two_ballots : mg "two_ballots" = some (.ref f_two_ballots)
  f_told : Addr
  d_told : FuncData
  F_told : Fun K "told" "told" s_told f_told d_told
  g_told : mg "told" = some (.ref f_told)
  f_is_peaked : Addr
  d_is_peaked : FuncData
  F_is_peaked : Fun K "is_peaked" "is_peaked" s_is_peaked f_is_peaked d_is_peaked
  g_is_peaked : mg "is_peaked" = some (.ref f_is_peaked)
  f_peaked : Addr
  d_peaked : FuncData
  F_peaked : Fun K "peaked" "peaked" s_peaked f_peaked d_peaked
  g_peaked : mg "peaked" = some (.ref f_peaked)
  f_middle : Addr
  d_middle : FuncData
  F_middle : Fun K "middle" "middle" s_middle f_middle d_middle
  g_middle : mg "middle" = some (.ref f_middle)
  f_foremost : Addr
  d_foremost : FuncData
  F_foremost : Fun K "foremost" "foremost" s_foremost f_foremost d_foremost
  g_foremost : mg "foremost" = some (.ref f_foremost)
  f_tops : Addr
  d_tops : FuncData
  F_tops : Fun K "tops" "tops" s_tops f_tops d_tops
  g_tops : mg "tops" = some (.ref f_tops)
  f_widest : Addr
  d_widest : FuncData
  F_widest : Fun K "widest" "widest" s_widest f_widest d_widest
  g_widest : mg "widest" = some (.ref f_widest)
  f_strengths : Addr
  d_strengths : FuncData
  F_strengths : Fun K "strengths" "strengths" s_strengths f_strengths d_strengths
  g_strengths : mg "strengths" = some (.ref f_strengths)
  f_order : Addr
  d_order : FuncData
  F_order : Fun K "order" "order" s_order f_order d_order
  g_order : mg "order" = some (.ref f_order)
  f_law_number : Addr
  d_law_number : FuncData
  F_law_number : Fun K "_law_number" "_law_number" s_law_number f_law_number d_law_number
  g_law_number : mg "_law_number" = some (.ref f_law_number)
  f_law_plain : Addr
  d_law_plain : FuncData
  F_law_plain : Fun K "_law_plain" "_law_plain" s_law_plain f_law_plain d_law_plain
  g_law_plain : mg "_law_plain" = some (.ref f_law_plain)
  f_law_truths : Addr
  d_law_truths : FuncData
  F_law_truths : Fun K "_law_truths" "_law_truths" s_law_truths f_law_truths d_law_truths
  g_law_truths : mg "_law_truths" = some (.ref f_law_truths)
  f_law_table_right : Addr
  d_law_table_right : FuncData
  F_law_table_right : Fun K "_law_table_right" "_law_table_right" s_law_table_right f_law_table_right d_law_table_right
  g_law_table_right : mg "_law_table_right" = some (.ref f_law_table_right)
  f_law_is_not_peaked : Addr
  d_law_is_not_peaked : FuncData
  F_law_is_not_peaked : Fun K "_law_is_not_peaked" "_law_is_not_peaked" s_law_is_not_peaked f_law_is_not_peaked d_law_is_not_peaked
  g_law_is_not_peaked : mg "_law_is_not_peaked" = some (.ref f_law_is_not_peaked)
  f_law_rings_promises : Addr
  d_law_rings_promises : FuncData
  F_law_rings_promises : Fun K "_law_rings_promises" "_law_rings_promises" s_law_rings_promises f_law_rings_promises d_law_rings_promises
  g_law_rings_promises : mg "_law_rings_promises" = some (.ref f_law_rings_promises)
  f_law_chains_promises : Addr
  d_law_chains_promises : FuncData
  F_law_chains_promises : Fun K "_law_chains_promises" "_law_chains_promises" s_law_chains_promises f_law_chains_promises d_law_chains_promises
  g_law_chains_promises : mg "_law_chains_promises" = some (.ref f_law_chains_promises)
  f_law_promises_right : Addr
  d_law_promises_right : FuncData
  F_law_promises_right : Fun K "_law_promises_right" "_law_promises_right" s_law_promises_right f_law_promises_right d_law_promises_right
  g_law_promises_right : mg "_law_promises_right" = some (.ref f_law_promises_right)
  f_law : Addr
  d_law : FuncData
  F_law : Fun K "law" "law" s_law f_law d_law
  g_law : mg "law" = some (.ref f_law)
  C_Ballots : Cls K c_Ballots
  y_Ballots : Typ K c_Ballots
  M_Ballots : Mk K c_Ballots f_Ballots__init
  S_Ballots : Meth K c_Ballots "shows" f_Ballots_shows
  a_Ballots_ballots : NoAttr K c_Ballots "ballots"
  k_Ballots_Answer : PySem.W.kitOne K (.ref c_Ballots) (.ref c_Answer) = some true
  k_Ballots_Ballots : PySem.W.kitOne K (.ref c_Ballots) (.ref c_Ballots) = some true
  k_Ballots_Uneven : PySem.W.kitOne K (.ref c_Ballots) (.ref c_Uneven) = some false
  k_Ballots_Unbeaten : PySem.W.kitOne K (.ref c_Ballots) (.ref c_Unbeaten) = some false
  k_Ballots_Ring : PySem.W.kitOne K (.ref c_Ballots) (.ref c_Ring) = some false
  C_Uneven : Cls K c_Uneven
  y_Uneven : Typ K c_Uneven
  M_Uneven : Mk K c_Uneven f_Uneven__init
  S_Uneven : Meth K c_Uneven "shows" f_Uneven_shows
  a_Uneven_one : NoAttr K c_Uneven "one"
  a_Uneven_other : NoAttr K c_Uneven "other"
  k_Uneven_Answer : PySem.W.kitOne K (.ref c_Uneven) (.ref c_Answer) = some true
  k_Uneven_Ballots : PySem.W.kitOne K (.ref c_Uneven) (.ref c_Ballots) = some false
  k_Uneven_Uneven : PySem.W.kitOne K (.ref c_Uneven) (.ref c_Uneven) = some true
  k_Uneven_Unbeaten : PySem.W.kitOne K (.ref c_Uneven) (.ref c_Unbeaten) = some false
  k_Uneven_Ring : PySem.W.kitOne K (.ref c_Uneven) (.ref c_Ring) = some false
  C_Unbeaten : Cls K c_Unbeaten
  y_Unbeaten : Typ K c_Unbeaten
  M_Unbeaten : Mk K c_Unbeaten f_Unbeaten__init
  S_Unbeaten : Meth K c_Unbeaten "shows" f_Unbeaten_shows
  a_Unbeaten_who : NoAttr K c_Unbeaten "who"
  k_Unbeaten_Answer : PySem.W.kitOne K (.ref c_Unbeaten) (.ref c_Answer) = some true
  k_Unbeaten_Ballots : PySem.W.kitOne K (.ref c_Unbeaten) (.ref c_Ballots) = some false
  k_Unbeaten_Uneven : PySem.W.kitOne K (.ref c_Unbeaten) (.ref c_Uneven) = some false
  k_Unbeaten_Unbeaten : PySem.W.kitOne K (.ref c_Unbeaten) (.ref c_Unbeaten) = some true
  k_Unbeaten_Ring : PySem.W.kitOne K (.ref c_Unbeaten) (.ref c_Ring) = some false
  C_Ring : Cls K c_Ring
  y_Ring : Typ K c_Ring
  M_Ring : Mk K c_Ring f_Ring__init
  S_Ring : Meth K c_Ring "shows" f_Ring_shows
  a_Ring_way : NoAttr K c_Ring "way"
  k_Ring_Answer : PySem.W.kitOne K (.ref c_Ring) (.ref c_Answer) = some true
  k_Ring_Ballots : PySem.W.kitOne K (.ref c_Ring) (.ref c_Ballots) = some false
  k_Ring_Uneven : PySem.W.kitOne K (.ref c_Ring) (.ref c_Uneven) = some false
  k_Ring_Unbeaten : PySem.W.kitOne K (.ref c_Ring) (.ref c_Unbeaten) = some false
  k_Ring_Ring : PySem.W.kitOne K (.ref c_Ring) (.ref c_Ring) = some true
  g_MOST : ∃ t, mg "MOST" = some (.int 20 t)
  n_abs : mg "abs" = none
  n_all : mg "all" = none
  n_any : mg "any" = none
  n_bool : mg "bool" = none
  n_enumerate : mg "enumerate" = none
  n_int : mg "int" = none
  n_isinstance : mg "isinstance" = none
  n_len : mg "len" = none
  n_list : mg "list" = none
  n_max : mg "max" = none
  n_min : mg "min" = none
  n_range : mg "range" = none
  n_set : mg "set" = none
  n_sorted : mg "sorted" = none
  n_str : mg "str" = none
  n_sum : mg "sum" = none
  n_tuple : mg "tuple" = none
  c_CountError : Addr
  e_CountError : Err K mg "CountError" c_CountError
  c_BadCandidates : Addr
  e_BadCandidates : Err K mg "BadCandidates" c_BadCandidates
  c_BadBallots : Addr
  e_BadBallots : Err K mg "BadBallots" c_BadBallots
  c_BadTable : Addr
  e_BadTable : Err K mg "BadTable" c_BadTable
  c_NotPeaked : Addr
  e_NotPeaked : Err K mg "NotPeaked" c_NotPeaked
  x_NotPeaked : ExcC K c_NotPeaked
  u_NotPeaked_CountError : PySem.W.subIn K (.ref c_NotPeaked) (.ref c_CountError) = some true
  k_NotPeaked_NotPeaked : PySem.W.kitOne K (.ref c_NotPeaked) (.ref c_NotPeaked) = some true
  k_NotPeaked_BadBallots : PySem.W.kitOne K (.ref c_NotPeaked) (.ref c_BadBallots) = some false
  k_NotPeaked_BadCandidates : PySem.W.kitOne K (.ref c_NotPeaked) (.ref c_BadCandidates) = some false
  k_NotPeaked_BadTable : PySem.W.kitOne K (.ref c_NotPeaked) (.ref c_BadTable) = some false
section
variable {K : PySem.W.Frag} {mg : Str → Option Value}
theorem b_is_number (T : Tx K mg) : Binds K T.d_is_number ["thing"] [] := T.F_is_number.binds fun _ _ _ _ _ _ us hl => match us, hl with | [_], _ => rfl
theorem b_asked_candidates (T : Tx K mg) : Binds K T.d_asked_candidates ["candidates"] [] := T.F_asked_candidates.binds fun _ _ _ _ _ _ us hl => match us, hl with | [_], _ => rfl
theorem b_are_ballots (T : Tx K mg) : Binds K T.d_are_ballots ["candidates", "ballots"] [] := T.F_are_ballots.binds fun _ _ _ _ _ _ us hl => match us, hl with | [_, _], _ => rfl
theorem b_asked_ballots (T : Tx K mg) : Binds K T.d_asked_ballots ["candidates", "ballots"] [] := T.F_asked_ballots.binds fun _ _ _ _ _ _ us hl => match us, hl with | [_, _], _ => rfl
theorem b_asked_table (T : Tx K mg) : Binds K T.d_asked_table ["table"] [] := T.F_asked_table.binds fun _ _ _ _ _ _ us hl => match us, hl with | [_], _ => rfl
theorem b_count_of (T : Tx K mg) : Binds K T.d_count_of ["candidates", "ballots"] [] := T.F_count_of.binds fun _ _ _ _ _ _ us hl => match us, hl with | [_, _], _ => rfl
theorem b_counted (T : Tx K mg) : Binds K T.d_counted ["candidates", "ballots"] [] := T.F_counted.binds fun _ _ _ _ _ _ us hl => match us, hl with | [_, _], _ => rfl
theorem b_is_pair (T : Tx K mg) : Binds K T.d_is_pair ["pair", "size"] [] := T.F_is_pair.binds fun _ _ _ _ _ _ us hl => match us, hl with | [_, _], _ => rfl
theorem b_Ballots__init (T : Tx K mg) : Binds K T.d_Ballots__init ["self", "ballots"] [] := T.F_Ballots__init.binds fun _ _ _ _ _ _ us hl => match us, hl with | [_, _], _ => rfl
theorem b_Ballots_shows (T : Tx K mg) : Binds K T.d_Ballots_shows ["self", "table"] [] := T.F_Ballots_shows.binds fun _ _ _ _ _ _ us hl => match us, hl with | [_, _], _ => rfl
theorem b_Uneven__init (T : Tx K mg) : Binds K T.d_Uneven__init ["self", "one", "other"] [] := T.F_Uneven__init.binds fun _ _ _ _ _ _ us hl => match us, hl with | [_, _, _], _ => rfl
theorem b_Uneven_shows (T : Tx K mg) : Binds K T.d_Uneven_shows ["self", "table"] [] := T.F_Uneven_shows.binds fun _ _ _ _ _ _ us hl => match us, hl with | [_, _], _ => rfl
theorem b_Unbeaten__init (T : Tx K mg) : Binds K T.d_Unbeaten__init ["self", "who"] [] := T.F_Unbeaten__init.binds fun _ _ _ _ _ _ us hl => match us, hl with | [_, _], _ => rfl
theorem b_Unbeaten_shows (T : Tx K mg) : Binds K T.d_Unbeaten_shows ["self", "table"] [] := T.F_Unbeaten_shows.binds fun _ _ _ _ _ _ us hl => match us, hl with | [_, _], _ => rfl
theorem b_Ring__init (T : Tx K mg) : Binds K T.d_Ring__init ["self", "way"] [] := T.F_Ring__init.binds fun _ _ _ _ _ _ us hl => match us, hl with | [_, _], _ => rfl
theorem b_Ring_shows (T : Tx K mg) : Binds K T.d_Ring_shows ["self", "table"] [] := T.F_Ring_shows.binds fun _ _ _ _ _ _ us hl => match us, hl with | [_, _], _ => rfl
theorem b_two_ballots (T : Tx K mg) : Binds K T.d_two_ballots ["size", "ahead", "behind", "many"] [] := T.F_two_ballots.binds fun _ _ _ _ _ _ us hl => match us, hl with | [_, _, _, _], _ => rfl
theorem b_told (T : Tx K mg) : Binds K T.d_told ["table"] [] := T.F_told.binds fun _ _ _ _ _ _ us hl => match us, hl with | [_], _ => rfl
theorem b_is_peaked (T : Tx K mg) : Binds K T.d_is_peaked ["order"] [] := T.F_is_peaked.binds fun _ _ _ _ _ _ us hl => match us, hl with | [_], _ => rfl
theorem b_peaked (T : Tx K mg) : Binds K T.d_peaked ["candidates", "ballots"] [] := T.F_peaked.binds fun _ _ _ _ _ _ us hl => match us, hl with | [_, _], _ => rfl
theorem b_middle (T : Tx K mg) : Binds K T.d_middle ["candidates", "ballots"] [] := T.F_middle.binds fun _ _ _ _ _ _ us hl => match us, hl with | [_, _], _ => rfl
theorem b_foremost (T : Tx K mg) : Binds K T.d_foremost ["table"] [] := T.F_foremost.binds fun _ _ _ _ _ _ us hl => match us, hl with | [_], _ => rfl
theorem b_tops (T : Tx K mg) : Binds K T.d_tops ["table"] [] := T.F_tops.binds fun _ _ _ _ _ _ us hl => match us, hl with | [_], _ => rfl
theorem b_widest (T : Tx K mg) : Binds K T.d_widest ["table"] [] := T.F_widest.binds fun _ _ _ _ _ _ us hl => match us, hl with | [_], _ => rfl
theorem b_strengths (T : Tx K mg) : Binds K T.d_strengths ["table"] [] := T.F_strengths.binds fun _ _ _ _ _ _ us hl => match us, hl with | [_], _ => rfl
theorem b_order (T : Tx K mg) : Binds K T.d_order ["table"] [] := T.F_order.binds fun _ _ _ _ _ _ us hl => match us, hl with | [_], _ => rfl
theorem b_law_number (T : Tx K mg) : Binds K T.d_law_number ["_law_cell", "_law_at", "_law_whole"] [] := T.F_law_number.binds fun _ _ _ _ _ _ us hl => match us, hl with | [_, _, _], _ => rfl
theorem b_law_plain (T : Tx K mg) : Binds K T.d_law_plain ["_law_thing"] [] := T.F_law_plain.binds fun _ _ _ _ _ _ us hl => match us, hl with | [_], _ => rfl
theorem b_law_truths (T : Tx K mg) : Binds K T.d_law_truths ["_law_things"] [] := T.F_law_truths.binds fun _ _ _ _ _ _ us hl => match us, hl with | [_], _ => rfl
theorem b_law_table_right (T : Tx K mg) : Binds K T.d_law_table_right ["_law_table"] [] := T.F_law_table_right.binds fun _ _ _ _ _ _ us hl => match us, hl with | [_], _ => rfl
theorem b_law_is_not_peaked (T : Tx K mg) : Binds K T.d_law_is_not_peaked ["_law_candidates", "_law_ballots"] [] := T.F_law_is_not_peaked.binds fun _ _ _ _ _ _ us hl => match us, hl with | [_, _], _ => rfl
theorem b_law_rings_promises (T : Tx K mg) : Binds K T.d_law_rings_promises [] [] := T.F_law_rings_promises.binds fun _ _ _ _ _ _ us hl => match us, hl with | [], _ => rfl
theorem b_law_chains_promises (T : Tx K mg) : Binds K T.d_law_chains_promises ["_law_ring", "_law_chain", "_law_over"] [] := T.F_law_chains_promises.binds fun _ _ _ _ _ _ us hl => match us, hl with | [_, _, _], _ => rfl
theorem b_law_promises_right (T : Tx K mg) : Binds K T.d_law_promises_right [] [] := T.F_law_promises_right.binds fun _ _ _ _ _ _ us hl => match us, hl with | [], _ => rfl
theorem b_law (T : Tx K mg) : Binds K T.d_law ["_law_script"] [] := T.F_law.binds fun _ _ _ _ _ _ us hl => match us, hl with | [_], _ => rfl
end
end Hc
namespace Hc
open PySem PySem.Spec PyProof.Rows L2 Evl
section
variable {P : Program} {w : World} {K : PySem.W.Frag} {mg : Str → Option Value} {base : Heap}
/-! ### types of things -/
section
variable {K : PySem.W.Frag} {H H' : Hp}
theorem tyx_L {a : Addr} {xs : List V} (h : SqL K H a xs) : TyX K H (.ref a) (.type "list") := by
  rcases h with (h | ⟨o, h⟩) | ⟨o, its, n, h1, h2, _⟩
  · exact .base (.lst h)
  · exact .base (.frz h)
  · exact .kList h1 h2
theorem tyx_T {a : Addr} {xs : List V} (h : SqT K H a xs) : TyX K H (.ref a) (.type "tuple") := by
  rcases h with (h | ⟨o, h⟩) | ⟨o, its, n, h1, h2, _⟩
  · exact .base (.tup h)
  · exact .fTuple h
  · exact .kTuple h1 h2
/-- what is_number says of a thing -/
def IsNum (K : PySem.W.Frag) (H : Hp) (x : V) (b : Bool) : Prop := ∃ (t : String) (b1 b2 : Bool), TyX K H x (.type t) ∧ kitB t "int" = some b1 ∧ kitB t "bool" = some b2 ∧ b = (b1 && !b2)
theorem isNum_int (i : Int) : IsNum K H (.int i) true := ⟨"int", true, false, .base (.int i), by decide +kernel, by decide +kernel, rfl⟩
def spIsNum (K : PySem.W.Frag) : Sp := fun vs H Q _ => ∃ (x : V) (b : Bool), vs = [x] ∧ IsNum K H x b ∧ Q (.bl b) H
def okB (n : Nat) (b : List Nat × Int) : Bool := decide (1 ≤ b.2) && b.1.isPerm (List.range n)
def spAskC : Sp := fun vs H Q _ => ∃ c : Int, vs = [.int c] ∧ 1 ≤ c ∧ c ≤ 20 ∧ Q .non H
def spAreB (K : PySem.W.Frag) : Sp := fun vs H Q _ => ∃ (n : Nat) (v : V) (bs : List (List Nat × Int)), vs = [.int (n : Int), v] ∧ n ≤ 20 ∧ BalsR K H v bs ∧ (∀ b ∈ bs, b.1.length < 60) ∧ ∀ H2, Ex H H2 → Q (.bl (bs.all (okB n))) H2
def spAskB (K : PySem.W.Frag) : Sp := fun vs H Q _ => ∃ (n : Nat) (v : V) (bs : List (List Nat × Int)), vs = [.int (n : Int), v] ∧ 1 ≤ n ∧ n ≤ 20 ∧ BalsR K H v bs ∧ bs.all (okB n) = true ∧ ∀ H2, Ex H H2 → Q .non H2
def spCount (K : PySem.W.Frag) : Sp := fun vs H Q _ => ∃ (n : Nat) (v : V) (bs : List (List Nat × Int)), vs = [.int (n : Int), v] ∧ n ≤ 20 ∧ BalsR K H v bs ∧ (∀ b ∈ bs, ∀ k ∈ b.1, k < n) ∧ ∀ H2 t rs, Ex H H2 → Tab H H2 t rs n (cnt bs) → Q (.ref t) H2
def spCounted (K : PySem.W.Frag) : Sp := fun vs H Q _ => ∃ (n : Nat) (v : V) (bs : List (List Nat × Int)), vs = [.int (n : Int), v] ∧ 1 ≤ n ∧ n ≤ 20 ∧ BalsR K H v bs ∧ bs.all (okB n) = true ∧ ∀ H2 t rs, Ex H H2 → Tab H H2 t rs n (cnt bs) → Q (.ref t) H2
end
theorem okB_len {n : Nat} {b : List Nat × Int} (h : okB n b = true) : b.1.length = n := by
  unfold okB at h
  rw [Bool.and_eq_true] at h
  have := (List.isPerm_iff.mp h.2).length_eq
  rw [List.length_range] at this
  exact this
theorem okB_lt {n : Nat} {b : List Nat × Int} (h : okB n b = true) : ∀ k ∈ b.1, k < n := fun k hk => by
  unfold okB at h
  rw [Bool.and_eq_true] at h
  exact List.mem_range.mp ((List.isPerm_iff.mp h.2).mem_iff.mp hk)
/-- a sorted list that is an arrangement of another one -/
theorem sorted_is_range {ns : List Int} {ks : List Nat} {n : Nat} (hp : ns.Perm (ks.map fun (k : Nat) => (k : Int))) (hs : ns.Pairwise (· ≤ ·)) : (ns = (List.range n).map fun (k : Nat) => (k : Int)) ↔ ks.Perm (List.range n) := by
  constructor
  · intro e
    rw [e] at hp
    have h2 := hp.map Int.toNat
    rw [List.map_map, List.map_map] at h2
    have e1 : ∀ l : List Nat, l.map (Int.toNat ∘ fun (k : Nat) => (k : Int)) = l := fun l => by
      have : (Int.toNat ∘ fun (k : Nat) => (k : Int)) = id := by
        funext k
        simp
      rw [this, List.map_id]
    rw [e1, e1] at h2
    exact h2.symm
  · intro h
    have h1 : ns.Perm ((List.range n).map fun (k : Nat) => (k : Int)) := hp.trans (h.map _)
    have h2 : ((List.range n).map fun (k : Nat) => (k : Int)).Pairwise (· ≤ ·) := by
      rw [List.pairwise_map]
      exact List.Pairwise.imp (fun {a b} h => by omega) (List.pairwise_lt_range (n := n))
    exact h1.eq_of_pairwise (le := (· ≤ ·)) (fun a b _ _ h1 h2 => by omega) hs h2
theorem ok_is_number (T : Tx K mg) : FnOk P w K mg base CX0 1 T.f_is_number T.d_is_number ["thing"] (spIsNum K) := by
  refine T.F_is_number.ok sc_is_number (fun vs H Q E h => ?_) (fun cdv A outer s H vs Q E hr h => ?_)
  · obtain ⟨x, b, rfl, _⟩ := h
    rfl
  · obtain ⟨x, b, rfl, ⟨t, b1, b2, hT, k1, k2, rfl⟩, q⟩ := h
    refine ⟨_, pss_one (ps_ret (pe_and (pe_callB (isiK K) (by rfl) T.n_isinstance PyProof.Rows.boot_isinstance (pa_cons (pv 0) (pa_cons (pe_bltn (v := .ty "int") (by rfl) T.n_int bt_int rfl) pa_nil))) (pe_one (pe_not (pe_callB (isiK K) (by rfl) T.n_isinstance PyProof.Rows.boot_isinstance (pa_cons (pv 0) (pa_cons (pe_bltn (v := .ty "bool") (by rfl) T.n_bool bt_bool rfl) pa_nil))))))), ?_⟩
    refine ⟨x, rfl, x, .ty "int", _, _, b1, rfl, .ty _, hT, kit_ty k1, b1, rfl, ?_⟩
    cases b1 with
    | false => exact q
    | true => exact ⟨x, rfl, x, .ty "bool", _, _, b2, rfl, .ty _, hT, kit_ty k2, b2, rfl, q⟩
theorem ok_asked_candidates (T : Tx K mg) : FnOk P w K mg base CX0 2 T.f_asked_candidates T.d_asked_candidates ["candidates"] spAskC := by
  refine T.F_asked_candidates.ok sc_asked_candidates (fun vs H Q E h => ?_) (fun cdv A outer s H vs Q E hr h => ?_)
  · obtain ⟨c, rfl, _⟩ := h
    rfl
  · obtain ⟨c, rfl, h1, h2, q⟩ := h
    refine ⟨_, pss_one (ps_if (PW.pt (pw_or (pt_not (pt_val (pe_call (ok_is_number T) (hr.mono (by decide)) (by rfl) T.g_is_number T.F_is_number.kp (b_is_number T) .nil pass0 (pa_cons (pv 0) pa_nil)))) (pw_or1 (pt_not (pt_chain op_le op_le pe_int (pv 0) (pe_glob (v := .int 20) (by rfl) T.g_MOST.choose_spec ⟨_, rfl⟩)))))) (pss_one (ps_never)) (pss_nil)), ?_⟩
    refine ⟨_, rfl, _, true, rfl, isNum_int c, true, rfl, ?_⟩
    refine ⟨_, rfl, _, _, rfl, rfl, _, rfl, ?_⟩
    rw [if_pos (decide_eq_true h1)]
    refine ⟨_, _, rfl, rfl, _, rfl, ?_⟩
    rw [decide_eq_true h2]
    exact q
theorem ok_are_ballots (T : Tx K mg) : FnOk P w K mg base CX0 2 T.f_are_ballots T.d_are_ballots ["candidates", "ballots"] (spAreB K) := by
  refine T.F_are_ballots.ok sc_are_ballots (fun vs H Q E h => ?_) (fun cdv A outer s H vs Q E hr h => ?_)
  · obtain ⟨n, v, bs, rfl, _⟩ := h
    rfl
  · obtain ⟨n, v, bs, rfl, hn, ⟨a, xs, rfl, hS, hP⟩, h60, q⟩ := h
    refine ⟨_, pss_cons (ps_for PassesOwn.never rfl (piL K (pv 1)) (pg_name (i := 2) sc_are_ballots.nd rfl (by first | exact Or.inl rfl | exact Or.inr rfl))
        (pss_cons (ps_if (PW.pt (pw_or (pt_not (pt_val (pe_callB (isiK K) (by rfl) T.n_isinstance PyProof.Rows.boot_isinstance (pa_cons (pv 2) (pa_cons (pe_bltn (v := .ty "tuple") (by rfl) T.n_tuple bt_tuple rfl) pa_nil))))) (pw_or (pt_cmpR op_ne (pe_callB (lenK K) (by rfl) T.n_len PySem.boot_len (pa_cons (pv 2) pa_nil)) pe_int (nomark _)) (pw_or1 (pt_not (pt_val (pe_callB (isiK K) (by rfl) T.n_isinstance PyProof.Rows.boot_isinstance (pa_cons (pe_ix (ixTK K) (pv 2) pe_int (fun _ _ => rfl)) (pa_cons (pe_bltn (v := .ty "list") (by rfl) T.n_list bt_list rfl) pa_nil))))))))) (pss_one (ps_ret pe_bl)) (pss_nil))
      (pss_cons (ps_if (PW.pt (pw_or (pt_not (pt_val (pe_call (ok_is_number T) (hr.mono (by decide)) (by rfl) T.g_is_number T.F_is_number.kp (b_is_number T) .nil pass0 (pa_cons (pe_ix (ixTK K) (pv 2) pe_int (fun _ _ => rfl)) pa_nil)))) (pw_or (pt_cmpR op_lt (pe_ix (ixTK K) (pv 2) pe_int (fun _ _ => rfl)) pe_int (nomark _)) (pw_or1 (pt_not (pt_val (pe_callB (allK K) (by rfl) T.n_all PyProof.Rows.boot_all (pa_cons (pe_lc (own := [("one", 3)]) rfl sc_are_ballots.nd (piL K (pe_ix (ixTK K) (pv 2) pe_int (fun _ _ => rfl))) (blkOk_by (own := [("one", 3)]) (N := ["candidates", "ballots", "ballot", "one"]) (sc := defScope s_are_ballots) (by decide +kernel)) (fun _ _ _ _ _ => (pg_name (i := 3) sc_are_ballots.nd rfl (by first | exact Or.inl rfl | exact Or.inr rfl))) (fun _ _ _ _ _ => pts_nil) (fun _ _ _ _ _ => (pe_call (ok_is_number T) (hr.mono (by decide)) (by rfl) T.g_is_number T.F_is_number.kp (b_is_number T) .nil pass0 (pa_cons (pv 3) pa_nil)))) pa_nil)))))))) (pss_one (ps_ret pe_bl)) (pss_nil))
      (pss_one (ps_if (pt_cmpR (neDK K hr.units) (pe_callB (sortK K) (by rfl) T.n_sorted PyProof.Rows.boot_sorted (pa_cons (pe_ix (ixTK K) (pv 2) pe_int (fun _ _ => rfl)) pa_nil)) (pe_listRg rfl (by rfl) T.n_list (prg_1 (by rfl) T.n_range (pv 0))) (nomark _)) (pss_one (ps_ret pe_bl)) (pss_nil))))))
      (pss_one (ps_ret pe_bl)), ?_⟩
    refine ⟨.ref a, rfl, a, rfl, ⟨xs, hS⟩, for_list (K := K) (a := a) (xs := xs) (fun i σ' H' => ∃ y, σ' = [some (.int n), some (.ref a), y, none] ∧ Ex H H' ∧ (bs.take i).all (okB n) = true)
      ⟨none, rfl, Ex.refl H, rfl⟩ (fun i σ' H' _ ⟨_, _, e, _⟩ => ex_l e hS) ?_ ?_⟩
    · rintro i x σ' H' hi ⟨y, rfl, e, hall⟩
      obtain ⟨b, hb, t, l, rfl, hT, hL⟩ := Paired.get hP hi
      have hbm : b ∈ bs := List.mem_of_getElem? hb
      have hT1 := ex_t e hT
      have hL1 := ex_l e hL
      have bad : okB n b = false → ∀ H2, Ex H H2 → Q (.bl false) H2 := fun hx H2 e2 => by
        have : bs.all (okB n) = false := by
          rw [List.all_eq_false]
          exact ⟨b, hbm, by rw [hx]; decide⟩
        rw [← this]
        exact q H2 e2
      refine ⟨.ref t, rfl, .ref t, .ty "tuple", _, _, true, rfl, .ty _, tyx_T hT1, kit_ty (by decide +kernel), true, rfl, ?_⟩
      refine ⟨.ref t, rfl, t, _, rfl, .inr hT1, rfl, _, rfl, ?_⟩
      refine ⟨.ref t, rfl, t, _, 0, .ref l, rfl, rfl, hT1, rfl, .ref l, .ty "list", _, _, true, rfl, .ty _, tyx_L hL1, kit_ty (by decide +kernel), true, rfl, ?_⟩
      refine ⟨.ref t, rfl, t, _, 1, .int b.2, rfl, rfl, hT1, rfl, _, true, rfl, isNum_int _, true, rfl, ?_⟩
      refine ⟨.ref t, rfl, t, _, 1, .int b.2, rfl, rfl, hT1, rfl, _, _, rfl, rfl, _, rfl, ?_⟩
      refine it2 (fun hm0 => ?_) (fun hm0 => ?_)
      · have hm : b.2 < 1 := of_decide_eq_true hm0
        exact bad (by unfold okB; rw [decide_eq_false (by omega)]; rfl) _ e
      · have hm : ¬ b.2 < 1 := of_decide_eq_false hm0
        refine ⟨.ref t, rfl, t, _, 0, .ref l, rfl, rfl, hT1, rfl, l, rfl, ⟨_, hL1⟩, fun D hD => ?_⟩
        refine lc_vals (walk_list (K := K) (a := l) (xs := nv b.1)) hD (by rw [nv_length]; have := h60 b hbm; omega) (fun H2 e2 => ex_l e2 hL1) (fun _ => V.bl true) ?_ ?_
        · rintro j x H2 H2' hj e2 ⟨rfl, hx⟩ Qc hq
          obtain ⟨k, _, rfl⟩ := nv_get hx
          exact ⟨rfl, _, rfl, _, true, rfl, isNum_int _, hq _ (Ex.refl _)⟩
        · intro H2 e2 hD2
          rw [map_const_bl] at hD2
          refine ⟨D, _, rfl, sq_of hD2, true, by rw [all_const_true], ?_⟩
          have hT2 := ex_t e2 hT1
          have hL2 := ex_l e2 hL1
          rw [nv_iv] at hL2
          refine ⟨.ref t, rfl, t, _, 0, .ref l, rfl, rfl, hT2, rfl, l, _, rfl, hL2, by rw [List.length_map]; have := h60 b hbm; omega, fun ns p perm srt hp => ?_⟩
          have e3 : Ex H2 (upd H2 p (.lst (ns.map V.int))) := Ex.new hp
          refine ⟨_, rfl, n, rfl, rgOk_nat (by omega), fun r hr' => ?_⟩
          have e4 : Ex (upd H2 p (.lst (ns.map V.int))) _ := Ex.new (o := .lst (rgV 0 (n : Int))) hr'
          refine ⟨_, _, dp_ints (ns := ns) (sq_of (e4 _ _ upd_same)), dp_ints (ns := (List.range n).map fun (k : Nat) => (k : Int)) (sq_of ?_), shaped_ints _, shaped_ints _, _, rfl, ?_⟩
          · rw [upd_same, rgV_nv, nv_iv]
          · have e5 := (e.trans e2).trans (e3.trans e4)
            by_cases hq2 : ns = (List.range n).map fun (k : Nat) => (k : Int)
            · refine itF (by rw [eqv_ints, decide_eq_true hq2]; rfl) ?_
              refine ⟨_, rfl, e5, ?_⟩
              rw [List.take_add_one, hb, List.all_append, hall]
              show (true && ([b].all (okB n))) = true
              have : okB n b = true := by
                unfold okB
                rw [decide_eq_true (by omega), List.isPerm_iff.mpr ((sorted_is_range perm srt).mp hq2)]
                rfl
              simp [this]
            · refine itT (by rw [eqv_ints, decide_eq_false hq2]; rfl) ?_
              refine bad ?_ _ e5
              unfold okB
              have : b.1.isPerm (List.range n) = false := by
                cases hz : b.1.isPerm (List.range n) with
                | false => rfl
                | true => exact absurd ((sorted_is_range perm srt).mpr (List.isPerm_iff.mp hz)) hq2
              rw [this, Bool.and_false]
    · rintro σ' H' ⟨y, rfl, e, hall⟩
      rw [show xs.length = bs.length from Paired.len hP, List.take_length] at hall
      rw [hall] at q
      exact q H' e
theorem ok_asked_ballots (T : Tx K mg) : FnOk P w K mg base CX0 3 T.f_asked_ballots T.d_asked_ballots ["candidates", "ballots"] (spAskB K) := by
  refine T.F_asked_ballots.ok sc_asked_ballots (fun vs H Q E h => ?_) (fun cdv A outer s H vs Q E hr h => ?_)
  · obtain ⟨n, v, bs, rfl, _⟩ := h
    rfl
  · obtain ⟨n, v, bs, rfl, hn1, hn, hB, hok, q⟩ := h
    obtain ⟨a, xs, rfl, hS, hP⟩ := id hB
    refine ⟨_, pss_cons (ps_expr (pe_call (ok_asked_candidates T) (hr.mono (by decide)) (by rfl) T.g_asked_candidates T.F_asked_candidates.kp (b_asked_candidates T) .nil pass0 (pa_cons (pv 0) pa_nil)))
      (pss_one (ps_if (PW.pt (pw_or (pt_not (pt_val (pe_callB (isiK K) (by rfl) T.n_isinstance PyProof.Rows.boot_isinstance (pa_cons (pv 1) (pa_cons (pe_bltn (v := .ty "list") (by rfl) T.n_list bt_list rfl) pa_nil))))) (pw_or1 (pt_not (pt_val (pe_call (ok_are_ballots T) (hr.mono (by decide)) (by rfl) T.g_are_ballots T.F_are_ballots.kp (b_are_ballots T) .nil pass0 (pa_cons (pv 0) (pa_cons (pv 1) pa_nil)))))))) (pss_one (ps_never)) (pss_nil))), ?_⟩
    refine ⟨_, rfl, n, rfl, by omega, by omega, ?_⟩
    refine ⟨_, rfl, .ref a, .ty "list", _, _, true, rfl, .ty _, tyx_L hS, kit_ty (by decide +kernel), true, rfl, ?_⟩
    refine ⟨_, rfl, _, rfl, n, _, bs, rfl, hn, hB, fun b hb => ?_, fun H2 e2 => ?_⟩
    · rw [okB_len (List.all_eq_true.mp hok b hb)]
      omega
    · rw [hok]
      exact ⟨true, rfl, q H2 e2⟩
theorem ok_count_of (T : Tx K mg) : FnOk P w K mg base CX0 1 T.f_count_of T.d_count_of ["candidates", "ballots"] (spCount K) := by
  refine T.F_count_of.ok sc_count_of (fun vs H Q E h => ?_) (fun cdv A outer s H vs Q E hr h => ?_)
  · obtain ⟨n, v, bs, rfl, _⟩ := h
    rfl
  · obtain ⟨n, v, bs, rfl, hn, ⟨a, xs, rfl, hS, hP⟩, hk, q⟩ := h
    refine ⟨_, pss_cons (ps_setLc (i := 2) (own := [("one", 6)]) rfl sc_count_of.nd rfl rfl (sw_true rfl rfl rfl (by decide +kernel)) (pi_range1 (by rfl) T.n_range (pa_cons (pv 0) pa_nil)) (blkOk_by (own := [("one", 6)]) (N := ["candidates", "ballots", "table", "order", "many", "at", "one", "other"]) (sc := defScope s_count_of) (by decide +kernel)) (fun _ _ _ _ _ => (pg_name (i := 6) sc_count_of.nd rfl (by first | exact Or.inl rfl | exact Or.inr rfl))) (fun _ _ _ _ _ => pts_nil) (fun _ _ _ _ _ => (pe_op op_rep (pe_lst (pa_cons pe_int pa_nil)) (pv 0))))
      (pss_cons (ps_for PassesOwn.never rfl (piL K (pv 1)) (pgT K (n := 2) (pgs_cons (pg_name (i := 3) sc_count_of.nd rfl (by first | exact Or.inl rfl | exact Or.inr rfl)) (pgs_cons (pg_name (i := 4) sc_count_of.nd rfl (by first | exact Or.inl rfl | exact Or.inr rfl)) pgs_nil)))
        (pss_one (ps_for PassesOwn.never rfl (piE K (by rfl) T.n_enumerate (pa_cons (pv 3) pa_nil)) (pgT K (n := 2) (pgs_cons (pg_name (i := 5) sc_count_of.nd rfl (by first | exact Or.inl rfl | exact Or.inr rfl)) (pgs_cons (pg_name (i := 6) sc_count_of.nd rfl (by first | exact Or.inl rfl | exact Or.inr rfl)) pgs_nil)))
        (pss_one (ps_for PassesOwn.never rfl (piL K (pe_slice (slLK K) (pv 3) (po_some (pe_op op_add (pv 5) pe_int)) po_none)) (pg_name (i := 7) sc_count_of.nd rfl (by first | exact Or.inl rfl | exact Or.inr rfl))
        (pss_cons (ps_asg (pe_op op_add (pe_ix (ixLK K) (pe_ix (ixLK K) (pv 2) (pv 6) (fun _ _ => rfl)) (pv 7) (fun _ _ => rfl)) (pv 4)) (pg_sub (pe_ix (ixLK K) (pv 2) (pv 6) (fun _ _ => rfl)) (pv 7) set_list))
      (pss_one (ps_asg (pe_op op_sub (pe_ix (ixLK K) (pe_ix (ixLK K) (pv 2) (pv 7) (fun _ _ => rfl)) (pv 6) (fun _ _ => rfl)) (pv 4)) (pg_sub (pe_ix (ixLK K) (pv 2) (pv 7) (fun _ _ => rfl)) (pv 6) set_list)))))))))
      (pss_one (ps_ret (pv 2)))), ?_⟩
    refine ⟨_, rfl, n, rfl, by omega, by omega, fun D hD => ?_⟩
    refine lc_rows (n := n) (walk_range (lo := 0) (n := n)) hD (by omega) (fun _ _ => trivial) (fun _ => rowV n (fun _ => 0)) ?_ ?_
    · rintro i x H2 H2' hi e2 ⟨rfl, rfl⟩ Qc hq
      refine ⟨rfl, (by decide : 1 ≤ sizeLine), fun p hp => ⟨_, rfl, p, n, _, rfl, rfl, upd_same, by omega, by omega, ?_, fun r hr' => ?_⟩⟩
      · show 1 * (n : Int).toNat ≤ sizeLine
        exact sz_of (by omega)
      · have e3 : Ex H2' (upd H2' p (.lst [V.int 0])) := Ex.new hp
        refine hq r _ (fresh_back e3 hr') (e3.trans (Ex.new hr')) ?_
        rw [upd_same]
        show some (HO.lst (List.replicate n [V.int 0]).flatten) = _
        rw [rep_row]
    · intro H2 ps e2 hD2 hlen R
      have T0 : Tab H H2 D ps n (fun _ _ => 0) := R.tab hD hD2 hlen
      refine ⟨.ref a, rfl, a, rfl, ⟨xs, ex_l e2 hS⟩, for_list (K := K) (a := a) (xs := xs) (fun i σ' H' => ∃ y3 y4 y5 y6 y7, σ' = [some (.int n), some (.ref a), some (.ref D), y3, y4, y5, y6, y7] ∧ Ex H H' ∧ Tab H H' D ps n (cnt (bs.take i)))
        ⟨none, none, none, none, none, rfl, e2, T0⟩ (fun i σ' H' _ ⟨_, _, _, _, _, _, e, _⟩ => ex_l e hS) ?_ ?_⟩
      · rintro i x σ' H' hi ⟨y3, y4, y5, y6, y7, rfl, e, TT⟩
        obtain ⟨b, hb, t, l, rfl, hT, hL⟩ := Paired.get hP hi
        have hbm : b ∈ bs := List.mem_of_getElem? hb
        refine ⟨t, _, rfl, ex_t e hT, rfl, .ref l, _, rfl, .int b.2, [], rfl, rfl, ?_⟩
        refine ⟨.ref l, rfl, l, nv b.1, rfl, ex_l e hL, ?_⟩
        refine for_it (walk_enum (K := K) (a := l) (xs := nv b.1)) (fun p σ' H' => ∃ y5 y6 y7, σ' = [some (.int n), some (.ref a), some (.ref D), some (.ref l), some (.int b.2), y5, y6, y7] ∧ Ex H H' ∧ Tab H H' D ps n (fun i' j' => cnt (bs.take i) i' j' + b.2 * psA i' j' p b.1))
          ⟨_, _, _, rfl, e, TT.congr fun i' j' _ _ => by show cnt (bs.take i) i' j' = cnt (bs.take i) i' j' + b.2 * 0; omega⟩ (fun p σ' H' _ ⟨_, _, _, _, e, _⟩ => ex_l e hL) ?_ ?_
        · rintro p x σ' H' H'' hp ⟨y5, y6, y7, rfl, e, TT⟩ ⟨U, x1, x2, rfl, nU, rfl, h1, h2⟩
          cases h1
          obtain ⟨k, hk', rfl⟩ := nv_get h2
          have hkn : k < n := hk b hbm k (List.mem_of_getElem? hk')
          refine ⟨U, _, rfl, st_of upd_same, rfl, _, _, rfl, _, [], rfl, rfl, ?_⟩
          have e3 : Ex H' (upd H' U (.tup [.int (p : Nat), .int k])) := Ex.new nU
          refine ⟨.ref l, rfl, .int p, rfl, _, _, rfl, rfl, _, rfl, l, nv b.1, rfl, ex_l (e.trans e3) hL, fun c nc => ?_⟩
          rw [cut_nv_from]
          have e4 : Ex _ (upd (upd H' U (.tup [.int (p : Nat), .int k])) c (.lst (nv (b.1.drop (p + 1))))) := Ex.new nc
          have ncr : ∀ r ∈ ps, c ≠ r := fun r hr' ec => by
            obtain ⟨i0, hi0, ei0⟩ := List.mem_iff_getElem.mp hr'
            have := (TT.mono e3).row i0 r (by rw [List.getElem?_eq_getElem hi0, ei0])
            rw [← ec, nc] at this
            cases this
          refine ⟨c, rfl, ⟨_, sq_of upd_same⟩, for_list (K := K) (a := c) (xs := nv (b.1.drop (p + 1))) (fun z σ' H' => ∃ y7, σ' = [some (.int n), some (.ref a), some (.ref D), some (.ref l), some (.int b.2), some (.int p), some (.int k), y7] ∧ Ex H H' ∧ H' c = some (.lst (nv (b.1.drop (p + 1)))) ∧ Tab H H' D ps n (fun i' j' => cnt (bs.take i) i' j' + b.2 * (psA i' j' p b.1 + dsum i' j' k ((b.1.drop (p + 1)).take z))))
            ⟨_, rfl, (e.trans e3).trans e4, upd_same, ((TT.mono e3).mono e4).congr fun i' j' _ _ => by show _ = cnt (bs.take i) i' j' + b.2 * (psA i' j' p b.1 + 0); rw [Int.add_zero]⟩ (fun z σ' H' _ ⟨_, _, _, hc, _⟩ => sq_of hc) ?_ ?_⟩
          · rintro z x σ' H' hz ⟨y7, rfl, e, hc, TT⟩
            obtain ⟨m, hm, rfl⟩ := nv_get hz
            have hmn : m < n := hk b hbm m (List.mem_of_mem_drop (List.mem_of_getElem? hm))
            obtain ⟨r1, g1, m1, x1, c1⟩ := TT.at_ hkn
            have T1 := TT.put (b := m) (z := (cnt (bs.take i) k m + b.2 * (psA k m p b.1 + dsum k m k ((b.1.drop (p + 1)).take z))) + b.2) g1
            have e5 := fun o => TT.exMut (o := o) e m1
            obtain ⟨r2, g2, m2, x2, c2⟩ := T1.at_ hmn
            refine ⟨.ref D, rfl, .int k, rfl, D, _, k, .ref r1, rfl, rfl, sq_of TT.top, atI_nat x1, .int m, rfl, r1, _, m, .int _, rfl, rfl, sq_of c1, atI_nat (rowV_get hmn), .int b.2, rfl, _, _, rfl, rfl, .ref D, rfl, .int k, rfl, D, _, k, .ref r1, rfl, rfl, sq_of TT.top, atI_nat x1, .int m, rfl, r1, _, m, m, rfl, rfl, c1, ixN_nat (by rw [rowV_length]; exact hmn), ?_⟩
            refine ⟨.ref D, rfl, .int m, rfl, D, _, m, .ref r2, rfl, rfl, sq_of T1.top, atI_nat x2, .int k, rfl, r2, _, k, .int _, rfl, rfl, sq_of c2, atI_nat (rowV_get hkn), .int b.2, rfl, _, _, rfl, rfl, .ref D, rfl, .int m, rfl, D, _, m, .ref r2, rfl, rfl, sq_of T1.top, atI_nat x2, .int k, rfl, r2, _, k, k, rfl, rfl, c2, ixN_nat (by rw [rowV_length]; exact hkn), ?_⟩
            have T2 := T1.put (b := k) (z := (if m = k ∧ k = m then (cnt (bs.take i) k m + b.2 * (psA k m p b.1 + dsum k m k ((b.1.drop (p + 1)).take z))) + b.2 else (cnt (bs.take i) m k + b.2 * (psA m k p b.1 + dsum m k k ((b.1.drop (p + 1)).take z)))) - b.2) g2
            refine ⟨_, rfl, T1.exMut (e5 _) m2, ?_, T2.congr fun i' j' _ _ => ?_⟩
            · rw [upd_ne (ncr r2 m2), upd_ne (ncr r1 m1)]
              exact hc
            · rw [put_two (fun i' j' => cnt (bs.take i) i' j' + b.2 * (psA i' j' p b.1 + dsum i' j' k ((b.1.drop (p + 1)).take z))), dsum_take_succ _ _ _ _ _ _ hm]
              rw [Int.mul_add, Int.mul_add, Int.mul_add]
              omega
          · rintro σ' H' ⟨y7, rfl, e, hc, TT⟩
            refine ⟨_, _, _, rfl, e, TT.congr fun i' j' _ _ => ?_⟩
            rw [nv_length, List.take_length, psA_succ _ _ _ _ _ hk']
        · rintro σ' H' ⟨y5, y6, y7, rfl, e, TT⟩
          refine ⟨_, _, _, _, _, rfl, e, TT.congr fun i' j' _ _ => ?_⟩
          rw [nv_length, psA_all, cnt_take_succ _ _ _ hb]
      · rintro σ' H' ⟨y3, y4, y5, y6, y7, rfl, e, TT⟩
        rw [show xs.length = bs.length from Paired.len hP, List.take_length] at TT
        exact ⟨_, rfl, q H' D ps e TT⟩
theorem ok_counted (T : Tx K mg) : FnOk P w K mg base CX0 4 T.f_counted T.d_counted ["candidates", "ballots"] (spCounted K) := by
  refine T.F_counted.ok sc_counted (fun vs H Q E h => ?_) (fun cdv A outer s H vs Q E hr h => ?_)
  · obtain ⟨n, v, bs, rfl, _⟩ := h
    rfl
  · obtain ⟨n, v, bs, rfl, hn1, hn, hB, hok, q⟩ := h
    refine ⟨_, pss_cons (ps_expr (pe_call (ok_asked_ballots T) (hr.mono (by decide)) (by rfl) T.g_asked_ballots T.F_asked_ballots.kp (b_asked_ballots T) .nil pass0 (pa_cons (pv 0) (pa_cons (pv 1) pa_nil))))
      (pss_one (ps_ret (pe_call (ok_count_of T) (hr.mono (by decide)) (by rfl) T.g_count_of T.F_count_of.kp (b_count_of T) .nil pass0 (pa_cons (pv 0) (pa_cons (pv 1) pa_nil))))), ?_⟩
    refine ⟨_, rfl, _, rfl, n, v, bs, rfl, hn1, hn, hB, hok, fun H2 e2 => ?_⟩
    refine ⟨_, rfl, _, rfl, n, v, bs, rfl, hn, hB.mono e2, fun b hb => okB_lt (List.all_eq_true.mp hok b hb), fun H3 t rs e3 TT => q H3 t rs (e2.trans e3) (TT.base e2)⟩
def spAskT (K : PySem.W.Frag) : Sp := fun vs H Q _ => ∃ (v : V) (n : Nat) (f : Nat → Nat → Int), vs = [v] ∧ 1 ≤ n ∧ n ≤ 20 ∧ TabR K H v n f ∧ Anti n f ∧ ∀ H2, Ex H H2 → Q .non H2
theorem any_const_false (n : Nat) : ((List.range n).map fun _ => false).any id = false := by
  rw [List.any_map, List.any_eq_false]
  intro x _
  simp
theorem ok_asked_table (T : Tx K mg) : FnOk P w K mg base CX0 2 T.f_asked_table T.d_asked_table ["table"] (spAskT K) := by
  refine T.F_asked_table.ok sc_asked_table (fun vs H Q E h => ?_) (fun cdv A outer s H vs Q E hr h => ?_)
  · obtain ⟨v, n, f, rfl, _⟩ := h
    rfl
  · obtain ⟨v, n, f, rfl, hn1, hn, TT, hA, q⟩ := h
    obtain ⟨t, xs, rfl, hS, hl, hat⟩ := TT.at_
    refine ⟨_, pss_cons (ps_if (PW.pt (pw_or (pt_not (pt_val (pe_callB (isiK K) (by rfl) T.n_isinstance PyProof.Rows.boot_isinstance (pa_cons (pv 0) (pa_cons (pe_bltn (v := .ty "list") (by rfl) T.n_list bt_list rfl) pa_nil))))) (pw_or1 (pt_not (pt_chain op_le op_le pe_int (pe_callB (lenK K) (by rfl) T.n_len PySem.boot_len (pa_cons (pv 0) pa_nil)) (pe_glob (v := .int 20) (by rfl) T.g_MOST.choose_spec ⟨_, rfl⟩)))))) (pss_one (ps_never)) (pss_nil))
      (pss_cons (ps_for PassesOwn.never rfl (piL K (pv 0)) (pg_name (i := 1) sc_asked_table.nd rfl (by first | exact Or.inl rfl | exact Or.inr rfl))
        (pss_one (ps_if (PW.pt (pw_or (pt_not (pt_val (pe_callB (isiK K) (by rfl) T.n_isinstance PyProof.Rows.boot_isinstance (pa_cons (pv 1) (pa_cons (pe_bltn (v := .ty "list") (by rfl) T.n_list bt_list rfl) pa_nil))))) (pw_or (pt_cmpR op_ne (pe_callB (lenK K) (by rfl) T.n_len PySem.boot_len (pa_cons (pv 1) pa_nil)) (pe_callB (lenK K) (by rfl) T.n_len PySem.boot_len (pa_cons (pv 0) pa_nil)) (nomark _)) (pw_or1 (pt_not (pt_val (pe_callB (allK K) (by rfl) T.n_all PyProof.Rows.boot_all (pa_cons (pe_lc (own := [("one", 2)]) rfl sc_asked_table.nd (piL K (pv 1)) (blkOk_by (own := [("one", 2)]) (N := ["table", "row", "one", "other"]) (sc := defScope s_asked_table) (by decide +kernel)) (fun _ _ _ _ _ => (pg_name (i := 2) sc_asked_table.nd rfl (by first | exact Or.inl rfl | exact Or.inr rfl))) (fun _ _ _ _ _ => pts_nil) (fun _ _ _ _ _ => (pe_call (ok_is_number T) (hr.mono (by decide)) (by rfl) T.g_is_number T.F_is_number.kp (b_is_number T) .nil pass0 (pa_cons (pv 2) pa_nil)))) pa_nil)))))))) (pss_one (ps_never)) (pss_nil))))
      (pss_one (ps_for PassesOwn.never rfl (pi_range1 (by rfl) T.n_range (pa_cons (pe_callB (lenK K) (by rfl) T.n_len PySem.boot_len (pa_cons (pv 0) pa_nil)) pa_nil)) (pg_name (i := 2) sc_asked_table.nd rfl (by first | exact Or.inl rfl | exact Or.inr rfl))
        (pss_one (ps_if (pt_val (pe_callB (anyK K) (by rfl) T.n_any PyProof.Rows.boot_any (pa_cons (pe_lc (own := [("other", 3)]) rfl sc_asked_table.nd (pi_range1 (by rfl) T.n_range (pa_cons (pe_op op_add (pv 2) pe_int) pa_nil)) (blkOk_by (own := [("other", 3)]) (N := ["table", "row", "one", "other"]) (sc := defScope s_asked_table) (by decide +kernel)) (fun _ _ _ _ _ => (pg_name (i := 3) sc_asked_table.nd rfl (by first | exact Or.inl rfl | exact Or.inr rfl))) (fun _ _ _ _ _ => pts_nil) (fun _ _ _ _ _ => (pe_cmpR op_ne (pe_ix (ixLK K) (pe_ix (ixLK K) (pv 0) (pv 2) (fun _ _ => rfl)) (pv 3) (fun _ _ => rfl)) (pe_un un_neg (pe_ix (ixLK K) (pe_ix (ixLK K) (pv 0) (pv 3) (fun _ _ => rfl)) (pv 2) (fun _ _ => rfl))) (nomark _)))) pa_nil))) (pss_one (ps_never)) (pss_nil)))))), ?_⟩
    refine ⟨_, rfl, .ref t, .ty "list", _, _, true, rfl, .ty _, tyx_L hS, kit_ty (by decide +kernel), true, rfl, ?_⟩
    refine ⟨_, rfl, t, _, rfl, .inl hS, _, _, rfl, rfl, _, rfl, ?_⟩
    rw [if_pos (decide_eq_true (show (1 : Int) ≤ (xs.length : Int) by omega))]
    refine ⟨_, _, rfl, rfl, _, rfl, ?_⟩
    rw [decide_eq_true (show (xs.length : Int) ≤ 20 by omega)]
    refine ⟨.ref t, rfl, t, rfl, ⟨xs, hS⟩, for_list (K := K) (a := t) (xs := xs) (fun i σ' H' => ∃ y, σ' = [some (.ref t), y, none, none] ∧ Ex H H')
      ⟨none, rfl, Ex.refl H⟩ (fun i σ' H' _ ⟨_, _, e⟩ => ex_l e hS) ?_ ?_⟩
    · rintro i x σ' H' hi ⟨y, rfl, e⟩
      have hin : i < n := by rw [← hl]; exact (List.getElem?_eq_some_iff.mp hi).1
      obtain ⟨r, hr1, hr2⟩ := hat i hin
      rw [hr1] at hi
      cases hi
      have hr3 := ex_l e hr2
      refine ⟨_, rfl, .ref r, .ty "list", _, _, true, rfl, .ty _, tyx_L hr3, kit_ty (by decide +kernel), true, rfl, ?_⟩
      refine ⟨_, rfl, r, _, rfl, .inl hr3, _, rfl, t, _, rfl, .inl (ex_l e hS), rfl, _, rfl, ?_⟩
      refine itF (by rw [rowV_length, hl, decide_eq_true rfl]; rfl) ?_
      refine ⟨_, rfl, r, rfl, ⟨_, hr3⟩, fun D hD => ?_⟩
      refine lc_vals (walk_list (K := K) (a := r) (xs := rowV n (f i))) hD (by rw [rowV_length]; omega) (fun H2 e2 => ex_l e2 hr3) (fun _ => V.bl true) ?_ ?_
      · rintro j x H2 H2' hj e2 ⟨rfl, hx⟩ Qc hq
        have hjn : j < n := by rw [rowV_length] at hj; exact hj
        rw [rowV_get hjn] at hx
        cases hx
        exact ⟨rfl, _, rfl, _, true, rfl, isNum_int _, hq _ (Ex.refl _)⟩
      · intro H3 e3 hD3
        rw [map_const_bl] at hD3
        exact ⟨D, _, rfl, sq_of hD3, true, by rw [all_const_true], _, rfl, e.trans e3⟩
    · rintro σ' H' ⟨y, rfl, e⟩
      refine ⟨_, rfl, t, _, rfl, .inl (ex_l e hS), (xs.length : Int), rfl, by omega, by omega, ?_⟩
      rw [hl]
      refine for_it (walk_rg0 (n := n)) (fun i σ' H' => ∃ y1 y2, σ' = [some (.ref t), y1, y2, none] ∧ Ex H H') ⟨_, _, rfl, e⟩ (fun _ _ _ _ _ => trivial) ?_ ?_
      · rintro i x σ' H' H'' hi ⟨y1, y2, rfl, e⟩ ⟨rfl, rfl⟩
        refine ⟨_, rfl, _, _, rfl, rfl, ((i + 1 : Nat) : Int), rfl, by omega, by omega, fun D hD => ?_⟩
        refine lc_vals (n := i + 1) (walk_rg0 (n := i + 1)) hD (by omega) (fun _ _ => trivial) (fun _ => V.bl false) ?_ ?_
        · rintro j x H2 H2' hj e2 ⟨rfl, rfl⟩ Qc hq
          have hS2 := ex_l (e.trans e2) hS
          obtain ⟨r1, g1, g2⟩ := hat i hi
          obtain ⟨r2, g3, g4⟩ := hat j (by omega)
          have g2' := ex_l (e.trans e2) g2
          have g4' := ex_l (e.trans e2) g4
          refine ⟨rfl, _, rfl, _, rfl, t, _, i, .ref r1, rfl, rfl, hS2, atI_nat g1, _, rfl, r1, _, j, .int _, rfl, rfl, g2', atI_nat (rowV_get (by omega)), _, rfl, _, rfl, t, _, j, .ref r2, rfl, rfl, hS2, atI_nat g3, _, rfl, r2, _, i, .int _, rfl, rfl, g4', atI_nat (rowV_get hi), _, rfl, rfl, ?_⟩
          have e9 : (!decide (V.int (f i j) = V.int (- f j i))) = false := by
            rw [decide_eq_true (by rw [hA i j hi (by omega)])]
            rfl
          rw [e9]
          exact hq _ (Ex.refl _)
        · intro H3 e3 hD3
          rw [map_const_bl] at hD3
          exact ⟨D, _, rfl, sq_of hD3, false, by rw [any_const_false], _, _, rfl, e.trans e3⟩
      · rintro σ' H' ⟨y1, y2, rfl, e⟩
        exact q H' e
def prOk (a b : Int) (n : Nat) : Bool := decide (0 ≤ min a b) && (decide (min a b < max a b) && decide (max a b < (n : Int)))
def spPair (K : PySem.W.Frag) : Sp := fun vs H Q _ => ∃ (p : Addr) (a b : Int) (n : Nat), vs = [.ref p, .int (n : Int)] ∧ SqT K H p [.int a, .int b] ∧ Q (.bl (prOk a b n)) H
theorem ok_is_pair (T : Tx K mg) : FnOk P w K mg base CX0 1 T.f_is_pair T.d_is_pair ["pair", "size"] (spPair K) := by
  refine T.F_is_pair.ok sc_is_pair (fun vs H Q E h => ?_) (fun cdv A outer s H vs Q E hr h => ?_)
  · obtain ⟨p, a, b, n, rfl, _⟩ := h
    rfl
  · obtain ⟨p, a, b, n, rfl, hT, q⟩ := h
    refine ⟨_, pss_one (ps_ret (pe_and (pe_cmpR op_eq (pe_callB (lenK K) (by rfl) T.n_len PySem.boot_len (pa_cons (pv 0) pa_nil)) pe_int (nomark _)) (pe_one (pe_chain3 op_le op_lt op_lt pe_int (pe_callB (minTK K) (by rfl) T.n_min PyProof.Rows.boot_min (pa_cons (pv 0) pa_nil)) (pe_callB (maxTK K) (by rfl) T.n_max PyProof.Rows.boot_max (pa_cons (pv 0) pa_nil)) (pv 1))))), ?_⟩
    refine ⟨_, rfl, p, _, rfl, .inr hT, rfl, true, rfl, ?_⟩
    refine ⟨_, rfl, p, a, b, rfl, hT, _, _, rfl, rfl, _, rfl, ?_⟩
    unfold prOk at q
    refine it2 (fun h0 => ?_) (fun h0 => ?_)
    · rw [h0, Bool.true_and] at q
      refine ⟨_, rfl, p, a, b, rfl, hT, _, _, rfl, rfl, _, rfl, ?_⟩
      refine it2 (fun h1 => ?_) (fun h1 => ?_)
      · rw [h1, Bool.true_and] at q
        exact ⟨_, rfl, _, _, rfl, rfl, q⟩
      · rw [h1] at q
        exact q
    · rw [h0] at q
      exact q
end
end Hc
namespace Hc
open PySem PySem.Spec PyProof.Rows L2 Evl
section
variable {P : Program} {w : World} {K : PySem.W.Frag} {mg : Str → Option Value} {base : Heap}
def spBInit (K : PySem.W.Frag) (C : Addr) : Sp := fun vs H Q _ => ∃ (x dx : Addr) (v : V) (bs : List (List Nat × Int)), vs = [.ref x, v] ∧ H x = some (.ins C dx []) ∧ BalsR K H v bs ∧ bs.length ≤ 2000 ∧
  ∀ H2 D ts ls, ExB x H H2 → H2 x = some (.ins C dx [("ballots", .ref D)]) → BalsN H H2 D ts ls bs → Q .non H2
theorem ok_Ballots__init (T : Tx K mg) : FnOk P w K mg base CX0 1 T.f_Ballots__init T.d_Ballots__init ["self", "ballots"] (spBInit K T.c_Ballots) := by
  refine T.F_Ballots__init.ok sc_Ballots__init (fun vs H Q E h => ?_) (fun cdv A outer s H vs Q E hr h => ?_)
  · obtain ⟨x, dx, v, bs, rfl, _⟩ := h
    rfl
  · obtain ⟨x, dx, v, bs, rfl, hx, ⟨a, xs, rfl, hS, hP⟩, hlen, q⟩ := h
    have hxl : xs.length = bs.length := Paired.len hP
    refine ⟨_, pss_one (ps_fld (pv 0) (pe_lc (own := [("order", 2), ("many", 3)]) rfl sc_Ballots__init.nd (piL K (pv 1)) (blkOk_by (own := [("order", 2), ("many", 3)]) (N := ["self", "ballots", "order", "many"]) (sc := defScope s_Ballots__init) (by decide +kernel)) (fun _ _ _ _ _ => (pgT K (n := 2) (pgs_cons (pg_name (i := 2) sc_Ballots__init.nd rfl (by first | exact Or.inl rfl | exact Or.inr rfl)) (pgs_cons (pg_name (i := 3) sc_Ballots__init.nd rfl (by first | exact Or.inl rfl | exact Or.inr rfl)) pgs_nil)))) (fun _ _ _ _ _ => pts_nil) (fun _ _ _ _ _ => (pe_tup (pa_cons (pe_callTy (listK K) (by rfl) T.n_list bt_list (pa_cons (pv 2) pa_nil)) (pa_cons (pv 3) pa_nil))))) rfl), ?_⟩
    refine ⟨_, rfl, a, rfl, ⟨xs, hS⟩, fun D hD => ?_⟩
    refine lc_bals (walk_list (K := K) (a := a) (xs := xs)) hD (by omega) (fun H e => ex_l e hS) bs hxl.symm ?_ ?_
    · rintro i x Ha Ha' b hi hb ea ⟨rfl, hx⟩ Qc hq
      obtain ⟨b', hb', t, l, rfl, hT, hL⟩ := Paired.get hP hx
      rw [hb] at hb'
      cases hb'
      refine ⟨t, _, rfl, ex_t ea hT, rfl, .ref l, _, rfl, .int b.2, [], rfl, rfl, rfl, .ref l, rfl, l, nv b.1, rfl, .inl (ex_l ea hL), fun p np => ⟨_, rfl, (by decide : 2 ≤ sizeLine), fun t2 nt2 => ?_⟩⟩
      have ep := Ex.new (o := .lst (nv b.1)) np
      have et := Ex.new (o := .tup [.ref p, .int b.2]) nt2
      exact hq t2 p _ (fresh_back ep nt2) np (ep.trans et) upd_same (et _ _ upd_same)
    intro H4 ts ls e4 BN
    refine ⟨_, rfl, x, T.c_Ballots, dx, _, rfl, e4 _ _ hx, T.C_Ballots, T.a_Ballots_ballots, (by decide : (0 : Nat) < 1000), ?_⟩
    refine q _ D ts ls (fun b o n hb => by rw [upd_ne n]; exact e4 _ _ hb) upd_same ?_
    exact BN.exB (x := x) (by rw [hx]; simp) exB_upd
def shB (n : Nat) (f : Nat → Nat → Int) (bs : List (List Nat × Int)) : Bool := bs.all (okB n) && PyData.eqv (dTab n (cnt bs)) (dTab n f)
theorem shB_true {n : Nat} {f : Nat → Nat → Int} {bs : List (List Nat × Int)} (h : bs.all (okB n) = true) (e : ∀ i j, i < n → j < n → cnt bs i j = f i j) : shB n f bs = true := by
  unfold shB
  rw [h, eqv_tab e]
  rfl
def spBShows (K : PySem.W.Frag) (C : Addr) : Sp := fun vs H Q _ => ∃ (x dx : Addr) (v u : V) (bs : List (List Nat × Int)) (n : Nat) (f : Nat → Nat → Int), vs = [.ref x, v] ∧ H x = some (.ins C dx [("ballots", u)]) ∧ BalsR K H u bs ∧ (∀ b ∈ bs, b.1.length < 60) ∧ TabR K H v n f ∧ n ≤ 20 ∧
  ∀ H2, Ex H H2 → Q (.bl (shB n f bs)) H2
theorem ok_Ballots_shows (T : Tx K mg) : FnOk P w K mg base CX0 3 T.f_Ballots_shows T.d_Ballots_shows ["self", "table"] (spBShows K T.c_Ballots) := by
  refine T.F_Ballots_shows.ok sc_Ballots_shows (fun vs H Q E h => ?_) (fun cdv A outer s H vs Q E hr h => ?_)
  · obtain ⟨x, dx, v, u, bs, n, f, rfl, _⟩ := h
    rfl
  · obtain ⟨x, dx, v, u, bs, n, f, rfl, hx, hB, h60, TT, hn, q⟩ := h
    obtain ⟨t, xs, rfl, hS, hl, hat⟩ := TT.at_
    refine ⟨_, pss_one (ps_ret (pe_and (pe_call (ok_are_ballots T) (hr.mono (by decide)) (by rfl) T.g_are_ballots T.F_are_ballots.kp (b_are_ballots T) .nil pass0 (pa_cons (pe_callB (lenK K) (by rfl) T.n_len PySem.boot_len (pa_cons (pv 1) pa_nil)) (pa_cons (fldK K (pv 0)) pa_nil))) (pe_one (pe_cmpR (eqDK K hr.units) (pe_call (ok_count_of T) (hr.mono (by decide)) (by rfl) T.g_count_of T.F_count_of.kp (b_count_of T) .nil pass0 (pa_cons (pe_callB (lenK K) (by rfl) T.n_len PySem.boot_len (pa_cons (pv 1) pa_nil)) (pa_cons (fldK K (pv 0)) pa_nil))) (pv 1) (nomark _))))), ?_⟩
    refine ⟨_, rfl, t, _, rfl, .inl hS, _, rfl, x, T.c_Ballots, dx, _, _, rfl, hx, T.C_Ballots, T.a_Ballots_ballots, rfl, n, u, bs, by rw [hl]; rfl, hn, hB, h60, fun H2 e2 => ?_⟩
    refine ⟨_, rfl, ?_⟩
    unfold shB at q
    refine it2 (fun hall => ?_) (fun hall => ?_)
    · rw [hall, Bool.true_and] at q
      refine ⟨_, rfl, t, _, rfl, .inl (ex_l e2 hS), _, rfl, x, T.c_Ballots, dx, _, _, rfl, e2 _ _ hx, T.C_Ballots, T.a_Ballots_ballots, rfl, n, u, bs, by rw [hl]; rfl, hn, hB.mono e2, fun b hb => okB_lt (List.all_eq_true.mp hall b hb), fun H3 t2 rs e3 T2 => ?_⟩
      exact ⟨_, rfl, _, _, T2.rd.dp, (TT.mono (e2.trans e3)).dp, shaped_tab _ _, shaped_tab _ _, q _ (e2.trans e3)⟩
    · rw [hall] at q
      exact q _ e2
def spUInit (C : Addr) : Sp := fun vs H Q _ => ∃ (x dx : Addr) (p r : V), vs = [.ref x, p, r] ∧ H x = some (.ins C dx []) ∧ ∀ H2, ExB x H H2 → H2 x = some (.ins C dx [("one", p), ("other", r)]) → Q .non H2
def shU (n : Nat) (f : Nat → Nat → Int) (a b c d : Int) : Bool := prOk a b n && (prOk c d n && decide ((f a.toNat b.toNat + f c.toNat d.toNat) % 2 = 1))
def spUShows (K : PySem.W.Frag) (C : Addr) : Sp := fun vs H Q _ => ∃ (x dx p r : Addr) (v : V) (a b c d : Int) (n : Nat) (f : Nat → Nat → Int), vs = [.ref x, v] ∧ H x = some (.ins C dx [("one", .ref p), ("other", .ref r)]) ∧ SqT K H p [.int a, .int b] ∧ SqT K H r [.int c, .int d] ∧ TabR K H v n f ∧
  ∀ H2, Ex H H2 → Q (.bl (shU n f a b c d)) H2
theorem prOk_of {a b : Int} {n : Nat} (h : prOk a b n = true) : 0 ≤ a ∧ a < n ∧ 0 ≤ b ∧ b < n ∧ a ≠ b := by
  unfold prOk at h
  rw [Bool.and_eq_true, Bool.and_eq_true] at h
  have h1 := of_decide_eq_true h.1
  have h2 := of_decide_eq_true h.2.1
  have h3 := of_decide_eq_true h.2.2
  omega
theorem ok_Uneven__init (T : Tx K mg) : FnOk P w K mg base CX0 1 T.f_Uneven__init T.d_Uneven__init ["self", "one", "other"] (spUInit T.c_Uneven) := by
  refine T.F_Uneven__init.ok sc_Uneven__init (fun vs H Q E h => ?_) (fun cdv A outer s H vs Q E hr h => ?_)
  · obtain ⟨x, dx, p, r, rfl, _⟩ := h
    rfl
  · obtain ⟨x, dx, p, r, rfl, hx, q⟩ := h
    refine ⟨_, pss_cons (ps_fld (pv 0) (pv 1) rfl)
      (pss_one (ps_fld (pv 0) (pv 2) rfl)), ?_⟩
    refine ⟨_, rfl, _, rfl, x, T.c_Uneven, dx, _, rfl, hx, T.C_Uneven, T.a_Uneven_one, (by decide : (0 : Nat) < 1000), ?_⟩
    refine ⟨_, rfl, _, rfl, x, T.c_Uneven, dx, _, rfl, upd_same, T.C_Uneven, T.a_Uneven_other, (by decide : (1 : Nat) < 1000), ?_⟩
    exact q _ (fun b o n hb => by rw [upd_ne n, upd_ne n]; exact hb) upd_same
theorem ok_Uneven_shows (T : Tx K mg) : FnOk P w K mg base CX0 2 T.f_Uneven_shows T.d_Uneven_shows ["self", "table"] (spUShows K T.c_Uneven) := by
  refine T.F_Uneven_shows.ok sc_Uneven_shows (fun vs H Q E h => ?_) (fun cdv A outer s H vs Q E hr h => ?_)
  · obtain ⟨x, dx, p, r, v, a, b, c, d, n, f, rfl, _⟩ := h
    rfl
  · obtain ⟨x, dx, p, r, v, a, b, c, d, n, f, rfl, hx, hp, hr2, TT, q⟩ := h
    obtain ⟨t, xs, rfl, hS, hl, hat⟩ := TT.at_
    refine ⟨_, pss_cons (ps_if (PW.pt (pw_or (pt_not (pt_val (pe_call (ok_is_pair T) (hr.mono (by decide)) (by rfl) T.g_is_pair T.F_is_pair.kp (b_is_pair T) .nil pass0 (pa_cons (fldK K (pv 0)) (pa_cons (pe_callB (lenK K) (by rfl) T.n_len PySem.boot_len (pa_cons (pv 1) pa_nil)) pa_nil))))) (pw_or1 (pt_not (pt_val (pe_call (ok_is_pair T) (hr.mono (by decide)) (by rfl) T.g_is_pair T.F_is_pair.kp (b_is_pair T) .nil pass0 (pa_cons (fldK K (pv 0)) (pa_cons (pe_callB (lenK K) (by rfl) T.n_len PySem.boot_len (pa_cons (pv 1) pa_nil)) pa_nil)))))))) (pss_one (ps_ret pe_bl)) (pss_nil))
      (pss_cons (ps_set (i := 2) sc_Uneven_shows.nd rfl (Or.inl rfl) (pe_ix (ixLK K) (pe_ix (ixLK K) (pv 1) (pe_ix (ixTK K) (pe_fld (pv 0) rfl) pe_int (fun _ _ => rfl)) (fun _ _ => rfl)) (pe_ix (ixTK K) (pe_fld (pv 0) rfl) pe_int (fun _ _ => rfl)) (fun _ _ => rfl)))
      (pss_one (ps_ret (pe_cmpR op_eq (pe_op op_mod (pe_op op_add (pv 2) (pe_ix (ixLK K) (pe_ix (ixLK K) (pv 1) (pe_ix (ixTK K) (pe_fld (pv 0) rfl) pe_int (fun _ _ => rfl)) (fun _ _ => rfl)) (pe_ix (ixTK K) (pe_fld (pv 0) rfl) pe_int (fun _ _ => rfl)) (fun _ _ => rfl))) pe_int) pe_int (nomark _))))), ?_⟩
    unfold shU at q
    refine ⟨_, rfl, x, T.c_Uneven, dx, _, _, rfl, hx, T.C_Uneven, T.a_Uneven_one, rfl, _, rfl, t, _, rfl, .inl hS, p, a, b, n, by rw [hl]; rfl, hp, _, rfl, ?_⟩
    cases h1 : prOk a b n with
    | false =>
      rw [h1] at q
      exact q _ (Ex.refl _)
    | true =>
      rw [h1, Bool.true_and] at q
      refine ⟨_, rfl, x, T.c_Uneven, dx, _, _, rfl, hx, T.C_Uneven, T.a_Uneven_other, rfl, _, rfl, t, _, rfl, .inl hS, r, c, d, n, by rw [hl]; rfl, hr2, _, rfl, ?_⟩
      cases h2 : prOk c d n with
      | false =>
        rw [h2] at q
        exact q _ (Ex.refl _)
      | true =>
        rw [h2, Bool.true_and] at q
        obtain ⟨a0, a1, b0, b1, _⟩ := prOk_of h1
        obtain ⟨c0, c1, d0, d1, _⟩ := prOk_of h2
        obtain ⟨a', rfl⟩ : ∃ k : Nat, a = (k : Int) := ⟨a.toNat, by omega⟩
        obtain ⟨b', rfl⟩ : ∃ k : Nat, b = (k : Int) := ⟨b.toNat, by omega⟩
        obtain ⟨c', rfl⟩ : ∃ k : Nat, c = (k : Int) := ⟨c.toNat, by omega⟩
        obtain ⟨d', rfl⟩ : ∃ k : Nat, d = (k : Int) := ⟨d.toNat, by omega⟩
        obtain ⟨r1, g1, g2⟩ := hat a' (by omega)
        obtain ⟨r2, g3, g4⟩ := hat c' (by omega)
        refine ⟨_, rfl, _, rfl, x, T.c_Uneven, dx, _, _, rfl, hx, T.C_Uneven, T.a_Uneven_one, rfl, p, _, 0, _, rfl, rfl, hp, rfl, t, _, a', .ref r1, rfl, rfl, hS, atI_nat g1, _, rfl, x, T.c_Uneven, dx, _, _, rfl, hx, T.C_Uneven, T.a_Uneven_one, rfl, p, _, 1, _, rfl, rfl, hp, rfl, r1, _, b', .int _, rfl, rfl, g2, atI_nat (rowV_get (by omega)), ?_⟩
        refine ⟨_, rfl, _, rfl, _, rfl, x, T.c_Uneven, dx, _, _, rfl, hx, T.C_Uneven, T.a_Uneven_other, rfl, r, _, 0, _, rfl, rfl, hr2, rfl, t, _, c', .ref r2, rfl, rfl, hS, atI_nat g3, _, rfl, x, T.c_Uneven, dx, _, _, rfl, hx, T.C_Uneven, T.a_Uneven_other, rfl, r, _, 1, _, rfl, rfl, hr2, rfl, r2, _, d', .int _, rfl, rfl, g4, atI_nat (rowV_get (by omega)), _, _, rfl, rfl, _, _, rfl, rfl, (by decide : (0 : Int) < 2), rfl, ?_⟩
        have e9 : decide (V.int ((f a' b' + f c' d') % 2) = V.int 1) = decide ((f a' b' + f c' d') % 2 = 1) := by
          by_cases h : (f a' b' + f c' d') % 2 = 1
          · rw [decide_eq_true h, decide_eq_true (by rw [h])]
          · rw [decide_eq_false h, decide_eq_false (fun e => h (by injection e))]
        rw [e9]
        exact q _ (Ex.refl _)
end
end Hc
namespace Hc
open PySem PySem.Spec PyProof.Rows L2 Evl
section
variable {P : Program} {w : World} {K : PySem.W.Frag} {mg : Str → Option Value} {base : Heap}
def spNInit (C : Addr) : Sp := fun vs H Q _ => ∃ (x dx : Addr) (v : V), vs = [.ref x, v] ∧ H x = some (.ins C dx []) ∧ ∀ H2, ExB x H H2 → H2 x = some (.ins C dx [("who", v)]) → Q .non H2
def spNShows (K : PySem.W.Frag) (C : Addr) : Sp := fun vs H Q _ => ∃ (x dx : Addr) (v : V) (k : Int) (n : Nat) (f : Nat → Nat → Int), vs = [.ref x, v] ∧ H x = some (.ins C dx [("who", .int k)]) ∧ TabR K H v n f ∧ 1 ≤ n ∧ Q (.bl (shN n f k)) H
theorem min_row {n : Nat} {g : Nat → Int} {m : Int} (hm : m ∈ (List.range n).map g) (hle : ∀ y, y ∈ (List.range n).map g → m ≤ y) : decide (0 ≤ m) = (List.range n).all fun j => decide (0 ≤ g j) := by
  rw [Bool.eq_iff_iff, List.all_eq_true]
  constructor
  · intro h j hj
    have h1 := of_decide_eq_true h
    have h2 := hle (g j) (List.mem_map.mpr ⟨j, hj, rfl⟩)
    exact decide_eq_true (by omega)
  · intro h
    obtain ⟨j, hj, rfl⟩ := List.mem_map.mp hm
    exact decide_eq_true (of_decide_eq_true (h j hj))
theorem ok_Unbeaten__init (T : Tx K mg) : FnOk P w K mg base CX0 1 T.f_Unbeaten__init T.d_Unbeaten__init ["self", "who"] (spNInit T.c_Unbeaten) := by
  refine T.F_Unbeaten__init.ok sc_Unbeaten__init (fun vs H Q E h => ?_) (fun cdv A outer s H vs Q E hr h => ?_)
  · obtain ⟨x, dx, v, rfl, _⟩ := h
    rfl
  · obtain ⟨x, dx, v, rfl, hx, q⟩ := h
    refine ⟨_, pss_one (ps_fld (pv 0) (pv 1) rfl), ?_⟩
    refine ⟨_, rfl, _, rfl, x, T.c_Unbeaten, dx, _, rfl, hx, T.C_Unbeaten, T.a_Unbeaten_who, (by decide : (0 : Nat) < 1000), ?_⟩
    exact q _ exB_upd upd_same
theorem ok_Unbeaten_shows (T : Tx K mg) : FnOk P w K mg base CX0 1 T.f_Unbeaten_shows T.d_Unbeaten_shows ["self", "table"] (spNShows K T.c_Unbeaten) := by
  refine T.F_Unbeaten_shows.ok sc_Unbeaten_shows (fun vs H Q E h => ?_) (fun cdv A outer s H vs Q E hr h => ?_)
  · obtain ⟨x, dx, v, k, n, f, rfl, _⟩ := h
    rfl
  · obtain ⟨x, dx, v, k, n, f, rfl, hx, TT, hn1, q⟩ := h
    obtain ⟨t, xs, rfl, hS, hl, hat⟩ := TT.at_
    refine ⟨_, pss_one (ps_ret (pe_and (pe_chain op_le op_lt pe_int (fldK K (pv 0)) (pe_callB (lenK K) (by rfl) T.n_len PySem.boot_len (pa_cons (pv 1) pa_nil))) (pe_one (pe_cmpR op_ge (pe_callB (minK K) (by rfl) T.n_min PyProof.Rows.boot_min (pa_cons (pe_ix (ixLK K) (pv 1) (fldK K (pv 0)) (fun _ _ => rfl)) pa_nil)) pe_int (nomark _))))), ?_⟩
    unfold shN inB at q
    refine ⟨_, rfl, x, T.c_Unbeaten, dx, _, _, rfl, hx, T.C_Unbeaten, T.a_Unbeaten_who, rfl, _, _, rfl, rfl, _, rfl, ?_⟩
    refine it2 (fun h0 => ?_) (fun h0 => ?_)
    · rw [h0, Bool.true_and] at q
      refine ⟨_, rfl, t, _, rfl, .inl hS, _, _, rfl, rfl, _, rfl, ?_⟩
      rw [hl]
      refine it2 (fun h1 => ?_) (fun h1 => ?_)
      · rw [h1, Bool.true_and] at q
        have h0' := of_decide_eq_true h0
        have h1' := of_decide_eq_true h1
        obtain ⟨k', rfl⟩ : ∃ k' : Nat, k = (k' : Int) := ⟨k.toNat, by omega⟩
        obtain ⟨r, g1, g2⟩ := hat k' (by omega)
        rw [rowV_iv] at g2
        refine ⟨_, rfl, _, rfl, x, T.c_Unbeaten, dx, _, _, rfl, hx, T.C_Unbeaten, T.a_Unbeaten_who, rfl, t, _, k', .ref r, rfl, rfl, hS, atI_nat g1, r, _, rfl, g2, by rw [List.length_map, List.length_range]; omega, fun m hm hle => ⟨_, _, rfl, rfl, ?_⟩⟩
        show Q (V.bl (decide (0 ≤ m))) H
        rw [min_row hm hle]
        exact q
      · rw [h1] at q
        exact q
    · rw [h0] at q
      exact ⟨false, rfl, q⟩
def spRInit (K : PySem.W.Frag) (C : Addr) : Sp := fun vs H Q _ => ∃ (x dx l : Addr) (ns : List Int), vs = [.ref x, .ref l] ∧ H x = some (.ins C dx []) ∧ SqL K H l (iv ns) ∧ ∀ H2 p, ExB x H H2 → H p = none → H2 x = some (.ins C dx [("way", .ref p)]) → H2 p = some (.lst (iv ns)) → Q .non H2
def spRShows (K : PySem.W.Frag) (C : Addr) : Sp := fun vs H Q _ => ∃ (x dx p : Addr) (v : V) (ns : List Int) (n : Nat) (f : Nat → Nat → Int), vs = [.ref x, v] ∧ H x = some (.ins C dx [("way", .ref p)]) ∧ SqL K H p (iv ns) ∧ ns.length ≤ 1000 ∧ TabR K H v n f ∧ ∀ H2, Ex H H2 → Q (.bl (shR n f ns)) H2
theorem map_bl_all {n : Nat} {p : Nat → Bool} : ((List.range n).map fun i => V.bl (p i)) = ((List.range n).map p).map V.bl := by
  rw [List.map_map]
  rfl
theorem all_map_id {n : Nat} {p : Nat → Bool} : ((List.range n).map p).all id = (List.range n).all p := by
  rw [List.all_map]
  rfl
theorem all_at0 (ns : List Int) (p : Int → Bool) : ((List.range ns.length).all fun i => p (at0 ns i)) = ns.all p := by
  rw [Bool.eq_iff_iff, List.all_eq_true, List.all_eq_true]
  constructor
  · intro h k hk
    obtain ⟨i, hi, e⟩ := List.mem_iff_getElem.mp hk
    have h1 := h i (List.mem_range.mpr hi)
    unfold at0 at h1
    rw [List.getD_eq_getElem?_getD, List.getElem?_eq_getElem hi] at h1
    rw [← e]
    exact h1
  · intro h i hi
    rw [List.mem_range] at hi
    unfold at0
    rw [List.getD_eq_getElem?_getD, List.getElem?_eq_getElem hi]
    exact h _ (List.getElem_mem hi)
theorem iv_at0 {ns : List Int} {i : Nat} (h : i < ns.length) : (iv ns)[i]? = some (V.int (at0 ns i)) := by
  unfold iv at0
  rw [List.getElem?_map, List.getElem?_eq_getElem h, List.getD_eq_getElem?_getD, List.getElem?_eq_getElem h]
  rfl
theorem atI_back {ns : List Int} {i : Nat} (h : i < ns.length) : atI (iv ns) ((i : Int) - 1) = some (V.int (at0 ns (if i = 0 then ns.length - 1 else i - 1))) := by
  by_cases e : i = 0
  · subst e
    rw [if_pos rfl]
    have h1 : iv ns = (iv ns).dropLast ++ [V.int (at0 ns (ns.length - 1))] := by
      have h2 : (iv ns)[ns.length - 1]? = some (V.int (at0 ns (ns.length - 1))) := iv_at0 (by omega)
      have h3 : iv ns ≠ [] := fun e => by
        have := iv_length ns
        rw [e] at this
        simp at this
        omega
      have h4 := List.dropLast_concat_getLast h3
      have h5 : (iv ns).getLast h3 = V.int (at0 ns (ns.length - 1)) := by
        rw [List.getLast_eq_getElem]
        rw [List.getElem?_eq_getElem (by rw [iv_length]; omega)] at h2
        have h6 := Option.some.inj h2
        rw [← h6]
        congr 1
        rw [iv_length]
      rw [h5] at h4
      exact h4.symm
    rw [h1]
    exact atI_last _ _
  · rw [if_neg e, show (i : Int) - 1 = ((i - 1 : Nat) : Int) by omega]
    exact atI_nat (iv_at0 (by omega))
theorem ok_Ring__init (T : Tx K mg) : FnOk P w K mg base CX0 1 T.f_Ring__init T.d_Ring__init ["self", "way"] (spRInit K T.c_Ring) := by
  refine T.F_Ring__init.ok sc_Ring__init (fun vs H Q E h => ?_) (fun cdv A outer s H vs Q E hr h => ?_)
  · obtain ⟨x, dx, l, ns, rfl, _⟩ := h
    rfl
  · obtain ⟨x, dx, l, ns, rfl, hx, hL, q⟩ := h
    refine ⟨_, pss_one (ps_fld (pv 0) (pe_callTy (listK K) (by rfl) T.n_list bt_list (pa_cons (pv 1) pa_nil)) rfl), ?_⟩
    refine ⟨_, rfl, l, _, rfl, .inl hL, fun p np => ?_⟩
    have ep := Ex.new (o := .lst (iv ns)) np
    refine ⟨_, rfl, x, T.c_Ring, dx, _, rfl, ep _ _ hx, T.C_Ring, T.a_Ring_way, (by decide : (0 : Nat) < 1000), ?_⟩
    have nxp : p ≠ x := (ne_of_fresh hx np).symm
    exact q _ p (fun a o n h => by rw [upd_ne n]; exact ep _ _ h) np upd_same (by rw [upd_ne nxp]; exact upd_same)
theorem ok_Ring_shows (T : Tx K mg) : FnOk P w K mg base CX0 1 T.f_Ring_shows T.d_Ring_shows ["self", "table"] (spRShows K T.c_Ring) := by
  refine T.F_Ring_shows.ok sc_Ring_shows (fun vs H Q E h => ?_) (fun cdv A outer s H vs Q E hr h => ?_)
  · obtain ⟨x, dx, p, v, ns, n, f, rfl, _⟩ := h
    rfl
  · obtain ⟨x, dx, p, v, ns, n, f, rfl, hx, hp, hlen, TT, q⟩ := h
    obtain ⟨t, xs, rfl, hS, hl, hat⟩ := TT.at_
    refine ⟨_, pss_cons (ps_if (PW.pt (pw_or (pt_cmpR (eqDK K hr.units) (fldK K (pv 0)) (pe_lst pa_nil) (nomark _)) (pw_or1 (pt_cmpR op_ne (pe_callB lenZ (by rfl) T.n_len PySem.boot_len (pa_cons (pe_callTy (setLK K) (by rfl) T.n_set bt_set (pa_cons (fldK K (pv 0)) pa_nil)) pa_nil)) (pe_callB (lenK K) (by rfl) T.n_len PySem.boot_len (pa_cons (fldK K (pv 0)) pa_nil)) (nomark _))))) (pss_one (ps_ret pe_bl)) (pss_nil))
      (pss_cons (ps_if (pt_not (pt_val (pe_callB (allK K) (by rfl) T.n_all PyProof.Rows.boot_all (pa_cons (pe_lc (own := [("one", 2)]) rfl sc_Ring_shows.nd (piL K (fldK K (pv 0))) (blkOk_by (own := [("one", 2)]) (N := ["self", "table", "one", "at"]) (sc := defScope s_Ring_shows) (by decide +kernel)) (fun _ _ _ _ _ => (pg_name (i := 2) sc_Ring_shows.nd rfl (by first | exact Or.inl rfl | exact Or.inr rfl))) (fun _ _ _ _ _ => pts_nil) (fun _ _ _ _ _ => (pe_chain op_le op_lt pe_int (pv 2) (pe_callB (lenK K) (by rfl) T.n_len PySem.boot_len (pa_cons (pv 1) pa_nil))))) pa_nil)))) (pss_one (ps_ret pe_bl)) (pss_nil))
      (pss_one (ps_ret (pe_callB (allK K) (by rfl) T.n_all PyProof.Rows.boot_all (pa_cons (pe_lc (own := [("at", 3)]) rfl sc_Ring_shows.nd (pi_range1 (by rfl) T.n_range (pa_cons (pe_callB (lenK K) (by rfl) T.n_len PySem.boot_len (pa_cons (fldK K (pv 0)) pa_nil)) pa_nil)) (blkOk_by (own := [("at", 3)]) (N := ["self", "table", "one", "at"]) (sc := defScope s_Ring_shows) (by decide +kernel)) (fun _ _ _ _ _ => (pg_name (i := 3) sc_Ring_shows.nd rfl (by first | exact Or.inl rfl | exact Or.inr rfl))) (fun _ _ _ _ _ => pts_nil) (fun _ _ _ _ _ => (pe_cmpR op_gt (pe_ix (ixLK K) (pe_ix (ixLK K) (pv 1) (pe_ix (ixLK K) (fldK K (pv 0)) (pe_op op_sub (pv 3) pe_int) (fun _ _ => rfl)) (fun _ _ => rfl)) (pe_ix (ixLK K) (fldK K (pv 0)) (pv 3) (fun _ _ => rfl)) (fun _ _ => rfl)) pe_int (nomark _)))) pa_nil))))), ?_⟩
    unfold shR at q
    have fx : ∀ {H'}, Ex H H' → H' x = some (.ins T.c_Ring dx [("way", .ref p)]) := fun e => e _ _ hx
    refine ⟨_, rfl, x, T.c_Ring, dx, _, _, rfl, hx, T.C_Ring, T.a_Ring_way, rfl, Nat.zero_le _, fun o no => ?_⟩
    have eo := Ex.new (o := .lst []) no
    refine ⟨_, _, dp_ints (ex_l eo hp), dp_ints (ns := []) (sq_of upd_same), shaped_ints _, shaped_ints _, _, rfl, ?_⟩
    rw [eqv_ints]
    refine it2 (fun h0 => ?_) (fun h0 => ?_)
    · have h0' : ns = [] := of_decide_eq_true h0
      rw [h0'] at q
      exact q _ eo
    · have h0' : ns ≠ [] := of_decide_eq_false h0
      have e0 : (!ns.isEmpty) = true := by
        cases hns : ns with
        | nil => exact absurd hns h0'
        | cons _ _ => rfl
      rw [e0, Bool.true_and] at q
      refine ⟨_, rfl, x, T.c_Ring, dx, _, _, rfl, fx eo, T.C_Ring, T.a_Ring_way, rfl, p, ns, rfl, ex_l eo hp, by omega, fun z0 d nz0 hd hdm hdl => ⟨z0, _, _, rfl, upd_same, by omega, ?_⟩⟩
      replace eo := eo.trans (Ex.new (o := .set (fun k => d.any (· == k)) d.length) nz0)
      refine ⟨_, rfl, x, T.c_Ring, dx, _, _, rfl, fx eo, T.C_Ring, T.a_Ring_way, rfl, p, _, rfl, .inl (ex_l eo hp), rfl, _, rfl, ?_⟩
      rw [dec_int, iv_length]
      have edn : (!decide ((d.length : Int) = (ns.length : Int))) = !decide ns.Nodup := by
        congr 1
        have := set_len hd hdm
        by_cases h : ns.Nodup
        · rw [decide_eq_true h, decide_eq_true (by have := this.mpr h; omega)]
        · rw [decide_eq_false h, decide_eq_false (fun e => h (this.mp (by omega)))]
      show if (!decide ((d.length : Int) = (ns.length : Int))) = true then _ else _
      rw [edn]
      refine it2 (fun h1 => ?_) (fun h1 => ?_)
      · have h1' : decide ns.Nodup = false := by
          cases h : decide ns.Nodup with
          | false => rfl
          | true => rw [h] at h1; cases h1
        rw [h1'] at q
        exact q _ eo
      · have h1' : decide ns.Nodup = true := by
          cases h : decide ns.Nodup with
          | true => rfl
          | false => rw [h] at h1; cases h1
        rw [h1', Bool.true_and] at q
        refine ⟨_, rfl, x, T.c_Ring, dx, _, _, rfl, fx eo, T.C_Ring, T.a_Ring_way, rfl, p, rfl, ⟨_, ex_l eo hp⟩, fun D hD => ?_⟩
        refine lc_vals (walk_list (K := K) (a := p) (xs := iv ns)) hD (by rw [iv_length]; omega) (fun H2 e2 => ex_l (eo.trans e2) hp) (fun i => V.bl (inB n (at0 ns i))) ?_ ?_
        · rintro j y H2 H2' hj e2 ⟨rfl, hy⟩ Qc hq
          rw [iv_length] at hj
          rw [iv_at0 hj] at hy
          cases hy
          refine ⟨rfl, _, rfl, _, _, rfl, rfl, _, rfl, ?_⟩
          unfold inB at hq
          refine it2 (fun k0 => ?_) (fun k0 => ?_)
          · rw [k0, Bool.true_and] at hq
            refine ⟨_, rfl, t, _, rfl, .inl (ex_l (eo.trans e2) hS), _, _, rfl, rfl, ?_⟩
            rw [hl]
            exact hq _ (Ex.refl _)
          · rw [k0, Bool.false_and] at hq
            exact hq _ (Ex.refl _)
        · intro H2 e2 hD2
          rw [iv_length, map_bl_all] at hD2
          refine ⟨D, _, rfl, sq_of hD2, _, rfl, ?_⟩
          rw [all_map_id, all_at0 ns (inB n)]
          have e12 := eo.trans e2
          show if (!ns.all (inB n)) = true then _ else _
          refine it2 (fun h2 => ?_) (fun h2 => ?_)
          · have h2' : ns.all (inB n) = false := by
              cases h : ns.all (inB n) with
              | false => rfl
              | true => rw [h] at h2; cases h2
            rw [h2'] at q
            exact q _ e12
          · have h2' : ns.all (inB n) = true := by
              cases h : ns.all (inB n) with
              | true => rfl
              | false => rw [h] at h2; cases h2
            rw [h2', Bool.true_and] at q
            have hin : ∀ i, i < ns.length → ∃ k : Nat, at0 ns i = (k : Int) ∧ k < n := fun i hi => by
              have := all_at0 ns (inB n)
              rw [h2', List.all_eq_true] at this
              have h9 := this i (List.mem_range.mpr hi)
              unfold inB at h9
              rw [Bool.and_eq_true] at h9
              have k0 := of_decide_eq_true h9.1
              have k1 := of_decide_eq_true h9.2
              exact ⟨(at0 ns i).toNat, by omega, by omega⟩
            refine ⟨_, rfl, x, T.c_Ring, dx, _, _, rfl, fx e12, T.C_Ring, T.a_Ring_way, rfl, p, _, rfl, .inl (ex_l e12 hp), ((iv ns).length : Int), rfl, by rw [iv_length]; omega, by rw [iv_length]; omega, fun D3 hD3 => ?_⟩
            rw [iv_length]
            refine lc_vals (n := ns.length) (walk_rg0 (n := ns.length)) hD3 (by omega) (fun _ _ => trivial) (fun i => V.bl (decide (0 < f (at0 ns (if i = 0 then ns.length - 1 else i - 1)).toNat (at0 ns i).toNat))) ?_ ?_
            · rintro j y H3 H3' hj e3 ⟨rfl, rfl⟩ Qc hq
              have e13 := e12.trans e3
              obtain ⟨k1, hk1, hk1n⟩ := hin (if j = 0 then ns.length - 1 else j - 1) (by split <;> omega)
              obtain ⟨k2, hk2, hk2n⟩ := hin j hj
              rw [hk1, hk2, Int.toNat_natCast, Int.toNat_natCast] at hq
              obtain ⟨r, g1, g2⟩ := hat k1 hk1n
              have hb := atI_back hj
              rw [hk1] at hb
              have hb2 := iv_at0 hj
              rw [hk2] at hb2
              refine ⟨rfl, _, rfl, _, rfl, x, T.c_Ring, dx, _, _, rfl, fx e13, T.C_Ring, T.a_Ring_way, rfl, _, rfl, _, _, rfl, rfl, p, _, _, _, rfl, rfl, ex_l e13 hp, hb, t, _, k1, .ref r, rfl, rfl, ex_l e13 hS, atI_nat g1, _, rfl, x, T.c_Ring, dx, _, _, rfl, fx e13, T.C_Ring, T.a_Ring_way, rfl, _, rfl, p, _, j, _, rfl, rfl, ex_l e13 hp, atI_nat hb2, r, _, k2, .int _, rfl, rfl, ex_l e13 g2, atI_nat (rowV_get hk2n), _, _, rfl, rfl, hq _ (Ex.refl _)⟩
            · intro H3 e3 hD3'
              rw [map_bl_all] at hD3'
              refine ⟨D3, _, rfl, sq_of hD3', ?_⟩
              rw [all_map_id]
              exact q _ (e12.trans e3)
end
end Hc
namespace Hc
open PySem PySem.Spec PyProof.Rows L2 Evl
section
variable {P : Program} {w : World} {K : PySem.W.Frag} {mg : Str → Option Value} {base : Heap}
def spTwo (K : PySem.W.Frag) : Sp := fun vs H Q _ => ∃ (n a b : Nat) (m : Int), vs = [.int (n : Int), .int (a : Int), .int (b : Int), .int m] ∧ n ≤ 20 ∧ ∀ H2 D ts ls, Ex H H2 → BalsN H H2 D ts ls (twoB n a b m) → Q (.ref D) H2
theorem ok_two_ballots (T : Tx K mg) : FnOk P w K mg base CX0 1 T.f_two_ballots T.d_two_ballots ["size", "ahead", "behind", "many"] (spTwo K) := by
  refine T.F_two_ballots.ok sc_two_ballots (fun vs H Q E h => ?_) (fun cdv A outer s H vs Q E hr h => ?_)
  · obtain ⟨n, a, b, m, rfl, _⟩ := h
    rfl
  · obtain ⟨n, a, b, m, rfl, hn, q⟩ := h
    refine ⟨_, pss_cons (ps_setLc (i := 4) (own := [("one", 5)]) rfl sc_two_ballots.nd rfl rfl (sw_true rfl rfl rfl (by decide +kernel)) (pi_range1 (by rfl) T.n_range (pa_cons (pv 0) pa_nil)) (blkOk_by (own := [("one", 5)]) (N := ["size", "ahead", "behind", "many", "rest", "one"]) (sc := defScope s_two_ballots) (by decide +kernel)) (fun _ _ _ _ _ => (pg_name (i := 5) sc_two_ballots.nd rfl (by first | exact Or.inl rfl | exact Or.inr rfl))) (fun _ _ _ _ _ => pts_one (pt_cmpR (notInK K) (pv 5) (pe_tup (pa_cons (pv 1) (pa_cons (pv 2) pa_nil))) (by rfl))) (fun _ _ _ _ _ => (pv 5)))
      (pss_one (ps_ret (pe_lst (pa_cons (pe_tup (pa_cons (pe_op op_cat (pe_lst (pa_cons (pv 1) (pa_cons (pv 2) pa_nil))) (pv 4)) (pa_cons (pv 3) pa_nil))) (pa_cons (pe_tup (pa_cons (pe_op op_cat (revLK K (pv 4)) (pe_lst (pa_cons (pv 1) (pa_cons (pv 2) pa_nil)))) (pa_cons (pv 3) pa_nil))) pa_nil))))), ?_⟩
    refine ⟨_, rfl, n, rfl, by omega, by omega, fun D hD => ?_⟩
    refine lc_filt (n := n) (walk_rg0 (n := n)) hD (by omega) (fun _ _ => trivial) (fun k => !(k == a || k == b)) (fun k => V.int (k : Int)) ?_ ?_
    · rintro i x Ha Ha' hi ea ⟨rfl, rfl⟩ B Qc hf ht
      refine ⟨rfl, _, rfl, _, rfl, _, rfl, (by decide : 2 ≤ sizeLine), fun tp ntp => ⟨tp, _, rfl, .inr (st_of upd_same), rfl, rfl, _, rfl, ?_⟩⟩
      have etp := Ex.new (o := .tup [V.int (a : Int), V.int (b : Int)]) ntp
      have ei : inV (V.int (i : Int)) [V.int (a : Int), V.int (b : Int)] = (i == a || i == b) := by
        unfold inV
        rw [List.any_cons, List.any_cons, List.any_nil, eqV_int, eqV_int, Bool.or_false]
        have e1 : ∀ k : Nat, ((k : Int) == (i : Int)) = (i == k) := fun k => by
          by_cases h : i = k
          · subst h
            simp
          · have h2 : ¬ ((k : Int) = (i : Int)) := by omega
            rw [beq_false_of_ne h2, beq_false_of_ne h]
        rw [e1, e1]
      show if (!inV (V.int (i : Int)) [V.int (a : Int), V.int (b : Int)]) = true then _ else _
      rw [ei]
      refine it2 (fun hp => ?_) (fun hp => ?_)
      · exact ⟨_, rfl, ht _ etp hp⟩
      · exact hf _ etp hp
    · intro H2 e2 hD2
      have hD2' : H2 D = some (.lst (nv (restOf n a b))) := hD2
      refine ⟨_, rfl, _, rfl, (by decide : 2 ≤ sizeLine), fun p1 np1 => ?_⟩
      have f1 := Ex.new (o := .lst [V.int (a : Int), V.int (b : Int)]) np1
      have hlr : (restOf n a b).length ≤ n := by
        unfold restOf
        refine Nat.le_trans (List.length_filter_le _ _) ?_
        rw [List.length_range]
        exact Nat.le_refl _
      refine ⟨_, rfl, p1, D, _, _, rfl, rfl, upd_same, f1 _ _ hD2', sz_of (by rw [nv_length]; show 2 + _ ≤ _; omega), fun l1 nl1 => ?_⟩
      have f2 := Ex.new (o := .lst ([V.int (a : Int), V.int (b : Int)] ++ nv (restOf n a b))) nl1
      refine ⟨_, rfl, (by decide : 2 ≤ sizeLine), fun t1 nt1 => ?_⟩
      have f3 := Ex.new (o := .tup [.ref l1, .int m]) nt1
      have hD3 := f3 _ _ (f2 _ _ (f1 _ _ hD2'))
      refine ⟨_, rfl, D, _, rfl, sq_of hD3, fun p2 np2 => ?_⟩
      have f4 := Ex.new (o := .lst (nv (restOf n a b)).reverse) np2
      refine ⟨_, rfl, _, rfl, (by decide : 2 ≤ sizeLine), fun p3 np3 => ?_⟩
      have f5 := Ex.new (o := .lst [V.int (a : Int), V.int (b : Int)]) np3
      refine ⟨p2, p3, _, _, rfl, rfl, f5 _ _ upd_same, upd_same, sz_of (by rw [List.length_reverse, nv_length]; show _ + 2 ≤ _; omega), fun l2 nl2 => ?_⟩
      have f6 := Ex.new (o := .lst ((nv (restOf n a b)).reverse ++ [V.int (a : Int), V.int (b : Int)])) nl2
      refine ⟨_, rfl, (by decide : 2 ≤ sizeLine), fun t2 nt2 => ?_⟩
      have f7 := Ex.new (o := .tup [.ref l2, .int m]) nt2
      refine ⟨(by decide : 2 ≤ sizeLine), fun R nR => ?_⟩
      have f8 := Ex.new (o := .lst [.ref t1, .ref t2]) nR
      have e12 := e2.trans f1
      have e13 := e12.trans f2
      have e14 := e13.trans f3
      have e15 := (e14.trans f4).trans f5
      have e16 := e15.trans f6
      have e17 := e16.trans f7
      refine q _ R [t1, t2] [l1, l2] (e17.trans f8) (balsN_two (b1 := (a :: b :: restOf n a b, m)) (b2 := ((restOf n a b).reverse ++ [a, b], m)) upd_same (f8 _ _ (f7 _ _ (f6 _ _ (f5 _ _ (f4 _ _ upd_same))))) ?_ (f8 _ _ upd_same) ?_ ?_ (fresh_back e12 nl1) (fresh_back e15 nl2) (fresh_back e13 nt1) (fresh_back e16 nt2) (fresh_back e17 nR))
      · exact f8 _ _ (f7 _ _ (f6 _ _ (f5 _ _ (f4 _ _ (f3 _ _ upd_same)))))
      · rw [f8 _ _ (f7 _ _ upd_same)]
        unfold nv
        rw [List.map_append, List.map_reverse]
        rfl
      · exact ne_of_fresh (f5 _ _ (f4 _ _ (f3 _ _ upd_same))) nl2
/-- what told tells of a table -/
inductive Told (cB cU : Addr) (H H2 : Hp) (x : Addr) (n : Nat) (f : Nat → Nat → Int) : Prop where
  | bal (dx D : Addr) (ts ls : List Addr) (bs : List (List Nat × Int)) (hx : H2 x = some (.ins cB dx [("ballots", .ref D)])) (B : BalsN H H2 D ts ls bs) (ok : bs.all (okB n) = true) (ec : ∀ i j, i < n → j < n → cnt bs i j = f i j) (al : Alike n f) (len : bs.length ≤ 1000)
  | une (dx t1 t2 : Addr) (a b : Nat) (hx : H2 x = some (.ins cU dx [("one", .ref t1), ("other", .ref t2)])) (h1 : H2 t1 = some (.tup [.int 0, .int 1])) (h2 : H2 t2 = some (.tup [.int (a : Int), .int (b : Int)])) (hab : a < b) (hb : b < n) (odd : (f 0 1 + f a b) % 2 = 1)
def spTold (K : PySem.W.Frag) (cB cU : Addr) : Sp := fun vs H Q _ => ∃ (v : V) (n : Nat) (f : Nat → Nat → Int), vs = [v] ∧ 1 ≤ n ∧ n ≤ 20 ∧ TabR K H v n f ∧ Anti n f ∧ ∀ H2 x, Ex H H2 → H x = none → Told cB cU H H2 x n f → Q (.ref x) H2
def Par (n : Nat) (f : Nat → Nat → Int) (o : Int) (a b : Nat) : Prop := ∀ i j, i < j → j < n → (i < a ∨ (i = a ∧ j < b)) → (f i j - o) % 2 = 0
theorem okB_two {n a b : Nat} {m : Int} (ha : a < n) (hb : b < n) (hab : a ≠ b) (hm : 1 ≤ m) : (twoB n a b m).all (okB n) = true := by
  unfold twoB okB
  rw [List.all_cons, List.all_cons, List.all_nil, decide_eq_true hm, List.isPerm_iff.mpr (two_perm ha hb hab), List.isPerm_iff.mpr (two_perm2 ha hb hab)]
  rfl
theorem ok_told (T : Tx K mg) : FnOk P w K mg base CX0 3 T.f_told T.d_told ["table"] (spTold K T.c_Ballots T.c_Uneven) := by
  refine T.F_told.ok sc_told (fun vs H Q E h => ?_) (fun cdv A outer s H vs Q E hr h => ?_)
  · obtain ⟨v, n, f, rfl, _⟩ := h
    rfl
  · obtain ⟨v, n, f, rfl, hn1, hn, TT, hA, q⟩ := h
    obtain ⟨t, tx, rfl, hS, hl, hat⟩ := TT.at_
    refine ⟨_, pss_cons (ps_expr (pe_call (ok_asked_table T) (hr.mono (by decide)) (by rfl) T.g_asked_table T.F_asked_table.kp (b_asked_table T) .nil pass0 (pa_cons (pv 0) pa_nil)))
      (pss_cons (ps_set (i := 1) sc_told.nd rfl (Or.inl rfl) (pe_callB (lenK K) (by rfl) T.n_len PySem.boot_len (pa_cons (pv 0) pa_nil)))
      (Evl.pss_cut (ps_set (i := 2) sc_told.nd rfl (Or.inl rfl) (pe_and (pe_cmpR op_gt (pv 1) pe_int (nomark _)) (pe_one (pe_cmpR op_eq (pe_op op_mod (pe_ix (ixLK K) (pe_ix (ixLK K) (pv 0) pe_int (fun _ _ => rfl)) pe_int (fun _ _ => rfl)) pe_int) pe_int (nomark _)))))
      (Evl.pss_cut (ps_set (i := 3) sc_told.nd rfl (Or.inl rfl) (pe_ifExp (pt_val (pv 2)) (pe_lst (pa_cons (pe_tup (pa_cons (pe_listRg rfl (by rfl) T.n_list (prg_1 (by rfl) T.n_range (pv 1))) (pa_cons pe_int pa_nil))) pa_nil)) (pe_lst pa_nil)))
      (pss_cons (ps_for PassesOwn.never rfl (pi_range1 (by rfl) T.n_range (pa_cons (pv 1) pa_nil)) (pg_name (i := 4) sc_told.nd rfl (by first | exact Or.inl rfl | exact Or.inr rfl))
        (pss_one (ps_for PassesOwn.never rfl (pi_range2 (by rfl) T.n_range (pa_cons (pe_op op_add (pv 4) pe_int) (pa_cons (pv 1) pa_nil))) (pg_name (i := 5) sc_told.nd rfl (by first | exact Or.inl rfl | exact Or.inr rfl))
        (pss_cons (ps_set (i := 6) sc_told.nd rfl (Or.inl rfl) (pe_op op_sub (pe_ix (ixLK K) (pe_ix (ixLK K) (pv 0) (pv 4) (fun _ _ => rfl)) (pv 5) (fun _ _ => rfl)) (pe_callTy call_int1 (by rfl) T.n_int bt_int (pa_cons (pv 2) pa_nil))))
      (pss_cons (ps_if (pt_cmpR op_eq (pe_op op_mod (pv 6) pe_int) pe_int (nomark _)) (pss_one (ps_ret (pe_make T.M_Uneven (ok_Uneven__init T) (hr.mono (by decide)) (by rfl) T.g_Uneven (b_Uneven__init T) .nil pass0 (pa_cons (pe_tup (pa_cons pe_int (pa_cons pe_int pa_nil))) (pa_cons (pe_tup (pa_cons (pv 4) (pa_cons (pv 5) pa_nil))) pa_nil))))) (pss_nil))
      (pss_cons (ps_if (pt_cmpR op_gt (pv 6) pe_int (nomark _)) (pss_one (ps_expr (pe_bm PySem.F.plainAttrs_list PySem.F.slot_list_extend PySem.F.type_list_extend mt_extend (pv 3) (pa_cons (pe_call (ok_two_ballots T) (hr.mono (by decide)) (by rfl) T.g_two_ballots T.F_two_ballots.kp (b_two_ballots T) .nil pass0 (pa_cons (pv 1) (pa_cons (pv 4) (pa_cons (pv 5) (pa_cons (pe_op op_fdivW (pv 6) pe_int) pa_nil))))) pa_nil)))) (pss_nil))
      (pss_one (ps_if (pt_cmpR op_lt (pv 6) pe_int (nomark _)) (pss_one (ps_expr (pe_bm PySem.F.plainAttrs_list PySem.F.slot_list_extend PySem.F.type_list_extend mt_extend (pv 3) (pa_cons (pe_call (ok_two_ballots T) (hr.mono (by decide)) (by rfl) T.g_two_ballots T.F_two_ballots.kp (b_two_ballots T) .nil pass0 (pa_cons (pv 1) (pa_cons (pv 5) (pa_cons (pv 4) (pa_cons (pe_op op_fdivW (pe_un un_neg (pv 6)) pe_int) pa_nil))))) pa_nil)))) (pss_nil)))))))))
      (pss_one (ps_ret (pe_make T.M_Ballots (ok_Ballots__init T) (hr.mono (by decide)) (by rfl) T.g_Ballots (b_Ballots__init T) .nil pass0 (pa_cons (pv 3) pa_nil)))))))), ?_⟩
    refine ⟨_, rfl, _, n, f, rfl, hn1, hn, TT, hA, fun H1 e1 => ?_⟩
    refine ⟨_, rfl, t, _, rfl, .inl (ex_l e1 hS), ?_⟩
    rw [hl]
    have hS1 := ex_l e1 hS
    have hat1 : ∀ i, i < n → ∃ r, tx[i]? = some (V.ref r) ∧ SqL K H1 r (rowV n (f i)) := fun i hi => by
      obtain ⟨r, h1, h2⟩ := hat i hi
      exact ⟨r, h1, ex_l e1 h2⟩
    obtain ⟨o, ho⟩ : ∃ o : Bool, o = (decide (1 < n) && decide (f 0 1 % 2 = 1)) := ⟨_, rfl⟩
    refine ⟨fun σ' H' => H1 = H' ∧ σ' = [some (.ref t), some (.int n), some (.bl o), none, none, none, none], ?_, ?_⟩
    · refine ⟨_, rfl, _, _, rfl, rfl, _, rfl, it2 (fun h1 => ?_) (fun h1 => ?_)⟩
      · have h1' : 1 < n := by
          have := of_decide_eq_true h1
          omega
        obtain ⟨r, g1, g2⟩ := hat1 0 (by omega)
        refine ⟨_, rfl, t, _, 0, .ref r, rfl, rfl, hS1, atI_nat (j := 0) g1, r, _, 1, .int _, rfl, rfl, g2, atI_nat (j := 1) (rowV_get h1'), _, _, rfl, rfl, (by decide : (0 : Int) < 2), rfl, ?_⟩
        rw [dec_int, ho, decide_eq_true h1', Bool.true_and]
        exact ⟨rfl, rfl⟩
      · have h1' : ¬ 1 < n := by
          have := of_decide_eq_false h1
          omega
        rw [ho, decide_eq_false h1', Bool.false_and]
        exact ⟨rfl, rfl⟩
    rintro _ _ ⟨rfl, rfl⟩
    obtain ⟨oi, hoi⟩ : ∃ oi : Int, oi = (if o = true then 1 else 0) := ⟨_, rfl⟩
    refine ⟨fun σ' H' => ∃ F xs bs, σ' = [some (.ref t), some (.int n), some (.bl o), some (.ref F), none, none, none] ∧ Ex H1 H' ∧ H1 F = none ∧ H' F = some (.lst xs) ∧ Paired (BalR K (rem H' F)) xs bs ∧ bs.all (okB n) = true ∧ Done n f oi 0 1 bs ∧ bs.length ≤ 1, ?_, ?_⟩
    · refine ⟨_, rfl, o, rfl, it2 (fun h1 => ?_) (fun h1 => ?_)⟩
      · refine ⟨_, rfl, n, rfl, rgOk_nat (by omega), fun L0 nL0 => ?_⟩
        rw [rgV_nv]
        have f1 := Ex.new (o := .lst (nv (List.range n))) nL0
        refine ⟨(by decide : 2 ≤ sizeLine), fun t1 nt1 => ?_⟩
        have f2 := Ex.new (o := .tup [.ref L0, .int 1]) nt1
        refine ⟨(by decide : 1 ≤ sizeLine), fun F nF => ?_⟩
        have f3 := Ex.new (o := .lst [.ref t1]) nF
        refine ⟨F, _, [(List.range n, 1)], rfl, (f1.trans f2).trans f3, fresh_back (f1.trans f2) nF, upd_same, ?_, ?_, done_start fun i j hi hj => ?_, Nat.le_refl _⟩
        · refine .cons ⟨t1, L0, rfl, st_of ?_, sq_of ?_⟩ .nil
          · rw [rem_ne (ne_of_fresh upd_same nF)]
            exact f3 _ _ upd_same
          · rw [rem_ne (ne_of_fresh (f2 _ _ upd_same) nF)]
            exact f3 _ _ (f2 _ _ upd_same)
        · unfold okB
          rw [List.all_cons, List.all_nil, List.isPerm_iff.mpr (List.Perm.refl _)]
          rfl
        · rw [cnt_cons, cnt_nil, psum_range, if_pos ⟨hi, hj⟩, if_neg (by omega), hoi, if_pos h1]
          rfl
      · refine ⟨Nat.zero_le _, fun F nF => ?_⟩
        refine ⟨F, [], [], rfl, Ex.new nF, nF, upd_same, .nil, rfl, done_start fun i j hi hj => ?_, by decide⟩
        rw [cnt_nil, hoi, h1]
        rfl
    rintro _ H2 ⟨F, xs, bs, rfl, e2, nF, hF, hP, hok, hdn, hlen⟩
    refine ⟨_, rfl, n, rfl, by omega, by omega, ?_⟩
    refine for_it (walk_rg0 (n := n)) (fun i σ' H' => ∃ y4 y5 y6 xs bs, σ' = [some (.ref t), some (.int n), some (.bl o), some (.ref F), y4, y5, y6] ∧ Ex H1 H' ∧ H' F = some (.lst xs) ∧ Paired (BalR K (rem H' F)) xs bs ∧ bs.all (okB n) = true ∧ Done n f oi i (i + 1) bs ∧ bs.length ≤ 1 + 40 * i ∧ Par n f oi i (i + 1))
      ⟨_, _, _, xs, bs, rfl, e2, hF, hP, hok, hdn, hlen, fun i j hi hj h => by omega⟩ (fun _ _ _ _ _ => trivial) ?_ ?_
    · rintro i x σ' H' H'' hi ⟨y4, y5, y6, xs, bs, rfl, e, hF, hP, hok, hdn, hlen, hpar⟩ ⟨rfl, rfl⟩
      refine ⟨_, rfl, _, _, rfl, rfl, _, rfl, ((i + 1 : Nat) : Int), (n : Int), rfl, ⟨by omega, by omega, by omega, by omega⟩, ?_⟩
      rw [show ((n : Int) - ((i + 1 : Nat) : Int)).toNat = n - (i + 1) by omega]
      refine for_it (walk_rg (a := i + 1) (n := n - (i + 1))) (fun z σ' H' => ∃ y5 y6 xs bs, σ' = [some (.ref t), some (.int n), some (.bl o), some (.ref F), some (.int i), y5, y6] ∧ Ex H1 H' ∧ H' F = some (.lst xs) ∧ Paired (BalR K (rem H' F)) xs bs ∧ bs.all (okB n) = true ∧ Done n f oi i (i + 1 + z) bs ∧ bs.length ≤ 1 + 40 * i + 2 * z ∧ Par n f oi i (i + 1 + z))
        ⟨_, _, xs, bs, rfl, e, hF, hP, hok, hdn, hlen, hpar⟩ (fun _ _ _ _ _ => trivial) ?_ ?_
      · rintro z x σ' H' H'' hz ⟨y5, y6, xs, bs, rfl, e, hF, hP, hok, hdn, hlen, hpar⟩ ⟨rfl, rfl⟩
        obtain ⟨j, hj⟩ : ∃ j, j = i + 1 + z := ⟨_, rfl⟩
        rw [← hj] at hdn hpar ⊢
        have hij : i < j := by omega
        have hjn : j < n := by omega
        obtain ⟨r, g1, g2⟩ := hat1 i hi
        refine ⟨_, rfl, _, rfl, t, _, i, .ref r, rfl, rfl, ex_l e hS1, atI_nat g1, _, rfl, r, _, j, .int _, rfl, rfl, ex_l e g2, atI_nat (rowV_get hjn), _, rfl, .inr ⟨o, rfl, _, _, rfl, rfl, ?_⟩⟩
        rw [← hoi]
        have hoi2 : oi = 0 ∨ oi = 1 := by rw [hoi]; split <;> simp
        have hxl : xs.length = bs.length := Paired.len hP
        have nFn : H'' F ≠ none := by rw [hF]; simp
        refine ⟨_, rfl, _, _, rfl, rfl, (by decide : (0 : Int) < 2), rfl, _, rfl, it2 (fun h1 => ?_) (fun h1 => ?_)⟩
        · rw [dec_int] at h1
          have h1' := of_decide_eq_true h1
          have hn2 : 1 < n := by omega
          have hodd : (f 0 1 + f i j) % 2 = 1 := by
            rw [hoi, ho, decide_eq_true hn2, Bool.true_and] at h1'
            by_cases h9 : f 0 1 % 2 = 1
            · rw [decide_eq_true h9, if_pos rfl] at h1'
              omega
            · rw [decide_eq_false h9, if_neg (by decide)] at h1'
              omega
          refine ⟨(by decide : 2 ≤ sizeLine), fun t1 nt1 => ?_⟩
          have f1 := Ex.new (o := .tup [.int 0, .int 1]) nt1
          refine ⟨_, rfl, _, rfl, (by decide : 2 ≤ sizeLine), fun t2 nt2 => ?_⟩
          have f2 := Ex.new (o := .tup [.int (i : Int), .int (j : Int)]) nt2
          intro x dx nx ndx nxd
          refine ⟨x, dx, _, _, rfl, upd_same, fun H3 eB hx => ⟨rfl, ?_⟩⟩
          have f5 : Ex _ H3 := ex_after nx ndx nxd eB
          have e9 : Ex H H3 := (e1.trans (e.trans (f1.trans f2))).trans f5
          exact q H3 x e9 (fresh_back (e1.trans (e.trans (f1.trans f2))) nx) (.une dx t1 t2 i j hx (f5 _ _ (f2 _ _ upd_same)) (f5 _ _ upd_same) hij hjn hodd)
        · rw [dec_int] at h1
          have h1' := of_decide_eq_false h1
          have hev : (f i j - oi) % 2 = 0 := by omega
          have hpar2 : Par n f oi i (j + 1) := fun a b hab hb h => by
            by_cases h9 : a = i ∧ b = j
            · rw [h9.1, h9.2]
              exact hev
            · exact hpar a b hab hb (by omega)
          by_cases hpos : 0 < f i j - oi
          · refine ⟨_, rfl, _, _, rfl, rfl, _, rfl, itT (decide_eq_true hpos) ?_⟩
            refine ⟨_, rfl, .inl ⟨rfl, _, sq_of hF⟩, _, rfl, _, rfl, _, rfl, _, rfl, _, _, rfl, rfl, divW_small (by decide) (by decide), n, i, j, _, rfl, hn, fun H3 D ts ls e3 BN => ?_⟩
            have hm : 1 ≤ (f i j - oi) / 2 := by omega
            refine ⟨F, D, xs, _, rfl, rfl, e3 _ _ hF, BN.top, sz_of (by rw [List.length_map, BN.lt]; show _ + 2 ≤ _; omega), ?_⟩
            refine ⟨_, rfl, _, _, rfl, rfl, _, rfl, itF (decide_eq_false (by omega)) ?_⟩
            refine ⟨_, _, xs ++ ts.map V.ref, bs ++ twoB n i j ((f i j - oi) / 2), rfl, (e.trans e3).mut nF, upd_same, ?_, ?_, ?_, ?_, ?_⟩
            · rw [rem_upd]
              exact Paired.append (Paired.mapP hP fun _ _ q => q.mono (rem_mono e3)) (BN.rem nFn)
            · rw [List.all_append, hok, okB_two hi hjn (by omega) hm]
              rfl
            · rw [show i + 1 + (z + 1) = j + 1 by omega]
              exact done_step hdn hij (by omega)
            · rw [List.length_append]
              show _ + 2 ≤ _
              omega
            · rw [show i + 1 + (z + 1) = j + 1 by omega]
              exact hpar2
          · refine ⟨_, rfl, _, _, rfl, rfl, _, rfl, itF (decide_eq_false hpos) ?_⟩
            by_cases hneg : f i j - oi < 0
            · refine ⟨_, rfl, _, _, rfl, rfl, _, rfl, itT (decide_eq_true hneg) ?_⟩
              refine ⟨_, rfl, .inl ⟨rfl, _, sq_of hF⟩, _, rfl, _, rfl, _, rfl, _, rfl, _, rfl, _, _, rfl, rfl, divW_small (by decide) (by decide), n, j, i, _, rfl, hn, fun H3 D ts ls e3 BN => ?_⟩
              have hm : 1 ≤ -(f i j - oi) / 2 := by omega
              refine ⟨F, D, xs, _, rfl, rfl, e3 _ _ hF, BN.top, sz_of (by rw [List.length_map, BN.lt]; show _ + 2 ≤ _; omega), ?_⟩
              refine ⟨_, _, xs ++ ts.map V.ref, bs ++ twoB n j i (-(f i j - oi) / 2), rfl, (e.trans e3).mut nF, upd_same, ?_, ?_, ?_, ?_, ?_⟩
              · rw [rem_upd]
                exact Paired.append (Paired.mapP hP fun _ _ q => q.mono (rem_mono e3)) (BN.rem nFn)
              · rw [List.all_append, hok, okB_two hjn hi (by omega) hm]
                rfl
              · rw [show i + 1 + (z + 1) = j + 1 by omega]
                exact done_back hdn hij (by omega)
              · rw [List.length_append]
                show _ + 2 ≤ _
                omega
              · rw [show i + 1 + (z + 1) = j + 1 by omega]
                exact hpar2
            · refine ⟨_, rfl, _, _, rfl, rfl, _, rfl, itF (decide_eq_false hneg) ?_⟩
              refine ⟨_, _, xs, bs, rfl, e, hF, hP, hok, ?_, by omega, ?_⟩
              · rw [show i + 1 + (z + 1) = j + 1 by omega]
                exact done_same hdn (by omega)
              · rw [show i + 1 + (z + 1) = j + 1 by omega]
                exact hpar2
      · rintro σ' H' ⟨y5, y6, xs, bs, rfl, e, hF, hP, hok, hdn, hlen, hpar⟩
        rw [show i + 1 + (n - (i + 1)) = n by omega] at hdn hpar
        refine ⟨_, _, _, xs, bs, rfl, e, hF, hP, hok, done_row hdn, by omega, fun a b hab hb h => hpar a b hab hb (by omega)⟩
    · rintro σ' H' ⟨y4, y5, y6, xs, bs, rfl, e, hF, hP, hok, hdn, hlen, hpar⟩
      refine ⟨_, rfl, ?_⟩
      intro x dx nx ndx nxd
      have f4 := ex_made (C := T.c_Ballots) nx ndx nxd
      refine ⟨x, dx, _, bs, rfl, upd_same, ⟨F, xs, rfl, sq_of (f4 _ _ hF), Paired.mapP hP fun _ _ q => (q.mono rem_ex).mono f4⟩, by omega, fun H3 D ts ls eB hx BN => ⟨rfl, ?_⟩⟩
      have f5 : Ex _ H3 := ex_after nx ndx nxd eB
      refine q H3 x ((e1.trans e).trans f5) (fresh_back (e1.trans e) nx) (.bal dx D ts ls bs hx (BN.base ((e1.trans e).trans f4)) hok (done_all hA hdn) (fun i j hi hj => ?_) (by omega))
      have h1 := hpar i j hi hj (by omega)
      have h2 := hpar 0 1 (by omega) (by omega) (by omega)
      omega
end
end Hc
namespace Hc
open PySem PySem.Spec PyProof.Rows L2 Evl
section
variable {P : Program} {w : World} {K : PySem.W.Frag} {mg : Str → Option Value} {base : Heap}
theorem bnot_f {b : Bool} (h : (!b) = false) : b = true := by cases b <;> first | rfl | cases h
theorem bnot_t {b : Bool} (h : (!b) = true) : b = false := by cases b <;> first | rfl | cases h
def spWid (K : PySem.W.Frag) : Sp := fun vs H Q _ => ∃ (v : V) (n : Nat) (f : Nat → Nat → Int), vs = [v] ∧ n ≤ 20 ∧ TabR K H v n f ∧ ∀ H2 t rs, Ex H H2 → Tab H H2 t rs n (wid f n) → Q (.ref t) H2
/-- within a phase: the cells ahead of (a, b) are done -/
def mixW (m a b : Nat) (g : Nat → Nat → Int) (i j : Nat) : Int := if i < a ∨ (i = a ∧ j < b) then phase m g i j else g i j
theorem mixW_zero (m : Nat) (g : Nat → Nat → Int) (i j : Nat) : mixW m 0 0 g i j = g i j := if_neg (by omega)
theorem mixW_here {m a b : Nat} {g : Nat → Nat → Int} : mixW m a b g a b = g a b := if_neg (by omega)
theorem mixW_col {m a b i : Nat} {g : Nat → Nat → Int} : mixW m a b g i m = g i m := by
  unfold mixW
  rw [phase_col, ite_self]
theorem mixW_row {m a b j : Nat} {g : Nat → Nat → Int} : mixW m a b g m j = g m j := by
  unfold mixW
  rw [phase_row, ite_self]
theorem mixW_skip {m a b : Nat} {g : Nat → Nat → Int} (h : ¬ (a ≠ b ∧ m ≠ a ∧ m ≠ b)) (i j : Nat) : mixW m a b g i j = mixW m a (b + 1) g i j := by
  unfold mixW
  by_cases e : i = a ∧ j = b
  · obtain ⟨rfl, rfl⟩ := e
    rw [if_neg (by omega), if_pos (by omega)]
    unfold phase
    rw [if_neg h]
  · by_cases c : i < a ∨ (i = a ∧ j < b)
    · rw [if_pos c, if_pos (by omega)]
    · rw [if_neg c, if_neg (by omega)]
theorem mixW_set {m a b : Nat} {g : Nat → Nat → Int} (h : a ≠ b ∧ m ≠ a ∧ m ≠ b) (i j : Nat) : (if i = a ∧ j = b then max (g a b) (min (g a m) (g m b)) else mixW m a b g i j) = mixW m a (b + 1) g i j := by
  unfold mixW
  by_cases e : i = a ∧ j = b
  · obtain ⟨rfl, rfl⟩ := e
    rw [if_pos ⟨rfl, rfl⟩, if_pos (by omega)]
    unfold phase
    rw [if_pos h]
  · rw [if_neg e]
    by_cases c : i < a ∨ (i = a ∧ j < b)
    · rw [if_pos c, if_pos (by omega)]
    · rw [if_neg c, if_neg (by omega)]
theorem mixW_next {m a n i j : Nat} {g : Nat → Nat → Int} (hj : j < n) : mixW m a n g i j = mixW m (a + 1) 0 g i j := by
  unfold mixW
  by_cases c : i < a ∨ (i = a ∧ j < n)
  · rw [if_pos c, if_pos (by omega)]
  · rw [if_neg c, if_neg (by omega)]
theorem mixW_all {m n i j : Nat} {g : Nat → Nat → Int} (hi : i < n) : mixW m n 0 g i j = phase m g i j := if_pos (by omega)
theorem ok_widest (T : Tx K mg) : FnOk P w K mg base CX0 1 T.f_widest T.d_widest ["table"] (spWid K) := by
  refine T.F_widest.ok sc_widest (fun vs H Q E h => ?_) (fun cdv A outer s H vs Q E hr h => ?_)
  · obtain ⟨v, n, f, rfl, _⟩ := h
    rfl
  · obtain ⟨v, n, f, rfl, hn, TT, q⟩ := h
    obtain ⟨t, xs, rfl, hS, hl, hat⟩ := TT.at_
    refine ⟨_, pss_cons (ps_set (i := 1) sc_widest.nd rfl (Or.inl rfl) (pe_callB (lenK K) (by rfl) T.n_len PySem.boot_len (pa_cons (pv 0) pa_nil)))
      (pss_cons (ps_setLc (i := 2) (own := [("row", 6)]) rfl sc_widest.nd rfl rfl (sw_true rfl rfl rfl (by decide +kernel)) (piL K (pv 0)) (blkOk_by (own := [("row", 6)]) (N := ["table", "size", "found", "middle", "one", "other", "row"]) (sc := defScope s_widest) (by decide +kernel)) (fun _ _ _ _ _ => (pg_name (i := 6) sc_widest.nd rfl (by first | exact Or.inl rfl | exact Or.inr rfl))) (fun _ _ _ _ _ => pts_nil) (fun _ _ _ _ _ => (pe_callTy (listK K) (by rfl) T.n_list bt_list (pa_cons (pv 6) pa_nil))))
      (pss_cons (ps_for PassesOwn.never rfl (pi_range1 (by rfl) T.n_range (pa_cons (pv 1) pa_nil)) (pg_name (i := 3) sc_widest.nd rfl (by first | exact Or.inl rfl | exact Or.inr rfl))
        (pss_one (ps_for PassesOwn.never rfl (pi_range1 (by rfl) T.n_range (pa_cons (pv 1) pa_nil)) (pg_name (i := 4) sc_widest.nd rfl (by first | exact Or.inl rfl | exact Or.inr rfl))
        (pss_one (ps_for PassesOwn.never rfl (pi_range1 (by rfl) T.n_range (pa_cons (pv 1) pa_nil)) (pg_name (i := 5) sc_widest.nd rfl (by first | exact Or.inl rfl | exact Or.inr rfl))
        (pss_one (ps_if (PW.pt (pw_and (pt_cmpR op_ne (pv 4) (pv 5) (nomark _)) (pw_and1 (pt_cmpR (notInK K) (pv 3) (pe_tup (pa_cons (pv 4) (pa_cons (pv 5) pa_nil))) (by rfl))))) (pss_one (ps_asg (pe_callB (call_max2 rfl) (by rfl) T.n_max PyProof.Rows.boot_max (pa_cons (pe_ix (ixLK K) (pe_ix (ixLK K) (pv 2) (pv 4) (fun _ _ => rfl)) (pv 5) (fun _ _ => rfl)) (pa_cons (pe_callB (call_min2 rfl) (by rfl) T.n_min PyProof.Rows.boot_min (pa_cons (pe_ix (ixLK K) (pe_ix (ixLK K) (pv 2) (pv 4) (fun _ _ => rfl)) (pv 3) (fun _ _ => rfl)) (pa_cons (pe_ix (ixLK K) (pe_ix (ixLK K) (pv 2) (pv 3) (fun _ _ => rfl)) (pv 5) (fun _ _ => rfl)) pa_nil))) pa_nil))) (pg_sub (pe_ix (ixLK K) (pv 2) (pv 4) (fun _ _ => rfl)) (pv 5) set_list))) (pss_nil))))))))
      (pss_one (ps_ret (pv 2))))), ?_⟩
    refine ⟨_, rfl, t, _, rfl, .inl hS, ?_⟩
    rw [hl]
    refine ⟨_, rfl, t, rfl, ⟨_, hS⟩, fun D hD => ?_⟩
    refine lc_rows (walk_list (K := K) (a := t) (xs := xs)) hD (by omega) (fun H2 e2 => ex_l e2 hS) (fun i => rowV n (f i)) ?_ ?_
    · rintro i x Ha Ha' hi ea ⟨rfl, hx⟩ Qc hq
      obtain ⟨r, g1, g2⟩ := hat i (by omega)
      rw [g1] at hx
      cases hx
      exact ⟨rfl, _, rfl, r, _, rfl, .inl (ex_l ea g2), fun l nl => hq l _ nl (Ex.new nl) upd_same⟩
    intro H1 ps e1 hD1 hl1 R1
    have T0 : Tab H H1 D ps n f := R1.tab hD hD1 (by rw [hl1, hl])
    refine ⟨_, rfl, n, rfl, by omega, by omega, ?_⟩
    refine for_it (walk_rg0 (n := n)) (fun m σ' H' => ∃ y3 y4 y5, σ' = [some (.ref t), some (.int n), some (.ref D), y3, y4, y5, none] ∧ Ex H H' ∧ Tab H H' D ps n (wid f m))
      ⟨_, _, _, rfl, e1, T0⟩ (fun _ _ _ _ _ => trivial) ?_ ?_
    · rintro m x σ' H' H'' hm ⟨y3, y4, y5, rfl, e, TT⟩ ⟨rfl, rfl⟩
      refine ⟨_, rfl, n, rfl, by omega, by omega, ?_⟩
      refine for_it (walk_rg0 (n := n)) (fun i σ' H' => ∃ y4 y5, σ' = [some (.ref t), some (.int n), some (.ref D), some (.int m), y4, y5, none] ∧ Ex H H' ∧ Tab H H' D ps n (mixW m i 0 (wid f m)))
        ⟨_, _, rfl, e, TT.congr fun i j _ _ => (mixW_zero m (wid f m) i j).symm⟩ (fun _ _ _ _ _ => trivial) ?_ ?_
      · rintro i x σ' H' H'' hi ⟨y4, y5, rfl, e, TT⟩ ⟨rfl, rfl⟩
        refine ⟨_, rfl, n, rfl, by omega, by omega, ?_⟩
        refine for_it (walk_rg0 (n := n)) (fun j σ' H' => ∃ y5, σ' = [some (.ref t), some (.int n), some (.ref D), some (.int m), some (.int i), y5, none] ∧ Ex H H' ∧ Tab H H' D ps n (mixW m i j (wid f m)))
          ⟨_, rfl, e, TT⟩ (fun _ _ _ _ _ => trivial) ?_ ?_
        · rintro j x σ' H' H'' hj ⟨y5, rfl, e, TT⟩ ⟨rfl, rfl⟩
          have skip : ¬ (i ≠ j ∧ m ≠ i ∧ m ≠ j) → ∀ {Hx : Hp}, Tab H Hx D ps n (mixW m i j (wid f m)) → Tab H Hx D ps n (mixW m i (j + 1) (wid f m)) := fun hs _ TX => TX.congr fun u v _ _ => mixW_skip hs u v
          refine ⟨_, rfl, _, rfl, rfl, _, rfl, ?_⟩
          rw [dec_int]
          refine it2 (fun h1 => ?_) (fun h1 => ⟨_, rfl, e, skip (fun hs => by
            have : decide ((i : Int) = (j : Int)) = true := bnot_f h1
            have := of_decide_eq_true this
            omega) TT⟩)
          refine ⟨_, rfl, _, rfl, _, rfl, (by decide : 2 ≤ sizeLine), fun tp ntp => ⟨tp, _, rfl, .inr (st_of upd_same), rfl, rfl, _, rfl, ?_⟩⟩
          have etp := Ex.new (o := .tup [V.int (i : Int), V.int (j : Int)]) ntp
          have ein : inV (V.int (m : Int)) [V.int (i : Int), V.int (j : Int)] = decide (m = i ∨ m = j) := by
            unfold inV
            rw [List.any_cons, List.any_cons, List.any_nil, eqV_int, eqV_int, Bool.or_false, Bool.eq_iff_iff, Bool.or_eq_true, beq_iff_eq, beq_iff_eq, decide_eq_true_eq]
            omega
          have TX := TT.mono etp
          have eX := e.trans etp
          show if (!inV (V.int (m : Int)) [V.int (i : Int), V.int (j : Int)]) = true then _ else _
          rw [ein]
          refine it2 (fun h2 => ?_) (fun h2 => ⟨_, rfl, eX, skip (fun hs => by
            have : decide (m = i ∨ m = j) = true := bnot_f h2
            have := of_decide_eq_true this
            omega) TX⟩)
          have hgo : i ≠ j ∧ m ≠ i ∧ m ≠ j := by
            have k1 : decide ((i : Int) = (j : Int)) = false := bnot_t h1
            have k2 : decide (m = i ∨ m = j) = false := bnot_t h2
            have := of_decide_eq_false k1
            have := of_decide_eq_false k2
            omega
          obtain ⟨r1, g1, m1, x1, c1⟩ := TX.at_ hi
          obtain ⟨r2, g2, m2, x2, c2⟩ := TX.at_ hm
          have TP := TX.put (b := j) (z := max (wid f m i j) (min (wid f m i m) (wid f m m j))) g1
          refine ⟨_, rfl, _, rfl, D, _, i, .ref r1, rfl, rfl, sq_of TX.top, atI_nat x1, _, rfl, r1, _, j, .int _, rfl, rfl, sq_of c1, atI_nat (rowV_get hj), ?_⟩
          refine ⟨_, rfl, _, rfl, D, _, i, .ref r1, rfl, rfl, sq_of TX.top, atI_nat x1, _, rfl, r1, _, m, .int _, rfl, rfl, sq_of c1, atI_nat (rowV_get hm), _, rfl, _, rfl, D, _, m, .ref r2, rfl, rfl, sq_of TX.top, atI_nat x2, _, rfl, r2, _, j, .int _, rfl, rfl, sq_of c2, atI_nat (rowV_get hj), _, _, rfl, _, _, rfl, ?_⟩
          refine ⟨_, rfl, _, rfl, D, _, i, .ref r1, rfl, rfl, sq_of TX.top, atI_nat x1, _, rfl, r1, _, j, j, rfl, rfl, c1, ixN_nat (by rw [rowV_length]; exact hj), _, rfl, TX.exMut eX m1, ?_⟩
          rw [mixW_here, mixW_col, mixW_row]
          have ez : (if (if wid f m m j < wid f m i m then wid f m m j else wid f m i m) > wid f m i j then (if wid f m m j < wid f m i m then wid f m m j else wid f m i m) else wid f m i j) = max (wid f m i j) (min (wid f m i m) (wid f m m j)) := by
            split <;> split <;> omega
          rw [ez]
          exact TP.congr fun u v _ _ => mixW_set hgo u v
        · rintro σ' H' ⟨y5, rfl, e, TT⟩
          exact ⟨_, _, rfl, e, TT.congr fun u v _ hv => mixW_next hv⟩
      · rintro σ' H' ⟨y4, y5, rfl, e, TT⟩
        exact ⟨_, _, _, rfl, e, TT.congr fun u v hu _ => mixW_all hu⟩
    · rintro σ' H' ⟨y3, y4, y5, rfl, e, TT⟩
      exact ⟨_, rfl, q H' D ps e TT⟩
def spStr (K : PySem.W.Frag) : Sp := fun vs H Q _ => ∃ (v : V) (n : Nat) (f : Nat → Nat → Int), vs = [v] ∧ 1 ≤ n ∧ n ≤ 20 ∧ TabR K H v n f ∧ Anti n f ∧ ∀ H2 t rs, Ex H H2 → Tab H H2 t rs n (wid f n) → Q (.ref t) H2
theorem ok_strengths (T : Tx K mg) : FnOk P w K mg base CX0 3 T.f_strengths T.d_strengths ["table"] (spStr K) := by
  refine T.F_strengths.ok sc_strengths (fun vs H Q E h => ?_) (fun cdv A outer s H vs Q E hr h => ?_)
  · obtain ⟨v, n, f, rfl, _⟩ := h
    rfl
  · obtain ⟨v, n, f, rfl, hn1, hn, TT, hA, q⟩ := h
    refine ⟨_, pss_cons (ps_expr (pe_call (ok_asked_table T) (hr.mono (by decide)) (by rfl) T.g_asked_table T.F_asked_table.kp (b_asked_table T) .nil pass0 (pa_cons (pv 0) pa_nil)))
      (pss_one (ps_ret (pe_call (ok_widest T) (hr.mono (by decide)) (by rfl) T.g_widest T.F_widest.kp (b_widest T) .nil pass0 (pa_cons (pv 0) pa_nil)))), ?_⟩
    refine ⟨_, rfl, v, n, f, rfl, hn1, hn, TT, hA, fun H1 e1 => ?_⟩
    exact ⟨_, rfl, v, n, f, rfl, hn, TT.mono e1, fun H2 t rs e2 TW => q H2 t rs (e1.trans e2) (TW.base e1)⟩
def spOrd (K : PySem.W.Frag) : Sp := fun vs H Q _ => ∃ (v : V) (n : Nat) (f : Nat → Nat → Int), vs = [v] ∧ 1 ≤ n ∧ n ≤ 20 ∧ TabR K H v n f ∧ Anti n f ∧ ∀ H2 p, Ex H H2 → H p = none → H2 p = some (.lst (nv (ordF (wid f n) n))) → Q (.ref p) H2
theorem filt_nv (l : List Nat) (p : Nat → Bool) : (((List.range l.length).filter fun i => p (l.getD i 0)).map fun i => V.int ((l.getD i 0 : Nat) : Int)) = nv (l.filter p) := by
  have e : l = (List.range l.length).map fun i => l.getD i 0 := by
    apply List.ext_getElem?
    intro i
    rw [List.getElem?_map]
    by_cases h : i < l.length
    · rw [List.getElem?_range h, List.getElem?_eq_getElem h, Option.map_some, List.getD_eq_getElem?_getD, List.getElem?_eq_getElem h]
      rfl
    · rw [List.getElem?_eq_none (by omega), List.getElem?_eq_none (by rw [List.length_range]; omega)]
      rfl
  have e2 : l.filter p = ((List.range l.length).filter fun i => p (l.getD i 0)).map fun i => l.getD i 0 := by
    calc l.filter p = ((List.range l.length).map fun i => l.getD i 0).filter p := by rw [← e]
      _ = _ := by rw [List.filter_map]; rfl
  unfold nv
  rw [e2, List.map_map]
  rfl
theorem nv_at {l : List Nat} {i : Nat} (h : i < l.length) : (nv l)[i]? = some (V.int ((l.getD i 0 : Nat) : Int)) := by
  unfold nv
  rw [List.getElem?_map, List.getElem?_eq_getElem h, List.getD_eq_getElem?_getD, List.getElem?_eq_getElem h]
  rfl
theorem getD_memN {l : List Nat} {i : Nat} (h : i < l.length) : l.getD i 0 ∈ l := by
  rw [List.getD_eq_getElem?_getD, List.getElem?_eq_getElem h]
  exact List.getElem_mem h
theorem all_getD (l : List Nat) (p : Nat → Bool) : ((List.range l.length).map fun i => p (l.getD i 0)).all id = l.all p := by
  rw [Bool.eq_iff_iff, List.all_eq_true, List.all_eq_true]
  constructor
  · intro h x hx
    obtain ⟨i, hi, rfl⟩ := List.mem_iff_getElem.mp hx
    have := h (p (l.getD i 0)) (List.mem_map.mpr ⟨i, List.mem_range.mpr hi, rfl⟩)
    rw [List.getD_eq_getElem?_getD, List.getElem?_eq_getElem hi] at this
    exact this
  · intro h b hb
    obtain ⟨i, hi, rfl⟩ := List.mem_map.mp hb
    exact h _ (getD_memN (List.mem_range.mp hi))
/-- the first place of a thing, and the list without it -/
theorem first_erase : ∀ (l : List Nat) (x : Nat), x ∈ l → ∃ i, l[i]? = some x ∧ (∀ m, m < i → l[m]? ≠ some x) ∧ l.eraseIdx i = l.erase x
  | [], _, h => by simp at h
  | a :: l, x, h => by
    by_cases e : a = x
    · subst e
      exact ⟨0, rfl, fun m hm => by omega, by rw [List.erase_cons_head]; rfl⟩
    · obtain ⟨i, h1, h2, h3⟩ := first_erase l x ((List.mem_cons.mp h).resolve_left fun q => e q.symm)
      refine ⟨i + 1, by simpa using h1, fun m hm => ?_, ?_⟩
      · cases m with
        | zero => simpa using e
        | succ m => simpa using h2 m (by omega)
      · have hb : (a == x) = false := by simpa using e
        rw [List.erase_cons, hb]
        show a :: l.eraseIdx i = a :: l.erase x
        rw [h3]
theorem erase_mapN : ∀ (l : List Nat) (i : Nat), (l.map fun (k : Nat) => (k : Int)).eraseIdx i = (l.eraseIdx i).map fun (k : Nat) => (k : Int)
  | [], _ => rfl
  | _ :: _, 0 => rfl
  | a :: l, i + 1 => congrArg ((a : Int) :: ·) (erase_mapN l i)
theorem nv_app (l m : List Nat) : nv l ++ nv m = nv (l ++ m) := (List.map_append ..).symm
theorem ok_order (T : Tx K mg) : FnOk P w K mg base CX0 3 T.f_order T.d_order ["table"] (spOrd K) := by
  refine T.F_order.ok sc_order (fun vs H Q E h => ?_) (fun cdv A outer s H vs Q E hr h => ?_)
  · obtain ⟨v, n, f, rfl, _⟩ := h
    rfl
  · obtain ⟨v, n, f, rfl, hn1, hn, TT, hA, q⟩ := h
    refine ⟨_, pss_cons (ps_expr (pe_call (ok_asked_table T) (hr.mono (by decide)) (by rfl) T.g_asked_table T.F_asked_table.kp (b_asked_table T) .nil pass0 (pa_cons (pv 0) pa_nil)))
      (pss_cons (ps_set (i := 1) sc_order.nd rfl (Or.inr rfl) (pe_call (ok_widest T) (hr.mono (by decide)) (by rfl) T.g_widest T.F_widest.kp (b_widest T) .nil pass0 (pa_cons (pv 0) pa_nil)))
      (pss_cons (ps_set (i := 2) sc_order.nd rfl (Or.inr rfl) (pe_listRg rfl (by rfl) T.n_list (prg_1 (by rfl) T.n_range (pe_callB (lenK K) (by rfl) T.n_len PySem.boot_len (pa_cons (pv 0) pa_nil)))))
      (pss_cons (ps_set (i := 3) sc_order.nd rfl (Or.inl rfl) (pe_lst pa_nil))
      (pss_cons (ps_while PassesOwn.never (pt_cmpR (neDK K hr.units) (pv 2) (pe_lst pa_nil) (nomark _)) (pss_cons (ps_setLc (i := 4) (own := [("one", 5)]) rfl sc_order.nd rfl rfl (sw_true rfl rfl rfl (by decide +kernel)) (piL K (pv 2)) (blkOk_by (own := [("one", 5)]) (N := ["table", "strong", "left", "found", "free", "one", "other"]) (sc := defScope s_order) (by decide +kernel)) (fun _ _ _ _ _ => (pg_name (i := 5) sc_order.nd rfl (by first | exact Or.inl rfl | exact Or.inr rfl))) (fun _ _ _ _ _ => pts_one (pt_val (pe_callB (allK K) (by rfl) T.n_all PyProof.Rows.boot_all (pa_cons (pe_lc (own := [("other", 6)]) rfl sc_order.nd (piL K (pv 2)) (blkOk_by (own := [("other", 6)]) (N := ["table", "strong", "left", "found", "free", "one", "other"]) (sc := _) (by kernel_rfl)) (fun _ _ _ _ _ => (pg_name (i := 6) sc_order.nd rfl (by first | exact Or.inl rfl | exact Or.inr rfl))) (fun _ _ _ _ _ => pts_nil) (fun _ _ _ _ _ => (pe_cmpR op_ge (pe_ix (ixLK K) (pe_ix (ixLK K) (pv 1) (pv 5) (fun _ _ => rfl)) (pv 6) (fun _ _ => rfl)) (pe_ix (ixLK K) (pe_ix (ixLK K) (pv 1) (pv 6) (fun _ _ => rfl)) (pv 5) (fun _ _ => rfl)) (nomark _)))) pa_nil)))) (fun _ _ _ _ _ => (pv 5)))
      (pss_cons (ps_expr (pe_bm PySem.F.plainAttrs_list PySem.F.slot_list_append PySem.F.type_list_append mt_append (pv 3) (pa_cons (pe_ix (ixLK K) (pv 4) pe_int (fun _ _ => rfl)) pa_nil)))
      (pss_one (ps_expr (pe_bm PySem.F.plainAttrs_list PySem.F.slot_list_remove PySem.F.type_list_remove mt_remove (pv 2) (pa_cons (pe_ix (ixLK K) (pv 4) pe_int (fun _ _ => rfl)) pa_nil)))))))
      (pss_one (ps_ret (pv 3))))))), ?_⟩
    obtain ⟨t0, tx, rfl, hS, hl, hat⟩ := TT.at_
    refine ⟨_, rfl, _, n, f, rfl, hn1, hn, TT, hA, fun H1 e1 => ?_⟩
    refine ⟨_, rfl, _, n, f, rfl, hn, TT.mono e1, fun H2 t rs e2 TW => ?_⟩
    refine ⟨_, rfl, t0, _, rfl, .inl (ex_l (e1.trans e2) hS), (tx.length : Int), rfl, rgOk_nat (by omega), fun L nL => ?_⟩
    rw [hl, rgV_nv]
    have eL := Ex.new (o := .lst (nv (List.range n))) nL
    refine ⟨Nat.zero_le _, fun F nF => ?_⟩
    have eF := Ex.new (o := .lst []) nF
    have nF2 : H2 F = none := fresh_back eL nF
    have nLF : L ≠ F := ne_of_fresh upd_same nF
    have hL3 := eF _ _ (upd_same (H := H2) (a := L) (o := .lst (nv (List.range n))))
    obtain ⟨H3, hH3⟩ := named eF
    have hF3 : H3 F = some (.lst (nv [])) := by rw [hH3]; exact upd_same
    have e3 := eL.trans eF
    rw [← hH3] at hL3 e3 ⊢
    refine ⟨fun m σ' H5 => ∃ (lf acc : List Nat) (y4 : Option V), σ' = [some (.ref t0), some (.ref t), some (.ref L), some (.ref F), y4, none, none] ∧ Ex H2 H5 ∧ H5 L = some (.lst (nv lf)) ∧ H5 F = some (.lst (nv acc)) ∧ acc ++ ordGo (wid f n) lf.length lf = ordF (wid f n) n ∧ (∀ x ∈ lf, x < n) ∧ acc.length + lf.length ≤ n ∧ lf.length = m,
      ⟨n, List.range n, [], _, rfl, e3, hL3, hF3, by rw [List.length_range]; rfl, fun x hx => List.mem_range.mp hx, by rw [List.length_range]; show 0 + n ≤ n; omega, List.length_range⟩, ?_⟩
    rintro m σ' H5 ⟨lf, acc, y4, rfl, e5, hL5, hF5, hord, hlt, hsz, rfl⟩
    refine ⟨_, rfl, Nat.zero_le _, fun o no => ?_⟩
    have eo := Ex.new (o := .lst []) no
    have hLd : SqL K (upd H5 o (.lst [])) L (iv (lf.map fun (k : Nat) => (k : Int))) := by
      rw [← nv_iv]
      exact sq_of (eo _ _ hL5)
    refine ⟨_, _, dp_ints hLd, dp_ints (ns := []) (sq_of upd_same), shaped_ints _, shaped_ints _, _, rfl, ?_⟩
    have hL6 := eo _ _ hL5
    have hF6 := eo _ _ hF5
    have e6 := e5.trans eo
    generalize (upd H5 o (.lst [])) = H6 at hL6 hF6 e6
    by_cases h0 : lf = []
    · refine itF (by rw [eqv_ints, h0]; rfl) ?_
      subst h0
      rw [show ordGo (wid f n) ([] : List Nat).length [] = [] from rfl, List.append_nil] at hord
      refine ⟨_, rfl, q H6 F (((e1.trans e2)).trans e6) (fresh_back (e1.trans e2) nF2) ?_⟩
      rw [hF6, hord]
    · refine itT (by rw [eqv_ints, decide_eq_false]; rfl; exact fun h => h0 (List.map_eq_nil_iff.mp h)) ?_
      have TW6 := TW.mono e6
      obtain ⟨k, hk⟩ : ∃ k, lf.length = k + 1 := ⟨lf.length - 1, by have := List.length_pos_iff.mpr h0; omega⟩
      refine ⟨fun σ2 Hz => ∃ (lf' acc' : List Nat) (y4 : Option V), σ2 = [some (.ref t0), some (.ref t), some (.ref L), some (.ref F), y4, none, none] ∧ Ex H2 Hz ∧ Hz L = some (.lst (nv lf')) ∧ Hz F = some (.lst (nv acc')) ∧ acc' ++ ordGo (wid f n) lf'.length lf' = ordF (wid f n) n ∧ (∀ x ∈ lf', x < n) ∧ acc'.length + lf'.length ≤ n ∧ lf'.length < lf.length, ?_, ?_⟩
      · rintro σ2 Hz ⟨lf', acc', y, c1, c2, c3, c4, c5, c6, c7, c8⟩
        exact ⟨_, c8, lf', acc', y, c1, c2, c3, c4, c5, c6, c7, rfl⟩
      refine ⟨_, rfl, L, rfl, ⟨_, sq_of hL6⟩, fun D hD => ?_⟩
      refine lc_filt (walk_list (K := K) (a := L) (xs := nv lf)) hD (by rw [nv_length]; omega) (fun Hx e => sq_of (e _ _ hL6)) (fun i => isFree (wid f n) lf (lf.getD i 0)) (fun i => V.int ((lf.getD i 0 : Nat) : Int)) ?_ ?_
      · rintro i x Ha Ha' hi ea ⟨rfl, hx⟩ Bf Qc hno hyes
        rw [nv_length] at hi
        rw [nv_at hi] at hx
        cases hx
        have hxn := hlt _ (getD_memN hi)
        refine ⟨rfl, _, rfl, L, rfl, ⟨_, sq_of (ea _ _ hL6)⟩, fun D2 hD2 => ?_⟩
        refine lc_vals (walk_list (K := K) (a := L) (xs := nv lf)) hD2 (by rw [nv_length]; omega) (fun Hx e => sq_of (e _ _ (ea _ _ hL6))) (fun j => V.bl (decide (wid f n (lf.getD j 0) (lf.getD i 0) ≤ wid f n (lf.getD i 0) (lf.getD j 0)))) ?_ ?_
        · rintro j y Hb Hb' hj eb ⟨rfl, hy⟩ Qd hqd
          rw [nv_length] at hj
          rw [nv_at hj] at hy
          cases hy
          have hyn := hlt _ (getD_memN hj)
          have TWb := (TW6.mono ea).mono eb
          obtain ⟨r1, _, _, x1, c1⟩ := TWb.at_ hxn
          obtain ⟨r2, _, _, x2, c2⟩ := TWb.at_ hyn
          exact ⟨rfl, _, rfl, _, rfl, t, _, _, .ref r1, rfl, rfl, sq_of TWb.top, atI_nat x1, _, rfl, r1, _, _, .int _, rfl, rfl, sq_of c1, atI_nat (rowV_get hyn), _, rfl, _, rfl, t, _, _, .ref r2, rfl, rfl, sq_of TWb.top, atI_nat x2, _, rfl, r2, _, _, .int _, rfl, rfl, sq_of c2, atI_nat (rowV_get hxn), _, _, rfl, rfl, hqd _ (Ex.refl _)⟩
        · intro Hb eb hDb
          rw [nv_length, map_bl_all] at hDb
          refine ⟨D2, _, rfl, sq_of hDb, _, rfl, ?_⟩
          have ef : ((List.range lf.length).map fun j => decide (wid f n (lf.getD j 0) (lf.getD i 0) ≤ wid f n (lf.getD i 0) (lf.getD j 0))).all id = isFree (wid f n) lf (lf.getD i 0) := all_getD lf fun y => decide (wid f n y (lf.getD i 0) ≤ wid f n (lf.getD i 0) y)
          rw [ef]
          refine it2 (fun hp => ?_) (fun hp => ?_)
          · exact ⟨_, rfl, hyes _ eb hp⟩
          · exact hno _ eb hp
      · intro H7 e7 hD7
        rw [nv_length, filt_nv lf (isFree (wid f n) lf)] at hD7
        have hgood := ordGo_good (closed_wid f n) lf.length lf rfl hlt
        obtain ⟨x, rest, hfl, hfind⟩ : ∃ x rest, lf.filter (isFree (wid f n) lf) = x :: rest ∧ lf.find? (isFree (wid f n) lf) = some x := by
          cases hfl : lf.filter (isFree (wid f n) lf) with
          | nil =>
            obtain ⟨z, hz, hm⟩ := free_one (closed_wid f n) lf h0 hlt
            have : z ∈ lf.filter (isFree (wid f n) lf) := List.mem_filter.mpr ⟨hz, List.all_eq_true.mpr fun y hy => decide_eq_true (hm y hy)⟩
            rw [hfl] at this
            cases this
          | cons x rest => exact ⟨x, rest, rfl, by rw [← List.head?_filter, hfl]; rfl⟩
        have hxm : x ∈ lf := List.mem_of_find?_eq_some hfind
        rw [hfl] at hD7
        have hL7 := e7 _ _ hL6
        have hF7 := e7 _ _ hF6
        refine ⟨_, rfl, .inl ⟨rfl, _, sq_of hF7⟩, _, rfl, D, _, 0, .int (x : Int), rfl, rfl, sq_of hD7, atI_nat (j := 0) rfl, F, _, _, rfl, rfl, hF7, sz_lt (by rw [nv_length]; omega), ?_⟩
        have nDF : D ≠ F := (ne_of_fresh hF6 hD).symm
        obtain ⟨i0, hi0, hfirst, her⟩ := first_erase lf x hxm
        refine ⟨_, rfl, .inl ⟨rfl, _, sq_of (by rw [upd_ne nLF]; exact hL7)⟩, _, rfl, D, _, 0, .int (x : Int), rfl, rfl, sq_of (by rw [upd_ne nDF]; exact hD7), atI_nat (j := 0) rfl, L, lf.map fun (k : Nat) => (k : Int), (x : Int), i0, rfl, rfl, ?_, ?_, ?_, ?_⟩
        · rw [upd_ne nLF, hL7, nv_iv]
          rfl
        · rw [List.getElem?_map, hi0]
          rfl
        · intro m hm e
          rw [List.getElem?_map] at e
          cases h9 : lf[m]? with
          | none => rw [h9] at e; cases e
          | some y =>
            rw [h9] at e
            have : (y : Int) = (x : Int) := Option.some.inj e
            exact hfirst m hm (by rw [h9, show y = x by omega])
        · refine ⟨lf.erase x, acc ++ [x], _, rfl, ?_, ?_, ?_, ?_, fun y hy => hlt y (List.mem_of_mem_erase hy), ?_, ?_⟩
          · exact ((e6.trans e7).mut nF2).mut nL
          · rw [upd_same, ← her, nv_iv]
            unfold iv
            congr 2
            rw [erase_mapN]
          · rw [upd_ne nLF.symm, upd_same, ← nv_app]
            rfl
          · rw [← hord, List.append_assoc, List.length_erase_of_mem hxm, hk]
            show acc ++ ([x] ++ ordGo (wid f n) k (lf.erase x)) = acc ++ (match lf.find? (isFree (wid f n) lf) with | some x => x :: ordGo (wid f n) k (lf.erase x) | none => [])
            rw [hfind]
            rfl
          · rw [List.length_append, List.length_erase_of_mem hxm]
            show acc.length + 1 + _ ≤ n
            omega
          · rw [List.length_erase_of_mem hxm]
            omega
end
end Hc
namespace Hc
open PySem PySem.Spec PyProof.Rows L2 Evl
section
variable {P : Program} {w : World} {K : PySem.W.Frag} {mg : Str → Option Value} {base : Heap}
def spReached (K : PySem.W.Frag) : Sp := fun vs H Q _ => ∃ (v : V) (n : Nat) (f : Nat → Nat → Int) (i : Nat) (L : Int), vs = [v, .int (i : Int), .int L] ∧ n ≤ 20 ∧ i < n ∧ TabR K H v n f ∧ ∀ H2 p fs, Ex H H2 → H p = none → H2 p = some (.lst (nv fs)) → (∀ j, j ∈ fs ↔ j < n ∧ Reach n f L i j) → fs.length ≤ n → Q (.ref p) H2
theorem below_len {fs : List Nat} {n : Nat} (hd : fs.Nodup) (hl : ∀ x ∈ fs, x < n) : fs.length ≤ n := by
  have h := sub_len (fs.map fun (k : Nat) => (k : Int)) ((List.range n).map fun (k : Nat) => (k : Int)) ?_ ?_
  · simpa using h
  · exact List.pairwise_map.mpr (hd.imp fun {a b} ne e => ne (by omega))
  · intro x hx
    obtain ⟨k, hk, rfl⟩ := List.mem_map.mp hx
    exact List.mem_map.mpr ⟨k, List.mem_range.mpr (hl k hk), rfl⟩
theorem inV_nv (j : Nat) (fs : List Nat) : inV (V.int (j : Int)) (nv fs) = decide (j ∈ fs) := by
  unfold inV nv
  rw [List.any_map, Bool.eq_iff_iff, List.any_eq_true, decide_eq_true_eq]
  constructor
  · rintro ⟨k, hk, e⟩
    have e2 : (k : Int) = (j : Int) := eq_of_beq e
    rw [show j = k by omega]
    exact hk
  · intro h
    exact ⟨j, h, beq_self_eq_true (j : Int)⟩
theorem nv_flat (fs : List Nat) : (nv fs).all flatV = true := by
  rw [nv_iv]
  exact iv_flat _
theorem reach_mem {n : Nat} {f : Nat → Nat → Int} {L : Int} {i : Nat} {fs : List Nat} (h0 : i ∈ fs) (hc : ∀ k ∈ fs, ∀ j, j < n → L ≤ f k j → j ∈ fs) {j : Nat} (h : Reach n f L i j) : j ∈ fs := by
  induction h with
  | me => exact h0
  | on _ _ hj e ih => exact hc _ ih _ hj e
/-- whom i's group holds: all that are reached over those whom one is not ahead of -/
def Grp (n : Nat) (f : Nat → Nat → Int) (i : Nat) (ks : List Nat) : Prop := ks.Pairwise (· < ·) ∧ ∀ j, j ∈ ks ↔ j < n ∧ Reach n (fun a b => - f a b) 0 i j
/-- the first of the least groups -/
def IsTops (n : Nat) (f : Nat → Nat → Int) (ks : List Nat) : Prop := ∃ (gs : List (List Nat)) (i : Nat), gs.length = n ∧ (∀ j, j < n → Grp n f j (gs.getD j [])) ∧ i < n ∧ ks = gs.getD i [] ∧ ∀ j, j < n → ks.length ≤ (gs.getD j []).length ∧ (j < i → ks.length < (gs.getD j []).length)
def spTops (K : PySem.W.Frag) : Sp := fun vs H Q _ => ∃ (v : V) (n : Nat) (f : Nat → Nat → Int), vs = [v] ∧ 1 ≤ n ∧ n ≤ 20 ∧ TabR K H v n f ∧ Anti n f ∧ ∀ H2 p ks, Ex H H2 → H p = none → H2 p = some (.lst (nv ks)) → IsTops n f ks → Q (.ref p) H2
theorem rising_same : ∀ {l m : List Nat}, l.Pairwise (· < ·) → m.Pairwise (· < ·) → (∀ x, x ∈ l ↔ x ∈ m) → l = m
  | [], [], _, _, _ => rfl
  | [], b :: m, _, _, h => absurd ((h b).mpr (List.mem_cons_self ..)) (by simp)
  | a :: l, [], _, _, h => absurd ((h a).mp (List.mem_cons_self ..)) (by simp)
  | a :: l, b :: m, h1, h2, h => by
    obtain ⟨a1, a2⟩ := List.pairwise_cons.mp h1
    obtain ⟨b1, b2⟩ := List.pairwise_cons.mp h2
    have e : a = b := by
      rcases List.mem_cons.mp ((h a).mp (List.mem_cons_self ..)) with e | e
      · exact e
      · rcases List.mem_cons.mp ((h b).mpr (List.mem_cons_self ..)) with e2 | e2
        · exact e2.symm
        · have := b1 a e
          have := a1 b e2
          omega
    subst e
    have : l = m := rising_same a2 b2 fun x => ⟨fun hx => by
      rcases List.mem_cons.mp ((h x).mp (List.mem_cons_of_mem _ hx)) with e | e
      · subst e
        exact absurd (a1 x hx) (Nat.lt_irrefl _)
      · exact e, fun hx => by
      rcases List.mem_cons.mp ((h x).mpr (List.mem_cons_of_mem _ hx)) with e | e
      · subst e
        exact absurd (b1 x hx) (Nat.lt_irrefl _)
      · exact e⟩
    rw [this]
theorem Grp.same {n : Nat} {f : Nat → Nat → Int} {i : Nat} {ks ls : List Nat} (h : Grp n f i ks) (h' : Grp n f i ls) : ks = ls := rising_same h.1 h'.1 fun x => by rw [h.2, h'.2]
theorem IsTops.same {n : Nat} {f : Nat → Nat → Int} {ks ls : List Nat} (h : IsTops n f ks) (h' : IsTops n f ls) : ks = ls := by
  obtain ⟨gs, i, g1, g2, g3, g4, g5⟩ := h
  obtain ⟨gs', i', g1', g2', g3', g4', g5'⟩ := h'
  have e : ∀ j, j < n → gs.getD j [] = gs'.getD j [] := fun j hj => (g2 j hj).same (g2' j hj)
  have a := g5 i' g3'
  have b := g5' i g3
  rw [e i' g3', ← g4'] at a
  rw [← e i g3, ← g4] at b
  have : i = i' := by
    rcases Nat.lt_trichotomy i i' with h | h | h
    · have := b.2 h
      omega
    · exact h
    · have := a.2 h
      omega
  subst this
  rw [g4, g4', e i g3]
/-- a sorted list of unlike numbers rises -/
theorem rising_of {ns : List Int} {fs : List Nat} (perm : ns.Perm (fs.map fun (k : Nat) => (k : Int))) (srt : ns.Pairwise (· ≤ ·)) (nd : fs.Nodup) : ∃ ks : List Nat, ns = (ks.map fun (k : Nat) => (k : Int)) ∧ ks.Pairwise (· < ·) ∧ ks.Perm fs := by
  have back : ∀ l : List Int, (∀ x ∈ l, 0 ≤ x) → l = (l.map Int.toNat).map fun (k : Nat) => (k : Int) := fun l h => by
    rw [List.map_map]
    conv => lhs; rw [← List.map_id l]
    refine List.map_congr_left fun x hx => ?_
    have := h x hx
    show x = ((x.toNat : Nat) : Int)
    omega
  have pos : ∀ x ∈ ns, 0 ≤ x := fun x hx => by
    obtain ⟨k, _, rfl⟩ := List.mem_map.mp (perm.mem_iff.mp hx)
    omega
  have e1 := back ns pos
  have p2 : (ns.map Int.toNat).Perm fs := by
    have := perm.map Int.toNat
    rw [List.map_map] at this
    have e : fs.map (Int.toNat ∘ fun (k : Nat) => (k : Int)) = fs := by
      conv => rhs; rw [← List.map_id fs]
      exact List.map_congr_left fun x _ => rfl
    rw [e] at this
    exact this
  refine ⟨_, e1, ?_, p2⟩
  have nd2 : (ns.map Int.toNat).Nodup := p2.nodup_iff.mpr nd
  have le2 : (ns.map Int.toNat).Pairwise (· ≤ ·) := by
    rw [List.pairwise_map]
    exact srt.imp fun h => by omega
  have := le2.and nd2
  exact this.imp fun h => by omega
theorem ok_tops (T : Tx K mg) : FnOk P w K mg base CX0 3 T.f_tops T.d_tops ["table"] (spTops K) := by
  refine T.F_tops.ok sc_tops (fun vs H Q E h => ?_) (fun cdv A outer s H vs Q E hr h => ?_)
  · obtain ⟨v, n, f, rfl, _⟩ := h
    rfl
  · obtain ⟨v, n, f, rfl, hn1, hn, TT, hA, q⟩ := h
    refine ⟨_, pss_cons (ps_expr (pe_call (ok_asked_table T) (hr.mono (by decide)) (by rfl) T.g_asked_table T.F_asked_table.kp (b_asked_table T) .nil pass0 (pa_cons (pv 0) pa_nil)))
      (pss_cons (ps_set (i := 1) sc_tops.nd rfl (Or.inl rfl) (pe_lst pa_nil))
      (pss_cons (ps_for PassesOwn.never rfl (pi_range1 (by rfl) T.n_range (pa_cons (pe_callB (lenK K) (by rfl) T.n_len PySem.boot_len (pa_cons (pv 0) pa_nil)) pa_nil)) (pg_name (i := 2) sc_tops.nd rfl (by first | exact Or.inl rfl | exact Or.inr rfl))
        (pss_cons (ps_set (i := 3) sc_tops.nd rfl (Or.inr rfl) (pe_lst (pa_cons (pv 2) pa_nil)))
      (pss_cons (ps_set (i := 4) sc_tops.nd rfl (Or.inl rfl) pe_int)
      (pss_cons (ps_while PassesOwn.never (pt_cmpR op_lt (pv 4) (pe_callB (lenK K) (by rfl) T.n_len PySem.boot_len (pa_cons (pv 3) pa_nil)) (nomark _)) (pss_cons (ps_set (i := 5) sc_tops.nd rfl (Or.inr rfl) (pe_ix (ixLK K) (pv 0) (pe_ix (ixLK K) (pv 3) (pv 4) (fun _ _ => rfl)) (fun _ _ => rfl)))
      (pss_cons (ps_expr (pe_bm PySem.F.plainAttrs_list PySem.F.slot_list_extend PySem.F.type_list_extend mt_extend (pv 3) (pa_cons (pe_lc (own := [("other", 6)]) rfl sc_tops.nd (pi_range1 (by rfl) T.n_range (pa_cons (pe_callB (lenK K) (by rfl) T.n_len PySem.boot_len (pa_cons (pv 0) pa_nil)) pa_nil)) (blkOk_by (own := [("other", 6)]) (N := ["table", "groups", "who", "group", "at", "row", "other"]) (sc := defScope s_tops) (by decide +kernel)) (fun _ _ _ _ _ => (pg_name (i := 6) sc_tops.nd rfl (by first | exact Or.inl rfl | exact Or.inr rfl))) (fun _ _ _ _ _ => pts_one (PW.pt (pw_and (pt_cmpR (notInK K) (pv 6) (pv 3) (by rfl)) (pw_and1 (pt_cmpR op_le (pe_ix (ixLK K) (pv 5) (pv 6) (fun _ _ => rfl)) pe_int (nomark _)))))) (fun _ _ _ _ _ => (pv 6))) pa_nil)))
      (pss_one (ps_set (i := 4) sc_tops.nd rfl (Or.inl rfl) (pe_op op_add (pv 4) pe_int))))))
      (pss_one (ps_expr (pe_bm PySem.F.plainAttrs_list PySem.F.slot_list_append PySem.F.type_list_append mt_append (pv 1) (pa_cons (pe_callB (sortK K) (by rfl) T.n_sorted PyProof.Rows.boot_sorted (pa_cons (pv 3) pa_nil)) pa_nil))))))))
      (pss_one (ps_ret (pe_minLen (pa_cons (pv 1) pa_nil) (by rfl) T.n_min (by rfl) T.n_len))))), ?_⟩
    obtain ⟨t, xs, rfl, hS, hl, hat⟩ := TT.at_
    refine ⟨_, rfl, _, n, f, rfl, hn1, hn, TT, hA, fun H1 e1 => ?_⟩
    refine ⟨Nat.zero_le _, fun G nG => ?_⟩
    refine ⟨_, rfl, t, _, rfl, .inl (ex_l (e1.trans (Ex.new nG)) hS), (xs.length : Int), rfl, by omega, by omega, ?_⟩
    rw [hl]
    refine for_it (walk_rg0 (n := n)) (fun i σ' H' => ∃ (y2 y3 y4 y5 : Option V) (ps : List Addr) (gs : List (List Nat)), σ' = [some (.ref t), some (.ref G), y2, y3, y4, y5, none] ∧ Ex H1 H' ∧ H' G = some (.lst (ps.map V.ref)) ∧ gs.length = i ∧ Paired (fun p ks => p ≠ G ∧ H1 p = none ∧ H' p = some (.lst (nv ks))) ps gs ∧ ∀ j, j < i → Grp n f j (gs.getD j []))
      ⟨_, _, _, _, [], [], rfl, Ex.new nG, upd_same, rfl, .nil, fun j h => absurd h (Nat.not_lt_zero _)⟩ (fun _ _ _ _ _ => trivial) ?_ ?_
    · rintro i x σ' H0 H' hi ⟨y2, y3, y4, y5, ps, gs, rfl, e, hG, hgl, hP, hgr⟩ ⟨rfl, rfl⟩
      refine ⟨_, rfl, (by decide : 1 ≤ sizeLine), fun F nF => ?_⟩
      refine ⟨fun m σ' H2 => ∃ (fs : List Nat) (at' : Nat) (y5 : Option V), σ' = [some (.ref t), some (.ref G), some (.int i), some (.ref F), some (.int at'), y5, none] ∧ Ex H' H2 ∧ H2 F = some (.lst (nv fs)) ∧ fs.Nodup ∧ (∀ x ∈ fs, x < n ∧ Reach n (fun a b => - f a b) 0 i x) ∧ i ∈ fs ∧ at' ≤ fs.length ∧ (∀ p k, p < at' → fs[p]? = some k → ∀ j, j < n → 0 ≤ - f k j → j ∈ fs) ∧ n - at' = m,
        ⟨n, [i], 0, _, rfl, Ex.new nF, upd_same, by simp, fun x hx => ?_, by simp, Nat.zero_le _, fun p k h => by omega, rfl⟩, ?_⟩
      · have : x = i := by simpa using hx
        rw [this]
        exact ⟨hi, .me⟩
      rintro m σ' H2 ⟨fs, at', y5, rfl, e2, hF, hnd, hall, hme, hle, hcl, rfl⟩
      have hfl : fs.length ≤ n := below_len hnd fun x hx => (hall x hx).1
      have eH := e1.trans (e.trans e2)
      refine ⟨_, rfl, _, rfl, F, _, rfl, .inl (sq_of hF), _, _, rfl, rfl, _, rfl, ?_⟩
      rw [nv_length]
      by_cases hlt : at' < fs.length
      · refine itT (decide_eq_true (by omega)) ?_
        refine ⟨fun σ2 Hz => ∃ (fs : List Nat) (y5 : Option V), σ2 = [some (.ref t), some (.ref G), some (.int i), some (.ref F), some (.int ((at' + 1 : Nat) : Int)), y5, none] ∧ Ex H' Hz ∧ Hz F = some (.lst (nv fs)) ∧ fs.Nodup ∧ (∀ x ∈ fs, x < n ∧ Reach n (fun a b => - f a b) 0 i x) ∧ i ∈ fs ∧ at' + 1 ≤ fs.length ∧ (∀ p k, p < at' + 1 → fs[p]? = some k → ∀ j, j < n → 0 ≤ - f k j → j ∈ fs), ?_, ?_⟩
        · rintro σ2 Hz ⟨gs, y, c1, c2, c3, c4, c5, c6, c7, c8⟩
          exact ⟨n - (at' + 1), by omega, gs, at' + 1, y, c1, c2, c3, c4, c5, c6, c7, c8, rfl⟩
        obtain ⟨hkn, hkR⟩ := hall _ (List.getElem_mem hlt)
        obtain ⟨r, g1, g2⟩ := hat fs[at'] hkn
        have hk : (nv fs)[at']? = some (V.int ((fs[at'] : Nat) : Int)) := by
          unfold nv
          rw [List.getElem?_map, List.getElem?_eq_getElem hlt]
          rfl
        refine ⟨_, rfl, _, rfl, _, rfl, F, _, at', _, rfl, rfl, sq_of hF, atI_nat hk, t, _, _, .ref r, rfl, rfl, ex_l eH hS, atI_nat g1, ?_⟩
        refine ⟨_, rfl, .inl ⟨rfl, _, sq_of hF⟩, _, rfl, t, _, rfl, .inl (ex_l eH hS), (xs.length : Int), rfl, by omega, by omega, fun D hD => ?_⟩
        rw [hl]
        refine lc_filt (n := n) (walk_rg0 (n := n)) hD (by omega) (fun _ _ => trivial) (fun j => !decide (j ∈ fs) && decide (f fs[at'] j ≤ 0)) (fun j => V.int (j : Int)) ?_ ?_
        · rintro j x Ha Ha' hj ea ⟨rfl, rfl⟩ Bf Qc hno hyes
          refine ⟨rfl, _, rfl, _, rfl, F, _, rfl, .inl (sq_of (ea _ _ hF)), rfl, nv_flat _, _, rfl, ?_⟩
          show if (!inV (V.int (j : Int)) (nv fs)) = true then _ else _
          rw [inV_nv]
          refine it2 (fun h1 => ?_) (fun h1 => ?_)
          · refine ⟨_, rfl, _, rfl, r, _, j, .int _, rfl, rfl, ex_l (eH.trans ea) g2, atI_nat (rowV_get hj), _, _, rfl, rfl, _, rfl, ?_⟩
            exact it2 (fun h2 => ⟨_, rfl, hyes _ (Ex.refl _) (by rw [h1, h2]; rfl)⟩) (fun h2 => hno _ (Ex.refl _) (by rw [h1, h2]; rfl))
          · exact hno _ (Ex.refl _) (by rw [h1]; rfl)
        · intro H3 e3 hD3
          obtain ⟨gs, hgs⟩ : ∃ gs : List Nat, gs = (List.range n).filter fun j => !decide (j ∈ fs) && decide (f fs[at'] j ≤ 0) := ⟨_, rfl⟩
          rw [← hgs] at hD3
          have hgm : ∀ j, j ∈ gs ↔ j < n ∧ j ∉ fs ∧ f fs[at'] j ≤ 0 := fun j => by
            rw [hgs, List.mem_filter, List.mem_range, Bool.and_eq_true, decide_eq_true_eq, Bool.not_eq_true', decide_eq_false_iff_not]
          have hnd2 : (fs ++ gs).Nodup := by
            rw [List.nodup_append]
            refine ⟨hnd, by rw [hgs]; exact List.nodup_range.filter _, fun a ha b hb e9 => ((hgm b).mp hb).2.1 (e9 ▸ ha)⟩
          have hall2 : ∀ x ∈ fs ++ gs, x < n ∧ Reach n (fun a b => - f a b) 0 i x := fun x hx => (List.mem_append.mp hx).elim (hall x) fun hg => ⟨((hgm x).mp hg).1, .on hkR hkn ((hgm x).mp hg).1 (by have := ((hgm x).mp hg).2.2; omega)⟩
          have hlen2 := below_len hnd2 fun x hx => (hall2 x hx).1
          refine ⟨F, D, _, nv gs, rfl, rfl, e3 _ _ hF, hD3, sz_of (by rw [nv_length, nv_length]; rw [List.length_append] at hlen2; omega), ?_⟩
          refine ⟨_, rfl, _, _, rfl, rfl, fs ++ gs, _, rfl, (e2.trans e3).mut nF, ?_, hnd2, hall2, List.mem_append_left _ hme, by rw [List.length_append]; omega, fun p k hp hpk j hj hL => ?_⟩
          · rw [upd_same, nv_app]
          · by_cases hp2 : p < at'
            · rw [List.getElem?_append_left (by omega)] at hpk
              exact List.mem_append_left _ (hcl p k hp2 hpk j hj hL)
            · have ep : p = at' := by omega
              subst ep
              rw [List.getElem?_append_left hlt, List.getElem?_eq_getElem hlt] at hpk
              cases hpk
              by_cases hm : j ∈ fs
              · exact List.mem_append_left _ hm
              · exact List.mem_append_right _ ((hgm j).mpr ⟨hj, hm, by omega⟩)
      · refine itF (decide_eq_false (by omega)) ?_
        have hgrp : ∀ j, j ∈ fs ↔ j < n ∧ Reach n (fun a b => - f a b) 0 i j := fun j => ⟨fun h => hall j h, fun h => reach_mem hme (fun k hk j hj hL => by
          obtain ⟨p, hp, ep⟩ := List.mem_iff_getElem.mp hk
          exact hcl p k (by omega) (by rw [List.getElem?_eq_getElem hp, ep]) j hj hL) h.2⟩
        have hG2 := e2 _ _ hG
        have hFi : SqL K H2 F ((fs.map fun (k : Nat) => (k : Int)).map V.int) := by
          have := sq_of (K := K) hF
          rw [nv_iv] at this
          exact this
        refine ⟨_, rfl, .inl ⟨rfl, _, sq_of hG2⟩, _, rfl, F, _, rfl, hFi, by rw [List.length_map]; omega, fun ns p perm srt np => ?_⟩
        obtain ⟨ks, rfl, hks, hkp⟩ := rising_of perm srt hnd
        have ep := Ex.new (o := .lst ((ks.map fun (k : Nat) => (k : Int)).map V.int)) np
        have hpG : p ≠ G := (ne_of_fresh hG2 np).symm
        have hpl : ps.length = gs.length := Paired.len hP
        refine ⟨G, _, _, rfl, rfl, ep _ _ hG2, sz_lt (by rw [List.length_map]; omega), ?_⟩
        refine ⟨_, _, _, _, ps ++ [p], gs ++ [ks], rfl, (e.trans (e2.trans ep)).mut nG, ?_, by rw [List.length_append, hgl]; rfl, ?_, fun j hj => ?_⟩
        · rw [upd_same, List.map_append]
          rfl
        · refine Paired.append ?_ (.cons ⟨hpG, fresh_back (e.trans e2) np, ?_⟩ .nil)
          · refine L2.Paired.mapP hP fun p' k' h => ⟨h.1, h.2.1, ?_⟩
            rw [upd_ne h.1]
            exact ep _ _ (e2 _ _ h.2.2)
          · rw [upd_ne hpG, upd_same]
            show some (HO.lst (iv _)) = _
            rw [← nv_iv]
        · by_cases hji : j < i
          · rw [List.getD_eq_getElem?_getD, List.getElem?_append_left (by omega), ← List.getD_eq_getElem?_getD]
            exact hgr j hji
          · have : j = gs.length := by omega
            subst this
            rw [List.getD_eq_getElem?_getD, List.getElem?_append_right (Nat.le_refl _), Nat.sub_self]
            exact ⟨hks, fun x => by rw [hgl, ← hgrp x]; exact hkp.mem_iff⟩
    · rintro σ' H2 ⟨y2, y3, y4, y5, ps, gs, rfl, e, hG, hgl, hP, hgr⟩
      have hpl : ps.length = gs.length := Paired.len hP
      have hP2 : Paired (fun p xs => SqL K H2 p xs) ps (gs.map nv) := by
        clear hgr hG hgl hpl
        induction hP with
        | nil => exact .nil
        | cons a _ ih => exact .cons (sq_of a.2.2) ih
      refine ⟨_, rfl, _, rfl, G, ps, gs.map nv, rfl, sq_of hG, by omega, hP2, fun i p hp hbest => ?_⟩
      obtain ⟨ks, hks, h1, h2, h3⟩ := Paired.get hP hp
      have hin : i < n := by
        have := (List.getElem?_eq_some_iff.mp hp).1
        omega
      have at_ : ∀ j, j < n → ((gs.map nv).getD j []).length = (gs.getD j []).length := fun j hj => by
        rw [List.getD_eq_getElem?_getD, List.getD_eq_getElem?_getD, List.getElem?_map, List.getElem?_eq_getElem (by omega)]
        exact nv_length _
      have eks : gs.getD i [] = ks := by rw [List.getD_eq_getElem?_getD, hks]; rfl
      refine q _ p ks (e1.trans e) (fresh_back e1 h2) h3 ⟨gs, i, hgl, hgr, hin, eks.symm, fun j hj => ?_⟩
      have := hbest j (by omega)
      rw [at_ i hin, at_ j hj, eks] at this
      exact this
end
end Hc
namespace Hc
open PySem PySem.Spec PyProof.Rows L2 Evl
section
variable {P : Program} {w : World} {K : PySem.W.Frag} {mg : Str → Option Value} {base : Heap}
def spIsPk (K : PySem.W.Frag) : Sp := fun vs H Q _ => ∃ (l : Addr) (ks : List Nat), vs = [.ref l] ∧ SqL K H l (nv ks) ∧ ks ≠ [] ∧ ks.length ≤ 1000 ∧ ∀ H2, Ex H H2 → Q (.bl (isPk ks)) H2
theorem pk_drop {lo hi : Int} {l : List Nat} {i x : Nat} (h : l[i]? = some x) : pk lo hi (l.drop i) = if (x : Int) = lo - 1 then pk x hi (l.drop (i + 1)) else if (x : Int) = hi + 1 then pk lo x (l.drop (i + 1)) else false := by
  have hi' : i < l.length := (List.getElem?_eq_some_iff.mp h).1
  have e : l[i] = x := (List.getElem?_eq_some_iff.mp h).2
  rw [List.drop_eq_getElem_cons hi', e]
  rfl
theorem ok_is_peaked (T : Tx K mg) : FnOk P w K mg base CX0 1 T.f_is_peaked T.d_is_peaked ["order"] (spIsPk K) := by
  refine T.F_is_peaked.ok sc_is_peaked (fun vs H Q E h => ?_) (fun cdv A outer s H vs Q E hr h => ?_)
  · obtain ⟨l, ks, rfl, _⟩ := h
    rfl
  · obtain ⟨l, ks, rfl, hL, h0, hk1, q⟩ := h
    obtain ⟨x, r, rfl⟩ : ∃ x r, ks = x :: r := by
      cases ks with
      | nil => exact absurd rfl h0
      | cons x r => exact ⟨x, r, rfl⟩
    refine ⟨_, pss_cons (ps_set (i := 1) sc_is_peaked.nd rfl (Or.inl rfl) (pe_ix (ixLK K) (pv 0) pe_int (fun _ _ => rfl)))
      (pss_cons (ps_set (i := 2) sc_is_peaked.nd rfl (Or.inl rfl) (pe_ix (ixLK K) (pv 0) pe_int (fun _ _ => rfl)))
      (pss_cons (ps_for PassesOwn.never rfl (piL K (pe_slice (slLK K) (pv 0) (po_some pe_int) po_none)) (pg_name (i := 3) sc_is_peaked.nd rfl (by first | exact Or.inl rfl | exact Or.inr rfl))
        (pss_one (ps_if (pt_cmpR op_eq (pv 3) (pe_op op_sub (pv 1) pe_int) (nomark _)) (pss_one (ps_set (i := 1) sc_is_peaked.nd rfl (Or.inl rfl) (pv 3))) (pss_one (ps_if (pt_cmpR op_eq (pv 3) (pe_op op_add (pv 2) pe_int) (nomark _)) (pss_one (ps_set (i := 2) sc_is_peaked.nd rfl (Or.inl rfl) (pv 3))) (pss_one (ps_ret pe_bl)))))))
      (pss_one (ps_ret pe_bl)))), ?_⟩
    refine ⟨_, rfl, l, _, 0, .int (x : Int), rfl, rfl, hL, atI_nat (j := 0) rfl, ?_⟩
    refine ⟨_, rfl, l, _, 0, .int (x : Int), rfl, rfl, hL, atI_nat (j := 0) rfl, ?_⟩
    refine ⟨_, rfl, 1, rfl, l, _, rfl, hL, fun c nc => ?_⟩
    have ec : cutV (nv (x :: r)) (some 1) none = nv r := by
      rw [show (1 : Int) = ((1 : Nat) : Int) from rfl, cut_from, nv_drop]
      rfl
    rw [ec]
    have e1 := Ex.new (o := .lst (nv r)) nc
    refine ⟨c, rfl, ⟨_, sq_of upd_same⟩, for_list (K := K) (a := c) (xs := nv r) (fun i σ' H' => ∃ (lo hi : Int) (y3 : Option V), σ' = [some (.ref l), some (.int lo), some (.int hi), y3] ∧ Ex H H' ∧ H' c = some (.lst (nv r)) ∧ pk lo hi (r.drop i) = isPk (x :: r))
      ⟨x, x, _, rfl, e1, upd_same, rfl⟩ (fun i σ' H' _ ⟨_, _, _, _, _, hc, _⟩ => sq_of hc) ?_ ?_⟩
    · rintro i y σ' H' hi ⟨lo, hi', y3, rfl, e, hc, hpk⟩
      obtain ⟨k, hk, rfl⟩ := nv_get hi
      rw [pk_drop hk] at hpk
      refine ⟨_, rfl, _, rfl, _, _, rfl, rfl, rfl, _, rfl, ?_⟩
      rw [dec_int]
      refine it2 (fun h1 => ?_) (fun h1 => ?_)
      · rw [if_pos (of_decide_eq_true h1)] at hpk
        exact ⟨_, rfl, _, _, _, rfl, e, hc, hpk⟩
      · rw [if_neg (of_decide_eq_false h1)] at hpk
        refine ⟨_, rfl, _, rfl, _, _, rfl, rfl, rfl, _, rfl, ?_⟩
        rw [dec_int]
        refine it2 (fun h2 => ?_) (fun h2 => ?_)
        · rw [if_pos (of_decide_eq_true h2)] at hpk
          exact ⟨_, rfl, _, _, _, rfl, e, hc, hpk⟩
        · rw [if_neg (of_decide_eq_false h2)] at hpk
          rw [← hpk] at q
          exact q _ e
    · rintro σ' H' ⟨lo, hi', y3, rfl, e, hc, hpk⟩
      rw [nv_length, List.drop_length] at hpk
      rw [← hpk] at q
      exact q _ e
def spPeaked (K : PySem.W.Frag) : Sp := fun vs H Q _ => ∃ (n : Nat) (v : V) (bs : List (List Nat × Int)), vs = [.int (n : Int), v] ∧ 1 ≤ n ∧ n ≤ 20 ∧ BalsR K H v bs ∧ bs.all (okB n) = true ∧ bs.length ≤ 1000 ∧ ∀ H2, Ex H H2 → Q (.bl (bs.all fun b => isPk b.1)) H2
theorem all_bals (bs : List (List Nat × Int)) (p : List Nat × Int → Bool) : ((List.range bs.length).map fun i => p (bs.getD i ([], 0))).all id = bs.all p := by
  rw [Bool.eq_iff_iff, List.all_eq_true, List.all_eq_true]
  constructor
  · intro h b hb
    obtain ⟨i, hi, rfl⟩ := List.mem_iff_getElem.mp hb
    have := h (p (bs.getD i ([], 0))) (List.mem_map.mpr ⟨i, List.mem_range.mpr hi, rfl⟩)
    rw [List.getD_eq_getElem?_getD, List.getElem?_eq_getElem hi] at this
    exact this
  · intro h c hc
    obtain ⟨i, hi, rfl⟩ := List.mem_map.mp hc
    have hi2 := List.mem_range.mp hi
    refine h _ ?_
    rw [List.getD_eq_getElem?_getD, List.getElem?_eq_getElem hi2]
    exact List.getElem_mem hi2
theorem okB_ne {n : Nat} (hn : 1 ≤ n) {b : List Nat × Int} (h : okB n b = true) : b.1 ≠ [] := fun e => by
  have := okB_len h
  rw [e] at this
  simp at this
  omega
theorem ok_peaked (T : Tx K mg) : FnOk P w K mg base CX0 4 T.f_peaked T.d_peaked ["candidates", "ballots"] (spPeaked K) := by
  refine T.F_peaked.ok sc_peaked (fun vs H Q E h => ?_) (fun cdv A outer s H vs Q E hr h => ?_)
  · obtain ⟨n, v, bs, rfl, _⟩ := h
    rfl
  · obtain ⟨n, v, bs, rfl, hn1, hn, hB, hok, hbl, q⟩ := h
    obtain ⟨a, xs, rfl, hS, hP⟩ := id hB
    have hxl : xs.length = bs.length := Paired.len hP
    refine ⟨_, pss_cons (ps_expr (pe_call (ok_asked_ballots T) (hr.mono (by decide)) (by rfl) T.g_asked_ballots T.F_asked_ballots.kp (b_asked_ballots T) .nil pass0 (pa_cons (pv 0) (pa_cons (pv 1) pa_nil))))
      (pss_one (ps_ret (pe_callB (allK K) (by rfl) T.n_all PyProof.Rows.boot_all (pa_cons (pe_lc (own := [("order", 2), ("many", 3)]) rfl sc_peaked.nd (piL K (pv 1)) (blkOk_by (own := [("order", 2), ("many", 3)]) (N := ["candidates", "ballots", "order", "many"]) (sc := defScope s_peaked) (by decide +kernel)) (fun _ _ _ _ _ => (pgT K (n := 2) (pgs_cons (pg_name (i := 2) sc_peaked.nd rfl (by first | exact Or.inl rfl | exact Or.inr rfl)) (pgs_cons (pg_name (i := 3) sc_peaked.nd rfl (by first | exact Or.inl rfl | exact Or.inr rfl)) pgs_nil)))) (fun _ _ _ _ _ => pts_nil) (fun _ _ _ _ _ => (pe_call (ok_is_peaked T) (hr.mono (by decide)) (by rfl) T.g_is_peaked T.F_is_peaked.kp (b_is_peaked T) .nil pass0 (pa_cons (pv 2) pa_nil)))) pa_nil)))), ?_⟩
    refine ⟨_, rfl, _, rfl, n, _, bs, rfl, hn1, hn, hB, hok, fun H1 e1 => ?_⟩
    refine ⟨_, rfl, a, rfl, ⟨xs, ex_l e1 hS⟩, fun D hD => ?_⟩
    refine lc_vals (walk_list (K := K) (a := a) (xs := xs)) hD (by omega) (fun Hx e => ex_l (e1.trans e) hS) (fun i => V.bl (isPk (bs.getD i ([], 0)).1)) ?_ ?_
    · rintro i x Ha Ha' hi ea ⟨rfl, hx⟩ Qc hq
      obtain ⟨b, hb, t, l, rfl, hT, hL⟩ := Paired.get hP hx
      rw [List.getD_eq_getElem?_getD, hb] at hq
      have eH := e1.trans ea
      exact ⟨t, _, rfl, ex_t eH hT, rfl, .ref l, _, rfl, .int b.2, [], rfl, rfl, rfl, _, rfl, l, b.1, rfl, ex_l eH hL, okB_ne hn1 (List.all_eq_true.mp hok b (List.mem_of_getElem? hb)), by rw [okB_len (List.all_eq_true.mp hok b (List.mem_of_getElem? hb))]; omega, fun H2 e2 => hq _ e2⟩
    · intro H2 e2 hD2
      rw [hxl, map_bl_all] at hD2
      refine ⟨D, _, rfl, sq_of hD2, ?_⟩
      rw [all_bals bs fun b => isPk b.1]
      exact q _ (e1.trans e2)
def spMid (K : PySem.W.Frag) : Sp := fun vs H Q _ => ∃ (n : Nat) (v : V) (bs : List (List Nat × Int)), vs = [.int (n : Int), v] ∧ 1 ≤ n ∧ n ≤ 20 ∧ BalsR K H v bs ∧ bs.all (okB n) = true ∧ (bs.all fun b => isPk b.1) = true ∧ bs.length ≤ 1000 ∧
  ∀ H2 w, Ex H H2 → w < n → wholeOf bs ≤ 2 * held bs w → (∀ v, v < w → 2 * held bs v < wholeOf bs) → Q (.int (w : Nat)) H2
theorem heldB_zero : ∀ bs : List (List Nat × Int), heldB bs 0 = 0
  | [] => rfl
  | b :: bs => by
    have := heldB_zero bs
    unfold heldB at this ⊢
    rw [List.map_cons, List.sum_cons, this, if_neg (by omega)]
    rfl
theorem map_getD_bals (bs : List (List Nat × Int)) : ((List.range bs.length).map fun i => (bs.getD i ([], 0)).2) = bs.map fun b => b.2 := by
  apply List.ext_getElem?
  intro i
  rw [List.getElem?_map, List.getElem?_map]
  by_cases h : i < bs.length
  · rw [List.getElem?_range h, List.getElem?_eq_getElem h, Option.map_some, Option.map_some, List.getD_eq_getElem?_getD, List.getElem?_eq_getElem h]
    rfl
  · rw [List.getElem?_eq_none (by rw [List.length_range]; omega), List.getElem?_eq_none (by omega)]
    rfl
theorem sum_filt (p : Nat → Bool) (g : Nat → Int) : ∀ l : List Nat, ((l.filter p).map g).sum = (l.map fun i => if p i then g i else 0).sum
  | [] => rfl
  | a :: l => by
    rw [List.map_cons, List.sum_cons, ← sum_filt p g l, List.filter_cons]
    cases h : p a
    · simp
    · simp
theorem held_step (bs : List (List Nat × Int)) (w : Nat) : heldB bs w + (((List.range bs.length).filter fun i => topOf (bs.getD i ([], 0)) == w).map fun i => (bs.getD i ([], 0)).2).sum = held bs w := by
  rw [sum_filt (fun i => topOf (bs.getD i ([], 0)) == w) fun i => (bs.getD i ([], 0)).2]
  have e : ((List.range bs.length).map fun i => if (topOf (bs.getD i ([], 0)) == w) = true then (bs.getD i ([], 0)).2 else 0) = bs.map fun b => if (topOf b == w) = true then b.2 else 0 := by
    apply List.ext_getElem?
    intro i
    rw [List.getElem?_map, List.getElem?_map]
    by_cases h : i < bs.length
    · rw [List.getElem?_range h, List.getElem?_eq_getElem h, Option.map_some, Option.map_some, List.getD_eq_getElem?_getD, List.getElem?_eq_getElem h]
      rfl
    · rw [List.getElem?_eq_none (by rw [List.length_range]; omega), List.getElem?_eq_none (by omega)]
      rfl
  rw [e]
  unfold heldB held
  induction bs with
  | nil => rfl
  | cons b bs ih =>
    have ih2 := ih (by
      apply List.ext_getElem?
      intro i
      rw [List.getElem?_map, List.getElem?_map]
      by_cases h : i < bs.length
      · rw [List.getElem?_range h, List.getElem?_eq_getElem h, Option.map_some, Option.map_some, List.getD_eq_getElem?_getD, List.getElem?_eq_getElem h]
        rfl
      · rw [List.getElem?_eq_none (by rw [List.length_range]; omega), List.getElem?_eq_none (by omega)]
        rfl)
    rw [List.map_cons, List.map_cons, List.map_cons, List.sum_cons, List.sum_cons, List.sum_cons, ← ih2]
    by_cases c1 : topOf b < w
    · rw [if_pos c1, if_neg (by simp; omega), if_pos (by omega)]
      omega
    · by_cases c2 : topOf b = w
      · rw [if_neg c1, if_pos (by simp [c2]), if_pos (by omega)]
        omega
      · rw [if_neg c1, if_neg (by simpa using c2), if_neg (by omega)]
        omega
theorem held_all {n : Nat} (hn : 1 ≤ n) {bs : List (List Nat × Int)} (h : bs.all (okB n) = true) : held bs (n - 1) = wholeOf bs := by
  unfold held wholeOf
  congr 1
  refine List.map_congr_left fun b hb => ?_
  have h1 := List.all_eq_true.mp h b hb
  have h2 : topOf b < n := by
    unfold topOf
    cases hl : b.1 with
    | nil => exact absurd hl (okB_ne hn h1)
    | cons x l => exact okB_lt h1 x (by rw [hl]; exact List.mem_cons_self ..)
  rw [if_pos (by omega)]
theorem whole_nonneg {n : Nat} : ∀ {bs : List (List Nat × Int)}, bs.all (okB n) = true → 0 ≤ wholeOf bs
  | [], _ => by show (0 : Int) ≤ 0; decide
  | b :: bs, h => by
    rw [List.all_cons, Bool.and_eq_true] at h
    have h1 := whole_nonneg h.2
    have h2 := h.1
    unfold okB at h2
    rw [Bool.and_eq_true] at h2
    have h3 := of_decide_eq_true h2.1
    have e : wholeOf (b :: bs) = b.2 + wholeOf bs := by unfold wholeOf; rw [List.map_cons, List.sum_cons]
    rw [e]
    omega
theorem ok_middle (T : Tx K mg) : FnOk P w K mg base CX0 4 T.f_middle T.d_middle ["candidates", "ballots"] (spMid K) := by
  refine T.F_middle.ok sc_middle (fun vs H Q E h => ?_) (fun cdv A outer s H vs Q E hr h => ?_)
  · obtain ⟨n, v, bs, rfl, _⟩ := h
    rfl
  · obtain ⟨n, v, bs, rfl, hn1, hn, hB, hok, hpk, hbl, q⟩ := h
    obtain ⟨a, xs, rfl, hS, hP⟩ := id hB
    have hxl : xs.length = bs.length := Paired.len hP
    refine ⟨_, pss_cons (ps_expr (pe_call (ok_asked_ballots T) (hr.mono (by decide)) (by rfl) T.g_asked_ballots T.F_asked_ballots.kp (b_asked_ballots T) .nil pass0 (pa_cons (pv 0) (pa_cons (pv 1) pa_nil))))
      (pss_cons (ps_if (pt_not (pt_val (pe_callB (allK K) (by rfl) T.n_all PyProof.Rows.boot_all (pa_cons (pe_lc (own := [("order", 5), ("many", 6)]) rfl sc_middle.nd (piL K (pv 1)) (blkOk_by (own := [("order", 5), ("many", 6)]) (N := ["candidates", "ballots", "whole", "held", "who", "order", "many"]) (sc := defScope s_middle) (by decide +kernel)) (fun _ _ _ _ _ => (pgT K (n := 2) (pgs_cons (pg_name (i := 5) sc_middle.nd rfl (by first | exact Or.inl rfl | exact Or.inr rfl)) (pgs_cons (pg_name (i := 6) sc_middle.nd rfl (by first | exact Or.inl rfl | exact Or.inr rfl)) pgs_nil)))) (fun _ _ _ _ _ => pts_nil) (fun _ _ _ _ _ => (pe_call (ok_is_peaked T) (hr.mono (by decide)) (by rfl) T.g_is_peaked T.F_is_peaked.kp (b_is_peaked T) .nil pass0 (pa_cons (pv 5) pa_nil)))) pa_nil)))) (pss_one (ps_never)) (pss_nil))
      (pss_cons (ps_set (i := 2) sc_middle.nd rfl (Or.inl rfl) (pe_callB (sumK K) (by rfl) T.n_sum PyProof.Rows.boot_sum (pa_cons (pe_lc (own := [("order", 5), ("many", 6)]) rfl sc_middle.nd (piL K (pv 1)) (blkOk_by (own := [("order", 5), ("many", 6)]) (N := ["candidates", "ballots", "whole", "held", "who", "order", "many"]) (sc := defScope s_middle) (by decide +kernel)) (fun _ _ _ _ _ => (pgT K (n := 2) (pgs_cons (pg_name (i := 5) sc_middle.nd rfl (by first | exact Or.inl rfl | exact Or.inr rfl)) (pgs_cons (pg_name (i := 6) sc_middle.nd rfl (by first | exact Or.inl rfl | exact Or.inr rfl)) pgs_nil)))) (fun _ _ _ _ _ => pts_nil) (fun _ _ _ _ _ => (pv 6))) pa_nil)))
      (pss_cons (ps_set (i := 3) sc_middle.nd rfl (Or.inl rfl) pe_int)
      (pss_cons (ps_for PassesOwn.never rfl (pi_range1 (by rfl) T.n_range (pa_cons (pv 0) pa_nil)) (pg_name (i := 4) sc_middle.nd rfl (by first | exact Or.inl rfl | exact Or.inr rfl))
        (pss_cons (ps_set (i := 3) sc_middle.nd rfl (Or.inl rfl) (pe_op op_add (pv 3) (pe_callB (sumK K) (by rfl) T.n_sum PyProof.Rows.boot_sum (pa_cons (pe_lc (own := [("order", 5), ("many", 6)]) rfl sc_middle.nd (piL K (pv 1)) (blkOk_by (own := [("order", 5), ("many", 6)]) (N := ["candidates", "ballots", "whole", "held", "who", "order", "many"]) (sc := defScope s_middle) (by decide +kernel)) (fun _ _ _ _ _ => (pgT K (n := 2) (pgs_cons (pg_name (i := 5) sc_middle.nd rfl (by first | exact Or.inl rfl | exact Or.inr rfl)) (pgs_cons (pg_name (i := 6) sc_middle.nd rfl (by first | exact Or.inl rfl | exact Or.inr rfl)) pgs_nil)))) (fun _ _ _ _ _ => pts_one (pt_cmpR op_eq (pe_ix (ixLK K) (pv 5) pe_int (fun _ _ => rfl)) (pv 4) (nomark _))) (fun _ _ _ _ _ => (pv 6))) pa_nil))))
      (pss_one (ps_if (pt_cmpR op_ge (pe_op op_mulG pe_int (pv 3)) (pv 2) (nomark _)) (pss_one (ps_ret (pv 4))) (pss_nil)))))
      (pss_one (ps_ret pe_int)))))), ?_⟩
    refine ⟨_, rfl, _, rfl, n, _, bs, rfl, hn1, hn, hB, hok, fun H1 e1 => ?_⟩
    refine ⟨_, rfl, a, rfl, ⟨xs, ex_l e1 hS⟩, fun D hD => ?_⟩
    refine lc_vals (walk_list (K := K) (a := a) (xs := xs)) hD (by omega) (fun Hx e => ex_l (e1.trans e) hS) (fun i => V.bl (isPk (bs.getD i ([], 0)).1)) ?_ ?_
    · rintro i x Ha Ha' hi ea ⟨rfl, hx⟩ Qc hq
      obtain ⟨b, hb, t, l, rfl, hT, hL⟩ := Paired.get hP hx
      rw [List.getD_eq_getElem?_getD, hb] at hq
      have eH := e1.trans ea
      exact ⟨t, _, rfl, ex_t eH hT, rfl, .ref l, _, rfl, .int b.2, [], rfl, rfl, rfl, _, rfl, l, b.1, rfl, ex_l eH hL, okB_ne hn1 (List.all_eq_true.mp hok b (List.mem_of_getElem? hb)), by rw [okB_len (List.all_eq_true.mp hok b (List.mem_of_getElem? hb))]; omega, fun H2 e2 => hq _ e2⟩
    intro H2 e2 hD2
    rw [hxl, map_bl_all] at hD2
    refine ⟨D, _, rfl, sq_of hD2, true, by rw [all_bals bs fun b => isPk b.1, hpk], ?_⟩
    have e12 := e1.trans e2
    refine ⟨_, rfl, a, rfl, ⟨xs, ex_l e12 hS⟩, fun D2 hD2' => ?_⟩
    refine lc_vals (walk_list (K := K) (a := a) (xs := xs)) hD2' (by omega) (fun Hx e => ex_l (e12.trans e) hS) (fun i => V.int (bs.getD i ([], 0)).2) ?_ ?_
    · rintro i x Ha Ha' hi ea ⟨rfl, hx⟩ Qc hq
      obtain ⟨b, hb, t, l, rfl, hT, hL⟩ := Paired.get hP hx
      rw [List.getD_eq_getElem?_getD, hb] at hq
      exact ⟨t, _, rfl, ex_t (e12.trans ea) hT, rfl, .ref l, _, rfl, .int b.2, [], rfl, rfl, rfl, _, rfl, hq _ (Ex.refl _)⟩
    intro H3 e3 hD3
    have eW : ((List.range xs.length).map fun i => V.int (bs.getD i ([], 0)).2) = (bs.map fun b => b.2).map V.int := by
      rw [hxl, ← map_getD_bals, List.map_map]
      rfl
    rw [eW] at hD3
    refine ⟨D2, _, rfl, sq_of hD3, ?_⟩
    have e13 := e12.trans e3
    refine ⟨_, rfl, n, rfl, by omega, by omega, ?_⟩
    refine for_it (walk_rg0 (n := n)) (fun i σ' H' => ∃ y4, σ' = [some (.int n), some (.ref a), some (.int (wholeOf bs)), some (.int (heldB bs i)), y4, none, none] ∧ Ex H H' ∧ ∀ v, v < i → 2 * held bs v < wholeOf bs)
      ⟨none, by rw [heldB_zero]; rfl, e13, fun v hv => by omega⟩ (fun _ _ _ _ _ => trivial) ?_ ?_
    · rintro i x σ' H' H'' hi ⟨y4, rfl, e, hlow⟩ ⟨rfl, rfl⟩
      refine ⟨_, rfl, _, rfl, a, rfl, ⟨xs, ex_l e hS⟩, fun D4 hD4 => ?_⟩
      refine lc_filt (walk_list (K := K) (a := a) (xs := xs)) hD4 (by omega) (fun Hx e2 => ex_l (e.trans e2) hS) (fun j => topOf (bs.getD j ([], 0)) == i) (fun j => V.int (bs.getD j ([], 0)).2) ?_ ?_
      · rintro j x Ha Ha' hj ea ⟨rfl, hx⟩ Bf Qc hno hyes
        obtain ⟨b, hb, t, l, rfl, hT, hL⟩ := Paired.get hP hx
        rw [List.getD_eq_getElem?_getD, hb] at hno hyes
        have eH := e.trans ea
        have hokb := List.all_eq_true.mp hok b (List.mem_of_getElem? hb)
        obtain ⟨x0, l0, hl0⟩ : ∃ x0 l0, b.1 = x0 :: l0 := by
          cases hl : b.1 with
          | nil => exact absurd hl (okB_ne hn1 hokb)
          | cons x0 l0 => exact ⟨x0, l0, rfl⟩
        have htop : topOf b = x0 := by unfold topOf; rw [hl0]; rfl
        have hL2 := ex_l eH hL
        rw [hl0] at hL2
        refine ⟨t, _, rfl, ex_t eH hT, rfl, .ref l, _, rfl, .int b.2, [], rfl, rfl, rfl, _, rfl, l, _, 0, .int (x0 : Int), rfl, rfl, hL2, atI_nat (j := 0) rfl, _, rfl, rfl, _, rfl, ?_⟩
        rw [dec_int]
        by_cases c : x0 = i
        · refine itT (decide_eq_true (by omega)) ⟨_, rfl, hyes _ (Ex.refl _) ?_⟩
          show (topOf b == i) = true
          rw [htop, c]
          exact beq_self_eq_true i
        · refine itF (decide_eq_false (by omega)) (hno _ (Ex.refl _) ?_)
          show (topOf b == i) = false
          rw [htop]
          exact beq_false_of_ne c
      · intro H4 e4 hD4'
        have eS : (((List.range xs.length).filter fun j => topOf (bs.getD j ([], 0)) == i).map fun j => V.int (bs.getD j ([], 0)).2) = (((List.range bs.length).filter fun j => topOf (bs.getD j ([], 0)) == i).map fun j => (bs.getD j ([], 0)).2).map V.int := by
          rw [hxl, List.map_map]
          rfl
        rw [eS] at hD4'
        refine ⟨D4, _, rfl, sq_of hD4', _, _, rfl, rfl, ?_⟩
        dsimp only
        rw [held_step]
        refine ⟨_, rfl, _, _, rfl, rfl, mulOk_small (by decide) (by decide), _, rfl, _, _, rfl, rfl, _, rfl, it2 (fun h1 => ?_) (fun h1 => ?_)⟩
        · exact ⟨_, rfl, q _ i (e.trans e4) hi (of_decide_eq_true h1) hlow⟩
        · have h2 : ¬ wholeOf bs ≤ 2 * held bs i := of_decide_eq_false h1
          refine ⟨some (.int (i : Int)), by rw [heldB_succ]; rfl, e.trans e4, fun v hv => ?_⟩
          by_cases c : v = i
          · rw [c]
            omega
          · exact hlow v (by omega)
    · rintro σ' H' ⟨y4, rfl, e, hlow⟩
      have h1 := hlow (n - 1) (by omega)
      rw [held_all hn1 hok] at h1
      have h2 := whole_nonneg hok
      omega
/-- middle's raising way -/
def spMidX (K : PySem.W.Frag) (C : Addr) : Sp := fun vs H _ E => ∃ (n : Nat) (v : V) (bs : List (List Nat × Int)), vs = [.int (n : Int), v] ∧ 1 ≤ n ∧ n ≤ 20 ∧ BalsR K H v bs ∧ bs.all (okB n) = true ∧ (bs.all fun b => isPk b.1) = false ∧ bs.length ≤ 1000 ∧
  ∀ H2, Ex H H2 → E (.ref C) none H2
theorem okX_middle (T : Tx K mg) : FnOk P w K mg base (L2N.CX P w) 4 T.f_middle T.d_middle ["candidates", "ballots"] (spMidX K T.c_NotPeaked) := by
  refine okN T.F_middle sc_middle (fun vs H Q E h => ?_) (fun cdv A outer s H vs Q E hr h => ?_)
  · obtain ⟨n, v, bs, rfl, _⟩ := h
    rfl
  · obtain ⟨n, v, bs, rfl, hn1, hn, hB, hok, hpk, hbl, q⟩ := h
    obtain ⟨a, xs, rfl, hS, hP⟩ := id hB
    have hxl : xs.length = bs.length := Paired.len hP
    refine ⟨_, pss_cons (ps_expr (pe_call (ok_asked_ballots T) (hr.mono (by decide)) (by rfl) T.g_asked_ballots T.F_asked_ballots.kp (b_asked_ballots T) .nil pass0 (pa_cons (pv 0) (pa_cons (pv 1) pa_nil))))
      (pss_cons (ps_if (pt_not (pt_val (pe_callB (allK K) (by rfl) T.n_all PyProof.Rows.boot_all (pa_cons (pe_lc (own := [("order", 5), ("many", 6)]) rfl sc_middle.nd (piL K (pv 1)) (blkOk_by (own := [("order", 5), ("many", 6)]) (N := ["candidates", "ballots", "whole", "held", "who", "order", "many"]) (sc := defScope s_middle) (by decide +kernel))
        (fun _ _ _ _ _ => (pgT K (n := 2) (pgs_cons (pg_name (i := 5) sc_middle.nd rfl (by first | exact Or.inl rfl | exact Or.inr rfl)) (pgs_cons (pg_name (i := 6) sc_middle.nd rfl (by first | exact Or.inl rfl | exact Or.inr rfl)) pgs_nil)))) (fun _ _ _ _ _ => pts_nil)
        (fun _ _ _ _ _ => (pe_call (ok_is_peaked T) (hr.mono (by decide)) (by rfl) T.g_is_peaked T.F_is_peaked.kp (b_is_peaked T) .nil pass0 (pa_cons (pv 5) pa_nil)))) pa_nil))))
          (pss_one (L2N.ps_raise rfl (L2N.takes_of rfl rfl rfl rfl) (L2N.pmk_own PySem.F.excBase_ValueError T.e_NotPeaked.x T.e_NotPeaked.g T.e_NotPeaked.k (raises_own T.e_NotPeaked.b T.e_NotPeaked.t) rfl))) (pss_nil)) pss_never), ?_⟩
    refine ⟨_, rfl, _, rfl, n, _, bs, rfl, hn1, hn, hB, hok, fun H1 e1 => ?_⟩
    refine ⟨_, rfl, a, rfl, ⟨xs, ex_l e1 hS⟩, fun D hD => ?_⟩
    refine lc_vals (walk_list (K := K) (a := a) (xs := xs)) hD (by omega) (fun Hx e => ex_l (e1.trans e) hS) (fun i => V.bl (isPk (bs.getD i ([], 0)).1)) ?_ ?_
    · rintro i x Ha Ha' hi ea ⟨rfl, hx⟩ Qc hq
      obtain ⟨b, hb, t, l, rfl, hT, hL⟩ := Paired.get hP hx
      rw [List.getD_eq_getElem?_getD, hb] at hq
      have eH := e1.trans ea
      have hb1 := List.all_eq_true.mp hok b (List.mem_of_getElem? hb)
      exact ⟨t, _, rfl, ex_t eH hT, rfl, .ref l, _, rfl, .int b.2, [], rfl, rfl, rfl, _, rfl, l, b.1, rfl, ex_l eH hL, okB_ne hn1 hb1, by rw [okB_len hb1]; omega, fun H2 e2 => hq _ e2⟩
    intro H2 e2 hD2
    rw [hxl, map_bl_all] at hD2
    refine ⟨D, _, rfl, sq_of hD2, false, by rw [all_bals bs fun b => isPk b.1, hpk], ?_⟩
    exact q _ (e1.trans e2)
end
end Hc
namespace Hc
open PySem PySem.Spec PyProof.Rows L2 Evl
section
variable {P : Program} {w : World} {K : PySem.W.Frag} {mg : Str → Option Value} {base : Heap}
def lawNum (c a w : Int) : Int := if 10 ^ 18 ≤ c then c / (1 + a % 7) else
  (((c + 977 * a) * 48271 + w) % 2147483647 * (c + 31 * a + 7)) * (((c + 977 * a) * 48271 + w) % 2147483647 + c + 5) * (((c + 977 * a) * 48271 + w) % 2147483647 * (((c + 977 * a) * 48271 + w) % 2147483647) + 11) / (1009 + a)
def spLawNum : Sp := fun vs H Q _ => ∃ (c a w : Int) (B : Nat), vs = [.int c, .int a, .int w] ∧ 0 ≤ a ∧ a ≤ 1000 ∧ Big B c ∧ B ≤ 2000000 ∧ Q (.int (lawNum c a w)) H
theorem mod31 (x : Int) : 0 ≤ x % 2147483647 ∧ x % 2147483647 < 2147483647 := ⟨Int.emod_nonneg _ (by decide), Int.emod_lt_of_pos _ (by decide)⟩
theorem ok_law_number (T : Tx K mg) : FnOk P w K mg base CX0 1 T.f_law_number T.d_law_number ["_law_cell", "_law_at", "_law_whole"] spLawNum := by
  refine T.F_law_number.ok sc_law_number (fun vs H Q E h => ?_) (fun cdv A outer s H vs Q E hr h => ?_)
  · obtain ⟨c, a, w', B, rfl, _⟩ := h
    rfl
  · obtain ⟨c, a, w', B, rfl, ha0, ha1, hB, hB2, q⟩ := h
    refine ⟨_, pss_cons (ps_if (pt_cmpR op_ge (pv 0) (pe_op op_pow pe_int pe_int) (nomark _)) (pss_one (ps_ret (pe_op op_fdivW (pv 0) (pe_op op_add pe_int (pe_op op_mod (pv 1) pe_int))))) (pss_nil))
      (pss_cons (ps_set (i := 3) sc_law_number.nd rfl (Or.inl rfl) (pe_op op_mod (pe_op op_add (pe_op op_mulG (pe_op op_add (pv 0) (pe_op op_mulG pe_int (pv 1))) pe_int) (pv 2)) pe_int))
      (pss_cons (ps_set (i := 4) sc_law_number.nd rfl (Or.inl rfl) (pe_op op_mulG (pv 3) (pe_op op_add (pe_op op_add (pv 0) (pe_op op_mulG pe_int (pv 1))) pe_int)))
      (pss_one (ps_ret (pe_op op_fdivW (pe_op op_mulG (pe_op op_mulG (pv 4) (pe_op op_add (pe_op op_add (pv 3) (pv 0)) pe_int)) (pe_op op_add (pe_op op_mulG (pv 3) (pv 3)) pe_int)) (pe_op op_add pe_int (pv 1))))))), ?_⟩
    refine ⟨_, rfl, _, _, rfl, rfl, ⟨by decide, by decide, by decide⟩, _, _, rfl, rfl, _, rfl, it2 (fun hc => ?_) (fun hc => ?_)⟩
    · have hc1 : (10 : Int) ^ 18 ≤ c := of_decide_eq_true hc
      have h7 := Int.emod_lt_of_pos a (show (0 : Int) < 7 by decide)
      have h70 := Int.emod_nonneg a (show (7 : Int) ≠ 0 by decide)
      refine ⟨_, rfl, _, rfl, _, _, rfl, rfl, (by decide : (0 : Int) < 7), _, _, rfl, rfl, _, _, rfl, rfl, divW_small (by omega) (by omega), ?_⟩
      unfold lawNum at q
      rw [if_pos hc1] at q
      exact q
    · have hc1 : ¬ (10 : Int) ^ 18 ≤ c := of_decide_eq_false hc
      unfold lawNum at q
      rw [if_neg hc1] at q
      obtain ⟨m0, m1⟩ := mod31 ((c + 977 * a) * 48271 + w')
      refine ⟨_, rfl, _, rfl, _, _, rfl, rfl, mulOk_small (by decide) (by decide), _, _, rfl, rfl, _, _, rfl, rfl, mulOk_smallR (by decide) (by decide), _, rfl, _, _, rfl, rfl, _, _, rfl, rfl, (by decide : (0 : Int) < 2147483647), ?_⟩
      dsimp only
      generalize ((c + 977 * a) * 48271 + w') % 2147483647 = m at m0 m1 q ⊢
      refine ⟨_, rfl, _, rfl, _, rfl, _, _, rfl, rfl, mulOk_small (by decide) (by decide), _, _, rfl, rfl, _, _, rfl, rfl, _, _, rfl, rfl, mulOk_small (by omega) (by omega), ?_⟩
      have hc' : Big (B + 64) c := hB.mono (Nat.le_add_right _ _)
      have b1 : Big (B + 64 + 1 + 1) (c + 31 * a + 7) := Big.add (Big.add hc' (big_small (Nat.le_add_left _ _) (by omega) (by omega))) (big_small (by omega) (by decide) (by decide))
      have b2 : Big (B + 64 + 1 + 1) (m + c + 5) := Big.add (Big.add (big_small (Nat.le_add_left _ _) (by omega) (by omega)) hc') (big_small (by omega) (by decide) (by decide))
      have b3 : Big (64 + (B + 64 + 1 + 1)) (m * (c + 31 * a + 7)) := Big.mul (big_small (Nat.le_refl _) (by omega) (by omega)) b1
      have mm0 : 0 ≤ m * m := Int.mul_nonneg m0 m0
      have mm1 : m * m ≤ 2147483647 * 2147483647 := Int.mul_le_mul (by omega) (by omega) m0 (by decide)
      refine ⟨_, rfl, _, rfl, _, rfl, _, _, rfl, rfl, _, _, rfl, rfl, _, _, rfl, rfl, mulOk_big b3 b2 (by omega) (by omega) (by omega), _, rfl, _, rfl, _, _, rfl, rfl, mulOk_small (by omega) (by omega), _, _, rfl, rfl, _, _, rfl, rfl, mulOk_smallR (by omega) (by omega), _, rfl, _, _, rfl, rfl, _, _, rfl, rfl, divW_small (by omega) (by omega), q⟩
end
end Hc
namespace Hc
open PySem PySem.Spec PyProof.Rows L2 Evl
section
variable {P : Program} {w : World} {K : PySem.W.Frag} {mg : Str → Option Value} {base : Heap}
inductive Fore (CU CR : Addr) (H H2 : Hp) (x : Addr) (n : Nat) (f : Nat → Nat → Int) : Prop where
  | unb (dx : Addr) (w : Nat) (hx : H2 x = some (.ins CU dx [("who", .int (w : Int))])) (hw : w < n) (hu : ∀ j, j < n → 0 ≤ f w j) (hno : ∀ u, u < w → ∃ j, j < n ∧ f u j < 0)
  | ring (dx p : Addr) (ks : List Nat) (np : H p = none) (hx : H2 x = some (.ins CR dx [("way", .ref p)])) (hp : H2 p = some (.lst (nv ks))) (hno : ∀ u, u < n → ∃ j, j < n ∧ f u j < 0) (hsh : shR n f (ks.map fun (k : Nat) => (k : Int)) = true) (hl : ks.length ≤ n)
def spFore (K : PySem.W.Frag) (CU CR : Addr) : Sp := fun vs H Q _ => ∃ (v : V) (n : Nat) (f : Nat → Nat → Int), vs = [v] ∧ 1 ≤ n ∧ n ≤ 20 ∧ TabR K H v n f ∧ Anti n f ∧ ∀ H2 x, Ex H H2 → H x = none → Fore CU CR H H2 x n f → Q (.ref x) H2
theorem at0_nat {rs : List Nat} {i : Nat} : (at0 (rs.map fun (k : Nat) => (k : Int)) i).toNat = rs.getD i 0 := by
  unfold at0
  rw [List.getD_eq_getElem?_getD, List.getD_eq_getElem?_getD, List.getElem?_map]
  cases rs[i]? <;> rfl
theorem rev_at {ws : List Nat} {j i : Nat} (hj : j < ws.length) (hi : i < ws.length - j) : ((ws.drop j).reverse).getD i 0 = ws.getD (ws.length - 1 - i) 0 := by
  rw [List.getD_eq_getElem?_getD, List.getD_eq_getElem?_getD, List.getElem?_reverse (by rw [List.length_drop]; exact hi), List.getElem?_drop, List.length_drop]
  congr 2
  omega
theorem ring_of {n : Nat} {f : Nat → Nat → Int} {ws : List Nat} {j : Nat} (hj : j < ws.length) (nd : ws.Nodup) (lt : ∀ x ∈ ws, x < n) (ch : ∀ i, i + 1 < ws.length → 0 < f (ws.getD (i + 1) 0) (ws.getD i 0)) (cl : 0 < f (ws.getD j 0) (ws.getD (ws.length - 1) 0)) :
    shR n f (((ws.drop j).reverse).map fun (k : Nat) => (k : Int)) = true := by
  have hl : ((ws.drop j).reverse).length = ws.length - j := by rw [List.length_reverse, List.length_drop]
  unfold shR
  rw [Bool.and_eq_true, Bool.and_eq_true, Bool.and_eq_true]
  refine ⟨?_, decide_eq_true ?_, ?_, ?_⟩
  · cases h : (((ws.drop j).reverse).map fun (k : Nat) => (k : Int)) with
    | nil =>
      have := congrArg List.length h
      rw [List.length_map, hl] at this
      simp at this
      omega
    | cons a l => rfl
  · refine List.pairwise_map.mpr ?_
    have : ((ws.drop j).reverse).Nodup := List.pairwise_reverse.mpr (((nd.sublist (List.drop_sublist j ws))).imp fun h => h.symm)
    exact this.imp fun h e => h (by omega)
  · rw [List.all_eq_true]
    intro x hx
    obtain ⟨k, hk, rfl⟩ := List.mem_map.mp hx
    have := lt k (List.mem_of_mem_drop (List.mem_reverse.mp hk))
    unfold inB
    rw [decide_eq_true (by omega), decide_eq_true (by omega)]
    rfl
  · unfold ringBack
    rw [List.all_eq_true]
    intro i hi
    rw [List.mem_range, List.length_map, hl] at hi
    rw [List.length_map, hl, at0_nat, at0_nat, rev_at hj hi]
    by_cases e : i = 0
    · subst e
      rw [if_pos rfl, rev_at hj (by omega), show ws.length - 1 - (ws.length - j - 1) = j by omega]
      exact decide_eq_true cl
    · rw [if_neg e, rev_at hj (by omega)]
      have := ch (ws.length - 1 - i) (by omega)
      rw [show ws.length - 1 - i + 1 = ws.length - 1 - (i - 1) by omega] at this
      exact decide_eq_true this
theorem ok_foremost (T : Tx K mg) : FnOk P w K mg base CX0 3 T.f_foremost T.d_foremost ["table"] (spFore K T.c_Unbeaten T.c_Ring) := by
  refine T.F_foremost.ok sc_foremost (fun vs H Q E h => ?_) (fun cdv A outer s H vs Q E hr h => ?_)
  · obtain ⟨v, n, f, rfl, _⟩ := h
    rfl
  · obtain ⟨v, n, f, rfl, hn1, hn, TT, hA, q⟩ := h
    refine ⟨_, pss_cons (ps_expr (pe_call (ok_asked_table T) (hr.mono (by decide)) (by rfl) T.g_asked_table T.F_asked_table.kp (b_asked_table T) .nil pass0 (pa_cons (pv 0) pa_nil)))
      (pss_cons (ps_for PassesOwn.never rfl (piE K (by rfl) T.n_enumerate (pa_cons (pv 0) pa_nil)) (pgT K (n := 2) (pgs_cons (pg_name (i := 1) sc_foremost.nd rfl (by first | exact Or.inl rfl | exact Or.inr rfl)) (pgs_cons (pg_name (i := 2) sc_foremost.nd rfl (by first | exact Or.inl rfl | exact Or.inr rfl)) pgs_nil)))
        (pss_one (ps_if (pt_cmpR op_ge (pe_callB (minK K) (by rfl) T.n_min PyProof.Rows.boot_min (pa_cons (pv 2) pa_nil)) pe_int (nomark _)) (pss_one (ps_ret (pe_make T.M_Unbeaten (ok_Unbeaten__init T) (hr.mono (by decide)) (by rfl) T.g_Unbeaten (b_Unbeaten__init T) .nil pass0 (pa_cons (pv 1) pa_nil)))) (pss_nil))))
      (pss_cons (ps_set (i := 3) sc_foremost.nd rfl (Or.inl rfl) (pe_lst (pa_cons pe_int pa_nil)))
      (pss_one (ps_while PassesOwn.never (pt_val pe_bl) (pss_cons (ps_set (i := 2) sc_foremost.nd rfl (Or.inr rfl) (pe_ix (ixLK K) (pv 0) (pe_ix (ixLK K) (pv 3) (pe_un un_neg pe_int) (fun _ _ => rfl)) (fun _ _ => rfl)))
      (pss_cons (ps_set (i := 4) sc_foremost.nd rfl (Or.inl rfl) (pe_ix (ixLK K) (pe_lc (own := [("one", 5)]) rfl sc_foremost.nd (pi_range1 (by rfl) T.n_range (pa_cons (pe_callB (lenK K) (by rfl) T.n_len PySem.boot_len (pa_cons (pv 0) pa_nil)) pa_nil)) (blkOk_by (own := [("one", 5)]) (N := ["table", "who", "row", "way", "further", "one"]) (sc := defScope s_foremost) (by decide +kernel)) (fun _ _ _ _ _ => (pg_name (i := 5) sc_foremost.nd rfl (by first | exact Or.inl rfl | exact Or.inr rfl))) (fun _ _ _ _ _ => pts_one (pt_cmpR op_lt (pe_ix (ixLK K) (pv 2) (pv 5) (fun _ _ => rfl)) pe_int (nomark _))) (fun _ _ _ _ _ => (pv 5))) pe_int (fun _ _ => rfl)))
      (pss_cons (ps_if (pt_cmpR (inK K) (pv 4) (pv 3) (by rfl)) (pss_one (ps_ret (pe_make T.M_Ring (ok_Ring__init T) (hr.mono (by decide)) (by rfl) T.g_Ring (b_Ring__init T) .nil pass0 (pa_cons (revLK K (pe_slice (slLK K) (pv 3) (po_some (pe_bm PySem.F.plainAttrs_list PySem.F.slot_list_index PySem.F.type_list_index mt_index (pv 3) (pa_cons (pv 4) pa_nil))) po_none)) pa_nil)))) (pss_nil))
      (pss_one (ps_expr (pe_bm PySem.F.plainAttrs_list PySem.F.slot_list_append PySem.F.type_list_append mt_append (pv 3) (pa_cons (pv 4) pa_nil))))))))))), ?_⟩
    obtain ⟨t, xs, rfl, hS, hl, hat⟩ := TT.at_
    refine ⟨_, rfl, _, n, f, rfl, hn1, hn, TT, hA, fun H1 e1 => ?_⟩
    refine ⟨_, rfl, t, xs, rfl, ex_l e1 hS, ?_⟩
    refine for_it (walk_enum (K := K) (a := t) (xs := xs)) (fun i σ' H' => ∃ (y1 y2 : Option V), σ' = [some (.ref t), y1, y2, none, none, none] ∧ Ex H1 H' ∧ ∀ u, u < i → ∃ j, j < n ∧ f u j < 0)
      ⟨_, _, rfl, Ex.refl _, fun u h => absurd h (Nat.not_lt_zero _)⟩ (fun i σ' H' _ ⟨_, _, _, e, _⟩ => ex_l (e1.trans e) hS) ?_ ?_
    · rintro i x' σ' H' H'' hi ⟨y1, y2, rfl, e, hno⟩ ⟨U, x1, x2, rfl, nU, rfl, h1, h2⟩
      cases h1
      rw [hl] at hi
      obtain ⟨r, g1, g2⟩ := hat i hi
      change xs[i]? = some x2 at h2
      rw [g1] at h2
      cases h2
      have eU := Ex.new (o := .tup [.int (i : Nat), .ref r]) nU
      refine ⟨U, _, rfl, st_of upd_same, rfl, _, _, rfl, _, [], rfl, rfl, ?_⟩
      have eH := e1.trans (e.trans eU)
      have g3 := ex_l eH g2
      rw [rowV_iv] at g3
      refine ⟨_, rfl, r, _, rfl, g3, by rw [List.length_map, List.length_range]; omega, fun m hm hle => ⟨_, _, rfl, rfl, _, rfl, it2 (fun h0 => ?_) (fun h0 => ?_)⟩⟩
      · have hm0 : 0 ≤ m := of_decide_eq_true h0
        refine ⟨_, rfl, ?_⟩
        intro x dx nx ndx nxd
        refine ⟨x, dx, _, rfl, upd_same, fun H3 eB hx => ⟨rfl, ?_⟩⟩
        have eA := ex_after nx ndx nxd eB
        refine q H3 x (eH.trans eA) (fresh_back eH nx) (.unb dx i hx hi (fun j hj => ?_) hno)
        have := hle (f i j) (List.mem_map.mpr ⟨j, List.mem_range.mpr hj, rfl⟩)
        omega
      · have hm0 : ¬ 0 ≤ m := of_decide_eq_false h0
        refine ⟨_, _, rfl, e.trans eU, fun u hu => ?_⟩
        by_cases hui : u < i
        · exact hno u hui
        · have : u = i := by omega
          subst this
          obtain ⟨j, hj, rfl⟩ := List.mem_map.mp hm
          exact ⟨j, List.mem_range.mp hj, by omega⟩
    · rintro σ' H2 ⟨y1, y2, rfl, e2, hno⟩
      rw [hl] at hno
      refine ⟨(by decide : 1 ≤ sizeLine), fun W nW => ?_⟩
      refine ⟨fun m σ' H' => ∃ (ws : List Nat) (y2 y4 : Option V), σ' = [some (.ref t), y1, y2, some (.ref W), y4, none] ∧ Ex H2 H' ∧ H' W = some (.lst (nv ws)) ∧ ws.Nodup ∧ (∀ x ∈ ws, x < n) ∧ 0 < ws.length ∧ (∀ i, i + 1 < ws.length → 0 < f (ws.getD (i + 1) 0) (ws.getD i 0)) ∧ n - ws.length = m,
        ⟨n - 1, [0], _, _, rfl, Ex.new nW, upd_same, by simp, fun x hx => ?_, by decide, fun i hi => ?_, rfl⟩, ?_⟩
      · have : x = 0 := by simpa using hx
        omega
      · simp at hi
      rintro m σ' H3 ⟨ws, y2, y4, rfl, e3, hW, hnd, hlt, hpos, hch, rfl⟩
      have hwl : ws.length ≤ n := below_len hnd hlt
      have eH := e1.trans (e2.trans e3)
      refine ⟨true, rfl, ?_⟩
      refine ⟨fun σ2 Hz => ∃ (ws' : List Nat) (y2 y4 : Option V), σ2 = [some (.ref t), y1, y2, some (.ref W), y4, none] ∧ Ex H2 Hz ∧ Hz W = some (.lst (nv ws')) ∧ ws'.Nodup ∧ (∀ x ∈ ws', x < n) ∧ 0 < ws'.length ∧ (∀ i, i + 1 < ws'.length → 0 < f (ws'.getD (i + 1) 0) (ws'.getD i 0)) ∧ ws'.length = ws.length + 1, ?_, ?_⟩
      · rintro σ2 Hz ⟨ws', y2, y4, c1, c2, c3, c4, c5, c6, c7, c8⟩
        have := below_len c4 c5
        exact ⟨n - ws'.length, by omega, ws', y2, y4, c1, c2, c3, c4, c5, c6, c7, rfl⟩
      obtain ⟨la, hla⟩ : ∃ la, ws[ws.length - 1]? = some la := ⟨_, List.getElem?_eq_getElem (by omega)⟩
      have hlan := hlt la (List.mem_of_getElem? hla)
      have elast : ws.getD (ws.length - 1) 0 = la := by rw [List.getD_eq_getElem?_getD, hla]; rfl
      have hat1 : atI (nv ws) (-1) = some (V.int ((la : Nat) : Int)) := by
        have := atI_back (ns := ws.map fun (k : Nat) => (k : Int)) (i := 0) (by rw [List.length_map]; exact hpos)
        rw [if_pos rfl, ← nv_iv, List.length_map] at this
        rw [show (-1 : Int) = ((0 : Nat) : Int) - 1 from rfl, this]
        unfold at0
        rw [List.getD_eq_getElem?_getD, List.getElem?_map, hla]
        rfl
      obtain ⟨r, g1, g2⟩ := hat la hlan
      refine ⟨_, rfl, _, rfl, 1, rfl, W, _, -1, _, rfl, rfl, sq_of hW, hat1, t, _, _, .ref r, rfl, rfl, ex_l eH hS, atI_nat g1, ?_⟩
      refine ⟨_, rfl, t, _, rfl, .inl (ex_l eH hS), (xs.length : Int), rfl, by omega, by omega, fun D hD => ?_⟩
      rw [hl]
      refine lc_filt (n := n) (walk_rg0 (n := n)) hD (by omega) (fun _ _ => trivial) (fun j => decide (f la j < 0)) (fun j => V.int (j : Int)) ?_ ?_
      · rintro j x Ha Ha' hj ea ⟨rfl, rfl⟩ Bf Qc hno2 hyes
        refine ⟨rfl, _, rfl, _, rfl, r, _, j, .int _, rfl, rfl, ex_l (eH.trans ea) g2, atI_nat (rowV_get hj), _, _, rfl, rfl, _, rfl, ?_⟩
        exact it2 (fun h2 => ⟨_, rfl, hyes _ (Ex.refl _) h2⟩) (fun h2 => hno2 _ (Ex.refl _) h2)
      · intro H4 e4 hD4
        obtain ⟨j0, hj0, hf0⟩ := hno la hlan
        obtain ⟨fu, rest, hfl⟩ : ∃ fu rest, ((List.range n).filter fun j => decide (f la j < 0)) = fu :: rest := by
          cases h : ((List.range n).filter fun j => decide (f la j < 0)) with
          | nil =>
            have : j0 ∈ ((List.range n).filter fun j => decide (f la j < 0)) := List.mem_filter.mpr ⟨List.mem_range.mpr hj0, decide_eq_true hf0⟩
            rw [h] at this
            cases this
          | cons a b => exact ⟨a, b, rfl⟩
        have hfm : fu ∈ ((List.range n).filter fun j => decide (f la j < 0)) := by rw [hfl]; exact List.mem_cons_self ..
        obtain ⟨hfn, hff⟩ := List.mem_filter.mp hfm
        have hfn := List.mem_range.mp hfn
        have hff := of_decide_eq_true hff
        have hanti := hA la fu hlan hfn
        rw [hfl] at hD4
        have hW4 := e4 _ _ hW
        refine ⟨D, _, 0, .int (fu : Int), rfl, rfl, sq_of hD4, atI_nat (j := 0) rfl, ?_⟩
        refine ⟨_, rfl, _, rfl, W, _, rfl, .inl (sq_of hW4), rfl, nv_flat _, _, rfl, ?_⟩
        show if (inV (V.int (fu : Int)) (nv ws)) = true then _ else _
        rw [inV_nv]
        refine it2 (fun hin => ?_) (fun hin => ?_)
        · have hin := of_decide_eq_true hin
          obtain ⟨j, hj, ej⟩ := List.mem_iff_getElem.mp hin
          have hjs : ws[j]? = some fu := by rw [List.getElem?_eq_getElem hj, ej]
          have hjv : (nv ws)[j]? = some (V.int (fu : Int)) := by
            unfold nv
            rw [List.getElem?_map, hjs]
            rfl
          refine ⟨_, rfl, _, rfl, .inl ⟨rfl, _, sq_of hW4⟩, _, rfl, W, _, _, j, _, rfl, rfl, sq_of hW4, rfl, nv_flat _, hjv, beq_self_eq_true (fu : Int), fun m z hm hz => ?_, ?_⟩
          · obtain ⟨k, hk, rfl⟩ := nv_get hz
            refine beq_eq_false_iff_ne.mpr fun e9 => ?_
            have : k = fu := by omega
            subst this
            have := nd_ix hnd hk hjs
            omega
          refine ⟨_, rfl, W, _, rfl, sq_of hW4, fun c nc => ?_⟩
          generalize gc : upd _ c _ = G5
          have f5 : Ex H4 G5 := by rw [← gc]; exact Ex.new nc
          have k5 : G5 c = some (.lst (nv (ws.drop j))) := by rw [← gc, upd_same, cut_from, nv_drop]
          clear gc
          refine ⟨c, _, rfl, sq_of k5, fun d nd => ?_⟩
          generalize gd : upd _ d _ = G6
          have f6 : Ex G5 G6 := by rw [← gd]; exact Ex.new nd
          have k6 : G6 d = some (.lst (nv (ws.drop j).reverse)) := by
            rw [← gd, upd_same]
            unfold nv
            rw [List.map_reverse]
          clear gd
          intro x dx nx ndx nxd
          have f7 := ex_made (C := T.c_Ring) nx ndx nxd
          refine ⟨x, dx, d, ((ws.drop j).reverse).map fun (k : Nat) => (k : Int), rfl, upd_same, sq_of (by rw [f7 _ _ k6, nv_iv]), fun H10 p eB np hx hp => ⟨rfl, ?_⟩⟩
          have f8 := ex_after nx ndx nxd eB
          have eZ := eH.trans (e4.trans (f5.trans f6))
          refine q H10 x (eZ.trans f8) (fresh_back eZ nx) (.ring dx p _ (fresh_back eZ (fresh_back f7 np)) hx (by rw [hp, nv_iv]) hno (ring_of hj hnd hlt hch ?_) (by rw [List.length_reverse, List.length_drop]; omega))
          rw [elast, List.getD_eq_getElem?_getD, hjs]
          show 0 < f fu la
          omega
        · have hin := of_decide_eq_false hin
          refine ⟨_, rfl, .inl ⟨rfl, _, sq_of hW4⟩, _, rfl, W, _, _, rfl, rfl, hW4, sz_lt (by rw [nv_length]; omega), ?_⟩
          refine ⟨ws ++ [fu], _, _, rfl, (e3.trans e4).mut nW, ?_, ?_, ?_, ?_, ?_, by rw [List.length_append]; rfl⟩
          · rw [upd_same, ← nv_app]
            rfl
          · rw [List.nodup_append]
            refine ⟨hnd, by simp, fun a ha b hb e9 => hin ?_⟩
            have : b = fu := by simpa using hb
            rw [← this, ← e9]
            exact ha
          · intro x hx
            rcases List.mem_append.mp hx with h | h
            · exact hlt x h
            · have : x = fu := by simpa using h
              omega
          · rw [List.length_append]
            omega
          · intro i hi
            rw [List.length_append] at hi
            have hi : i + 1 < ws.length + 1 := hi
            by_cases h9 : i + 1 < ws.length
            · rw [List.getD_eq_getElem?_getD, List.getD_eq_getElem?_getD, List.getElem?_append_left h9, List.getElem?_append_left (by omega), ← List.getD_eq_getElem?_getD, ← List.getD_eq_getElem?_getD]
              exact hch i h9
            · have : i = ws.length - 1 := by omega
              subst this
              rw [List.getD_eq_getElem?_getD, List.getD_eq_getElem?_getD, List.getElem?_append_right (by omega), List.getElem?_append_left (by omega), hla, show ws.length - 1 + 1 - ws.length = 0 by omega]
              show 0 < f fu la
              omega
end
end Hc
namespace Hc
open PySem PySem.Spec PyProof.Rows L2 Evl
section
variable {P : Program} {w : World} {K : PySem.W.Frag} {mg : Str → Option Value} {base : Heap}
/-- whole numbers in lists and tuples, k deep at most -/
def plD : Nat → PyData → Prop
  | 0, d => ∃ i, d = .int i
  | k + 1, d => (∃ i, d = .int i) ∨ ∃ ds : List PyData, (d = .list ds ∨ d = .tuple ds) ∧ ds.length ≤ 1000 ∧ ∀ e ∈ ds, plD k e
theorem plD.up : ∀ {k : Nat} {d : PyData}, plD k d → plD (k + 1) d
  | 0, _, h => .inl h
  | k + 1, _, h => by
    rcases h with h | ⟨ds, h1, h2, h3⟩
    · exact .inl h
    · exact .inr ⟨ds, h1, h2, fun e he => plD.up (h3 e he)⟩
mutual
theorem dp_mono {K : PySem.W.Frag} {H H' : Hp} (e : Ex H H') : ∀ {v : V} {d : PyData}, Dp K H v d → Dp K H' v d
  | _, _, .non => .non
  | _, _, .bl b => .bl b
  | _, _, .int i => .int i
  | _, _, .str x => .str x
  | _, _, .lst h r => .lst (ex_l e h) (dpAll_mono e r)
  | _, _, .tup h r => .tup (ex_t e h) (dpAll_mono e r)
theorem dpAll_mono {K : PySem.W.Frag} {H H' : Hp} (e : Ex H H') : ∀ {vs : List V} {ds : List PyData}, DpAll K H vs ds → DpAll K H' vs ds
  | _, _, .nil => .nil
  | _, _, .cons a r => .cons (dp_mono e a) (dpAll_mono e r)
end
theorem dpAll_get {K : PySem.W.Frag} {H : Hp} : ∀ {vs : List V} {ds : List PyData}, DpAll K H vs ds → ∀ {i : Nat} {v : V}, vs[i]? = some v → ∃ d, ds[i]? = some d ∧ Dp K H v d
  | _, _, .nil, _, _, h => by simp at h
  | _, _, .cons a r, 0, _, h => by
    cases h
    exact ⟨_, rfl, a⟩
  | _, _, .cons a r, i + 1, v, h => dpAll_get r (i := i) (v := v) (by simpa using h)
theorem dpAll_len {K : PySem.W.Frag} {H : Hp} : ∀ {vs : List V} {ds : List PyData}, DpAll K H vs ds → vs.length = ds.length
  | _, _, .nil => rfl
  | _, _, .cons _ r => congrArg (· + 1) (dpAll_len r)
theorem dpAll_app {K : PySem.W.Frag} {H : Hp} {ys : List V} {es : List PyData} (h2 : DpAll K H ys es) : ∀ {xs : List V} {ds : List PyData}, DpAll K H xs ds → DpAll K H (xs ++ ys) (ds ++ es)
  | _, _, .nil => h2
  | _, _, .cons a r => .cons a (dpAll_app h2 r)
def spPlain (K : PySem.W.Frag) (k : Nat) : Sp := fun vs H Q _ => ∃ (v : V) (d : PyData), vs = [v] ∧ Dp K H v d ∧ plD k d ∧ ∀ H2, Ex H H2 → Q (.bl true) H2
theorem ok_law_plain (T : Tx K mg) : ∀ k : Nat, FnOk P w K mg base CX0 (k + 1) T.f_law_plain T.d_law_plain ["_law_thing"] (spPlain K k) := by
  intro k
  induction k with
  | zero =>
    refine T.F_law_plain.ok sc_law_plain (fun vs H Q E h => ?_) (fun cdv A outer s H vs Q E hr h => ?_)
    · obtain ⟨v, d, rfl, _⟩ := h
      rfl
    · obtain ⟨v, d, rfl, hd, ⟨i, rfl⟩, q⟩ := h
      cases hd
      refine ⟨_, pss_cons (ps_if (PW.pt (pw_or (pt_val (pe_callB (isiK K) (by rfl) T.n_isinstance PyProof.Rows.boot_isinstance (pa_cons (pv 0) (pa_cons (pe_bltn (v := .ty "list") (by rfl) T.n_list bt_list rfl) pa_nil)))) (pw_or1 (pt_val (pe_callB (isiK K) (by rfl) T.n_isinstance PyProof.Rows.boot_isinstance (pa_cons (pv 0) (pa_cons (pe_bltn (v := .ty "tuple") (by rfl) T.n_tuple bt_tuple rfl) pa_nil))))))) (pss_one (ps_never)) (pss_nil))
      (pss_one (ps_ret (pe_or (pe_cmpR op_isN (pv 0) pe_non (nomark _)) (pe_or (pe_callB (isiK K) (by rfl) T.n_isinstance PyProof.Rows.boot_isinstance (pa_cons (pv 0) (pa_cons (pe_bltn (v := .ty "str") (by rfl) T.n_str bt_str rfl) pa_nil))) (pe_one (pe_and (pe_callB (isiK K) (by rfl) T.n_isinstance PyProof.Rows.boot_isinstance (pa_cons (pv 0) (pa_cons (pe_bltn (v := .ty "int") (by rfl) T.n_int bt_int rfl) pa_nil))) (pe_one (pe_not (pe_callB (isiK K) (by rfl) T.n_isinstance PyProof.Rows.boot_isinstance (pa_cons (pv 0) (pa_cons (pe_bltn (v := .ty "bool") (by rfl) T.n_bool bt_bool rfl) pa_nil))))))))))), ?_⟩
      refine ⟨_, rfl, .int i, .ty "list", _, _, false, rfl, .ty _, .base (.int i), kit_ty (by decide +kernel), false, rfl, _, rfl, .int i, .ty "tuple", _, _, false, rfl, .ty _, .base (.int i), kit_ty (by decide +kernel), false, rfl, ?_⟩
      refine ⟨_, rfl, rfl, false, rfl, _, rfl, .int i, .ty "str", _, _, false, rfl, .ty _, .base (.int i), kit_ty (by decide +kernel), false, rfl, ?_⟩
      exact ⟨_, rfl, .int i, .ty "int", _, _, true, rfl, .ty _, .base (.int i), kit_ty (by decide +kernel), true, rfl, _, rfl, .int i, .ty "bool", _, _, false, rfl, .ty _, .base (.int i), kit_ty (by decide +kernel), false, rfl, q H (Ex.refl _)⟩
  | succ k ih =>
    refine T.F_law_plain.ok sc_law_plain (fun vs H Q E h => ?_) (fun cdv A outer s H vs Q E hr h => ?_)
    · obtain ⟨v, d, rfl, _⟩ := h
      rfl
    · obtain ⟨v, d, rfl, hd, hp, q⟩ := h
      rcases hp with ⟨i, rfl⟩ | ⟨ds, hds, hlen, hall⟩
      · cases hd
        refine ⟨_, pss_cons (ps_if (PW.pt (pw_or (pt_val (pe_callB (isiK K) (by rfl) T.n_isinstance PyProof.Rows.boot_isinstance (pa_cons (pv 0) (pa_cons (pe_bltn (v := .ty "list") (by rfl) T.n_list bt_list rfl) pa_nil)))) (pw_or1 (pt_val (pe_callB (isiK K) (by rfl) T.n_isinstance PyProof.Rows.boot_isinstance (pa_cons (pv 0) (pa_cons (pe_bltn (v := .ty "tuple") (by rfl) T.n_tuple bt_tuple rfl) pa_nil))))))) (pss_one (ps_never)) (pss_nil))
      (pss_one (ps_ret (pe_or (pe_cmpR op_isN (pv 0) pe_non (nomark _)) (pe_or (pe_callB (isiK K) (by rfl) T.n_isinstance PyProof.Rows.boot_isinstance (pa_cons (pv 0) (pa_cons (pe_bltn (v := .ty "str") (by rfl) T.n_str bt_str rfl) pa_nil))) (pe_one (pe_and (pe_callB (isiK K) (by rfl) T.n_isinstance PyProof.Rows.boot_isinstance (pa_cons (pv 0) (pa_cons (pe_bltn (v := .ty "int") (by rfl) T.n_int bt_int rfl) pa_nil))) (pe_one (pe_not (pe_callB (isiK K) (by rfl) T.n_isinstance PyProof.Rows.boot_isinstance (pa_cons (pv 0) (pa_cons (pe_bltn (v := .ty "bool") (by rfl) T.n_bool bt_bool rfl) pa_nil))))))))))), ?_⟩
        refine ⟨_, rfl, .int i, .ty "list", _, _, false, rfl, .ty _, .base (.int i), kit_ty (by decide +kernel), false, rfl, _, rfl, .int i, .ty "tuple", _, _, false, rfl, .ty _, .base (.int i), kit_ty (by decide +kernel), false, rfl, ?_⟩
        refine ⟨_, rfl, rfl, false, rfl, _, rfl, .int i, .ty "str", _, _, false, rfl, .ty _, .base (.int i), kit_ty (by decide +kernel), false, rfl, ?_⟩
        exact ⟨_, rfl, .int i, .ty "int", _, _, true, rfl, .ty _, .base (.int i), kit_ty (by decide +kernel), true, rfl, _, rfl, .int i, .ty "bool", _, _, false, rfl, .ty _, .base (.int i), kit_ty (by decide +kernel), false, rfl, q H (Ex.refl _)⟩
      · rcases hds with rfl | rfl
        · cases hd with
          | @lst a xs _ h r =>
            refine ⟨_, pss_cons (ps_if (PW.pt (pw_or (pt_val (pe_callB (isiK K) (by rfl) T.n_isinstance PyProof.Rows.boot_isinstance (pa_cons (pv 0) (pa_cons (pe_bltn (v := .ty "list") (by rfl) T.n_list bt_list rfl) pa_nil)))) (pw_or1 (pt_val (pe_callB (isiK K) (by rfl) T.n_isinstance PyProof.Rows.boot_isinstance (pa_cons (pv 0) (pa_cons (pe_bltn (v := .ty "tuple") (by rfl) T.n_tuple bt_tuple rfl) pa_nil))))))) (pss_one (ps_ret (pe_callB (allK K) (by rfl) T.n_all PyProof.Rows.boot_all (pa_cons (pe_lc (own := [("_law_one", 1)]) rfl sc_law_plain.nd (piL K (pv 0)) (blkOk_by (own := [("_law_one", 1)]) (N := ["_law_thing", "_law_one"]) (sc := defScope s_law_plain) (by decide +kernel)) (fun _ _ _ _ _ => (pg_name (i := 1) sc_law_plain.nd rfl (by first | exact Or.inl rfl | exact Or.inr rfl))) (fun _ _ _ _ _ => pts_nil) (fun _ _ _ _ _ => (pe_call ih hr (by rfl) T.g_law_plain T.F_law_plain.kp (b_law_plain T) .nil pass0 (pa_cons (pv 1) pa_nil)))) pa_nil)))) (pss_nil))
      (pss_one (ps_ret (pe_or (pe_cmpR op_isN (pv 0) pe_non (nomark _)) (pe_or (pe_callB (isiK K) (by rfl) T.n_isinstance PyProof.Rows.boot_isinstance (pa_cons (pv 0) (pa_cons (pe_bltn (v := .ty "str") (by rfl) T.n_str bt_str rfl) pa_nil))) (pe_one (pe_and (pe_callB (isiK K) (by rfl) T.n_isinstance PyProof.Rows.boot_isinstance (pa_cons (pv 0) (pa_cons (pe_bltn (v := .ty "int") (by rfl) T.n_int bt_int rfl) pa_nil))) (pe_one (pe_not (pe_callB (isiK K) (by rfl) T.n_isinstance PyProof.Rows.boot_isinstance (pa_cons (pv 0) (pa_cons (pe_bltn (v := .ty "bool") (by rfl) T.n_bool bt_bool rfl) pa_nil))))))))))), ?_⟩
            refine ⟨_, rfl, .ref a, .ty "list", _, _, true, rfl, .ty _, tyx_L h, kit_ty (by decide +kernel), true, rfl, ?_⟩
            have hxl := dpAll_len r
            refine ⟨_, rfl, a, rfl, ⟨_, h⟩, fun D hD => ?_⟩
            refine lc_vals (walk_list (K := K) (a := a) (xs := xs)) hD (by omega) (fun H2 e2 => ex_l e2 h) (fun _ => V.bl true) ?_ ?_
            · rintro j x H2 H2' hj e2 ⟨rfl, hx⟩ Qc hq
              obtain ⟨d, hd1, hd2⟩ := dpAll_get r hx
              exact ⟨rfl, _, rfl, x, d, rfl, dp_mono e2 hd2, hall d (List.mem_of_getElem? hd1), fun H3 e3 => hq _ e3⟩
            · intro H2 e2 hD2
              rw [map_const_bl] at hD2
              refine ⟨D, _, rfl, sq_of hD2, ?_⟩
              rw [all_const_true]
              exact q _ e2
        · cases hd with
          | @tup a xs _ h r =>
            refine ⟨_, pss_cons (ps_if (PW.pt (pw_or (pt_val (pe_callB (isiK K) (by rfl) T.n_isinstance PyProof.Rows.boot_isinstance (pa_cons (pv 0) (pa_cons (pe_bltn (v := .ty "list") (by rfl) T.n_list bt_list rfl) pa_nil)))) (pw_or1 (pt_val (pe_callB (isiK K) (by rfl) T.n_isinstance PyProof.Rows.boot_isinstance (pa_cons (pv 0) (pa_cons (pe_bltn (v := .ty "tuple") (by rfl) T.n_tuple bt_tuple rfl) pa_nil))))))) (pss_one (ps_ret (pe_callB (allK K) (by rfl) T.n_all PyProof.Rows.boot_all (pa_cons (pe_lc (own := [("_law_one", 1)]) rfl sc_law_plain.nd (piT K (pv 0)) (blkOk_by (own := [("_law_one", 1)]) (N := ["_law_thing", "_law_one"]) (sc := defScope s_law_plain) (by decide +kernel)) (fun _ _ _ _ _ => (pg_name (i := 1) sc_law_plain.nd rfl (by first | exact Or.inl rfl | exact Or.inr rfl))) (fun _ _ _ _ _ => pts_nil) (fun _ _ _ _ _ => (pe_call ih hr (by rfl) T.g_law_plain T.F_law_plain.kp (b_law_plain T) .nil pass0 (pa_cons (pv 1) pa_nil)))) pa_nil)))) (pss_nil))
      (pss_one (ps_ret (pe_or (pe_cmpR op_isN (pv 0) pe_non (nomark _)) (pe_or (pe_callB (isiK K) (by rfl) T.n_isinstance PyProof.Rows.boot_isinstance (pa_cons (pv 0) (pa_cons (pe_bltn (v := .ty "str") (by rfl) T.n_str bt_str rfl) pa_nil))) (pe_one (pe_and (pe_callB (isiK K) (by rfl) T.n_isinstance PyProof.Rows.boot_isinstance (pa_cons (pv 0) (pa_cons (pe_bltn (v := .ty "int") (by rfl) T.n_int bt_int rfl) pa_nil))) (pe_one (pe_not (pe_callB (isiK K) (by rfl) T.n_isinstance PyProof.Rows.boot_isinstance (pa_cons (pv 0) (pa_cons (pe_bltn (v := .ty "bool") (by rfl) T.n_bool bt_bool rfl) pa_nil))))))))))), ?_⟩
            refine ⟨_, rfl, .ref a, .ty "list", _, _, false, rfl, .ty _, tyx_T h, kit_ty (by decide +kernel), false, rfl, _, rfl, .ref a, .ty "tuple", _, _, true, rfl, .ty _, tyx_T h, kit_ty (by decide +kernel), true, rfl, ?_⟩
            have hxl := dpAll_len r
            refine ⟨_, rfl, a, rfl, ⟨_, h⟩, fun D hD => ?_⟩
            refine lc_vals (walk_tup (K := K) (a := a) (xs := xs)) hD (by omega) (fun H2 e2 => ex_t e2 h) (fun _ => V.bl true) ?_ ?_
            · rintro j x H2 H2' hj e2 ⟨rfl, hx⟩ Qc hq
              obtain ⟨d, hd1, hd2⟩ := dpAll_get r hx
              exact ⟨rfl, _, rfl, x, d, rfl, dp_mono e2 hd2, hall d (List.mem_of_getElem? hd1), fun H3 e3 => hq _ e3⟩
            · intro H2 e2 hD2
              rw [map_const_bl] at hD2
              refine ⟨D, _, rfl, sq_of hD2, ?_⟩
              rw [all_const_true]
              exact q _ e2
def spTruths (K : PySem.W.Frag) : Sp := fun vs H Q _ => ∃ (a : Addr) (bs : List Bool), vs = [.ref a] ∧ SqL K H a (bs.map V.bl) ∧ bs.length ≤ 1000 ∧ ∀ H2, Ex H H2 → Q (.bl true) H2
theorem ok_law_truths (T : Tx K mg) : FnOk P w K mg base CX0 1 T.f_law_truths T.d_law_truths ["_law_things"] (spTruths K) := by
  refine T.F_law_truths.ok sc_law_truths (fun vs H Q E h => ?_) (fun cdv A outer s H vs Q E hr h => ?_)
  · obtain ⟨a, bs, rfl, _⟩ := h
    rfl
  · obtain ⟨a, bs, rfl, h, hl, q⟩ := h
    refine ⟨_, pss_one (ps_ret (pe_callB (allK K) (by rfl) T.n_all PyProof.Rows.boot_all (pa_cons (pe_lc (own := [("_law_one", 1)]) rfl sc_law_truths.nd (piL K (pv 0)) (blkOk_by (own := [("_law_one", 1)]) (N := ["_law_things", "_law_one"]) (sc := defScope s_law_truths) (by decide +kernel)) (fun _ _ _ _ _ => (pg_name (i := 1) sc_law_truths.nd rfl (by first | exact Or.inl rfl | exact Or.inr rfl))) (fun _ _ _ _ _ => pts_nil) (fun _ _ _ _ _ => (pe_callB (isiK K) (by rfl) T.n_isinstance PyProof.Rows.boot_isinstance (pa_cons (pv 1) (pa_cons (pe_bltn (v := .ty "bool") (by rfl) T.n_bool bt_bool rfl) pa_nil))))) pa_nil))), ?_⟩
    refine ⟨_, rfl, a, rfl, ⟨_, h⟩, fun D hD => ?_⟩
    refine lc_vals (walk_list (K := K) (a := a) (xs := bs.map V.bl)) hD (by rw [List.length_map]; omega) (fun H2 e2 => ex_l e2 h) (fun _ => V.bl true) ?_ ?_
    · rintro j x H2 H2' hj e2 ⟨rfl, hx⟩ Qc hq
      obtain ⟨b, _, rfl⟩ := List.mem_map.mp (List.mem_of_getElem? hx)
      exact ⟨rfl, _, rfl, .bl b, .ty "bool", _, _, true, rfl, .ty _, .base (.bl b), kit_ty (by decide +kernel), hq _ (Ex.refl _)⟩
    · intro H2 e2 hD2
      rw [map_const_bl] at hD2
      refine ⟨D, _, rfl, sq_of hD2, ?_⟩
      rw [all_const_true]
      exact q _ e2
def spNotPk (K : PySem.W.Frag) : Sp := fun vs H Q _ => ∃ (n : Nat) (v : V) (bs : List (List Nat × Int)), vs = [.int (n : Int), v] ∧ 1 ≤ n ∧ n ≤ 20 ∧ BalsR K H v bs ∧ bs.all (okB n) = true ∧ bs.length ≤ 1000 ∧ ∀ H2, Ex H H2 → Q (.bl (!bs.all fun b => isPk b.1)) H2
theorem ok_law_is_not_peaked (T : Tx K mg) : FnOk P w K mg base CX0 5 T.f_law_is_not_peaked T.d_law_is_not_peaked ["_law_candidates", "_law_ballots"] (spNotPk K) := by
  refine T.F_law_is_not_peaked.ok sc_law_is_not_peaked (fun vs H Q E h => ?_) (fun cdv A outer s H vs Q E hr h => ?_)
  · obtain ⟨n, v, bs, rfl, _⟩ := h
    rfl
  · obtain ⟨n, v, bs, rfl, hn1, hn, hB, hok, hbl, q⟩ := h
    cases hpk : (bs.all fun b => isPk b.1) with
    | false =>
      rw [hpk] at q
      refine ⟨_, pss_one (L2N.ps_try_as (i := 2) rfl rfl sc_law_is_not_peaked.nd rfl rfl ⟨rfl, by decide, .inl T.e_CountError.g⟩ takes0N
        (fun W pn xe tk _ => pss_cons (ps_expr (pe_callS (okX_middle T) (hr.mono (by decide)) (by rfl) T.g_middle T.F_middle.kp (b_middle T) (fun σ => L2N.passAt tk σ) (pa_cons (pv 0) (pa_cons (pv 1) pa_nil)))) pss_never)
        (fun a oe cls d pn hz hf => pss_one (ps_ret (pe_callB (isN K hz hf) (by rfl) T.n_isinstance PyProof.Rows.boot_isinstance (pa_cons (pv 2) (pa_cons (pe_glob (v := .ref T.c_NotPeaked) (by rfl) T.e_NotPeaked.g rfl) pa_nil)))))), ?_⟩
      refine ⟨_, rfl, _, rfl, n, v, bs, rfl, hn1, hn, hB, hok, hpk, hbl, fun H2 e2 => ?_⟩
      refine ⟨true, exm_err T.e_CountError T.u_NotPeaked_CountError, fun _ a ha => ?_, fun z => nomatch z⟩
      have rel : ∀ C : Addr, ∀ u, RelV (.ref C) u → u = .ref C := fun C u r => by cases r; rfl
      exact ⟨_, rfl, T.c_NotPeaked, rfl, rfl, T.x_NotPeaked, _, _, true, rfl, rel _, T.k_NotPeaked_NotPeaked, q _ e2⟩
    | true =>
      rw [hpk] at q
      refine ⟨_, pss_one (L2N.ps_try_as (i := 2) rfl rfl sc_law_is_not_peaked.nd rfl rfl ⟨rfl, by decide, .inl T.e_CountError.g⟩ takes0N
        (fun W pn xe tk _ => pss_cons (ps_expr (pe_call (ok_middle T) (hr.mono (by decide)) (by rfl) T.g_middle T.F_middle.kp (b_middle T) .nil pass0 (pa_cons (pv 0) (pa_cons (pv 1) pa_nil)))) (pss_one (ps_ret pe_bl)))
        (fun a oe cls d pn hz hf => pss_never)), ?_⟩
      exact ⟨_, rfl, _, rfl, n, v, bs, rfl, hn1, hn, hB, hok, hpk, hbl, fun H2 u e2 _ _ _ => q _ e2⟩
end
end Hc
namespace Hc
open PySem PySem.Spec PyProof.Rows L2 Evl
section
variable {P : Program} {w : World} {K : PySem.W.Frag} {mg : Str → Option Value} {base : Heap}
def tAlt (t u : TE) : TE := fun σ H Q => t σ H Q ∨ u σ H Q
theorem pe_altN {X : Cx} {e : Expr} {t u : TE} (h1 : PE X e t) (h2 : PE X e u) : PE X e (tAlt t u) := ⟨fun pins s σ H Q I h => h.elim (h1.run pins s σ H Q I) (h2.run pins s σ H Q I)⟩
/-- an answer of one of the four classes, and what it says of a table -/
inductive ShOk (T : Tx K mg) (H : Hp) (n : Nat) (f : Nat → Nat → Int) : V → Bool → Prop where
  | unb {x dx : Addr} {k : Int} (hx : H x = some (.ins T.c_Unbeaten dx [("who", .int k)])) : ShOk T H n f (.ref x) (shN n f k)
  | ring {x dx p : Addr} {ns : List Int} (hx : H x = some (.ins T.c_Ring dx [("way", .ref p)])) (hp : H p = some (.lst (iv ns))) (hl : ns.length ≤ 1000) : ShOk T H n f (.ref x) (shR n f ns)
  | bal {x dx : Addr} {u : V} {bs : List (List Nat × Int)} (hx : H x = some (.ins T.c_Ballots dx [("ballots", u)])) (hB : BalsR K H u bs) (h60 : ∀ b ∈ bs, b.1.length < 60) : ShOk T H n f (.ref x) (shB n f bs)
  | une {x dx p r : Addr} {a b c d : Int} (hx : H x = some (.ins T.c_Uneven dx [("one", .ref p), ("other", .ref r)])) (hp : H p = some (.tup [.int a, .int b])) (hr : H r = some (.tup [.int c, .int d])) : ShOk T H n f (.ref x) (shU n f a b c d)
theorem ShOk.mono {T : Tx K mg} {H H' : Hp} {n : Nat} {f : Nat → Nat → Int} {x : V} {b : Bool} (h : ShOk T H n f x b) (e : Ex H H') : ShOk T H' n f x b := by
  cases h with
  | unb hx => exact .unb (e _ _ hx)
  | ring hx hp hl => exact .ring (e _ _ hx) (e _ _ hp) hl
  | bal hx hB h60 => exact .bal (e _ _ hx) (hB.mono e) h60
  | une hx hp hr => exact .une (e _ _ hx) (e _ _ hp) (e _ _ hr)
theorem pl_ints (ns : List Int) (h : ns.length ≤ 1000) : plD 1 (.list (ns.map PyData.int)) := .inr ⟨_, .inl rfl, by rw [List.length_map]; exact h, fun e he => by
  obtain ⟨i, _, rfl⟩ := List.mem_map.mp he
  exact ⟨i, rfl⟩⟩
theorem pl_row {n : Nat} (hn : n ≤ 20) (g : Nat → Int) : plD 1 (dRow n g) := .inr ⟨_, .inl rfl, by rw [List.length_map, List.length_range]; omega, fun e he => by
  obtain ⟨i, _, rfl⟩ := List.mem_map.mp he
  exact ⟨_, rfl⟩⟩
theorem pl_tab {n : Nat} (hn : n ≤ 20) (f : Nat → Nat → Int) : plD 2 (dTab n f) := .inr ⟨_, .inl rfl, by rw [List.length_map, List.length_range]; omega, fun e he => by
  obtain ⟨i, _, rfl⟩ := List.mem_map.mp he
  exact pl_row hn _⟩
theorem pl_bals {bs : List (List Nat × Int)} (hl : bs.length ≤ 1000) (h60 : ∀ b ∈ bs, b.1.length < 60) : plD 3 (dBals bs) := .inr ⟨_, .inl rfl, by rw [List.length_map]; exact hl, fun e he => by
  obtain ⟨b, hb, rfl⟩ := List.mem_map.mp he
  refine .inr ⟨_, .inr rfl, show (2 : Nat) ≤ 1000 by decide, fun e he => ?_⟩
  rcases List.mem_cons.mp he with rfl | he
  · refine .inr ⟨_, .inl rfl, by rw [List.length_map]; have := h60 b hb; omega, fun e he => ?_⟩
    obtain ⟨i, _, rfl⟩ := List.mem_map.mp he
    exact ⟨_, rfl⟩
  · have : e = .int b.2 := by simpa using he
    rw [this]
    exact .inl ⟨_, rfl⟩⟩
theorem dp_nats {K : PySem.W.Frag} {H : Hp} {a : Addr} {ks : List Nat} (h : H a = some (.lst (nv ks))) : Dp K H (.ref a) (.list ((ks.map fun (k : Nat) => (k : Int)).map PyData.int)) := dp_ints (sq_of (by rw [h, nv_iv]))
theorem okB_all60 {n : Nat} {bs : List (List Nat × Int)} (hn : n ≤ 20) (h : bs.all (okB n) = true) : ∀ b ∈ bs, b.1.length < 60 := fun b hb => by
  rw [okB_len (List.all_eq_true.mp h b hb)]
  omega
theorem tops_len {n : Nat} {f : Nat → Nat → Int} {ks : List Nat} (h : IsTops n f ks) : ks.length ≤ n := by
  obtain ⟨gs, i, _, g2, g3, g4, _⟩ := h
  have g := g2 i g3
  rw [← g4] at g
  exact below_len (g.1.imp fun h => Nat.ne_of_lt h) fun x hx => ((g.2 x).mp hx).1
def spTabRight (K : PySem.W.Frag) : Sp := fun vs H Q _ => ∃ (v : V) (n : Nat) (f : Nat → Nat → Int), vs = [v] ∧ 1 ≤ n ∧ n ≤ 20 ∧ TabR K H v n f ∧ Anti n f ∧ ∀ H2, Ex H H2 → Q (.bl true) H2
theorem ok_law_table_right (T : Tx K mg) : FnOk P w K mg base CX0 7 T.f_law_table_right T.d_law_table_right ["_law_table"] (spTabRight K) := by
  refine T.F_law_table_right.ok sc_law_table_right (fun vs H Q E h => ?_) (fun cdv A outer s H vs Q E hr h => ?_)
  · obtain ⟨v, n, f, rfl, _⟩ := h
    rfl
  · obtain ⟨v, n, f, rfl, hn1, hn, TT, hA, q⟩ := h
    refine ⟨_, pss_cons (ps_par (by rfl) (i := 1) (j := 2) sc_law_table_right.nd rfl rfl (by decide) rfl rfl (pa_cons (pe_lst (pa_cons (pe_call (ok_tops T) (hr.mono (by decide)) (by rfl) T.g_tops T.F_tops.kp (b_tops T) .nil pass0 (pa_cons (pv 0) pa_nil)) (pa_cons (pe_call (ok_strengths T) (hr.mono (by decide)) (by rfl) T.g_strengths T.F_strengths.kp (b_strengths T) .nil pass0 (pa_cons (pv 0) pa_nil)) (pa_cons (pe_call (ok_order T) (hr.mono (by decide)) (by rfl) T.g_order T.F_order.kp (b_order T) .nil pass0 (pa_cons (pv 0) pa_nil)) pa_nil)))) (pa_cons (pe_call (ok_foremost T) (hr.mono (by decide)) (by rfl) T.g_foremost T.F_foremost.kp (b_foremost T) .nil pass0 (pa_cons (pv 0) pa_nil)) pa_nil)) (by rfl))
      (Evl.pss_cut (ps_expr (pe_bm PySem.F.plainAttrs_list PySem.F.slot_list_append PySem.F.type_list_append mt_append (pv 1) (pa_cons (pe_ifExp (pt_val (pe_callB (isiK K) (by rfl) T.n_isinstance PyProof.Rows.boot_isinstance (pa_cons (pv 2) (pa_cons (pe_glob (v := .ref T.c_Unbeaten) (by rfl) T.g_Unbeaten rfl) pa_nil)))) (fldK K (pv 2)) (fldK K (pv 2))) pa_nil)))
      (pss_cons (ps_set (i := 3) sc_law_table_right.nd rfl (Or.inl rfl) (pe_call (ok_told T) (hr.mono (by decide)) (by rfl) T.g_told T.F_told.kp (b_told T) .nil pass0 (pa_cons (pv 0) pa_nil)))
      (Evl.pss_cut (ps_set (i := 1) sc_law_table_right.nd rfl (Or.inl rfl) (pe_op op_cat (pv 1) (pe_ifExp (pt_val (pe_callB (isiK K) (by rfl) T.n_isinstance PyProof.Rows.boot_isinstance (pa_cons (pv 3) (pa_cons (pe_glob (v := .ref T.c_Ballots) (by rfl) T.g_Ballots rfl) pa_nil)))) (pe_lst (pa_cons (fldK K (pv 3)) pa_nil)) (pe_lst (pa_cons (fldK K (pv 3)) (pa_cons (fldK K (pv 3)) pa_nil))))))
      (pss_cons (ps_setLc (i := 4) (own := [("_law_built", 5)]) rfl sc_law_table_right.nd rfl rfl (sw_true rfl rfl rfl (by decide +kernel)) (piL K (pe_lst (pa_cons (pv 2) (pa_cons (pv 3) (pa_cons (pe_make T.M_Unbeaten (ok_Unbeaten__init T) (hr.mono (by decide)) (by rfl) T.g_Unbeaten (b_Unbeaten__init T) .nil pass0 (pa_cons pe_int pa_nil)) (pa_cons (pe_make T.M_Ring (ok_Ring__init T) (hr.mono (by decide)) (by rfl) T.g_Ring (b_Ring__init T) .nil pass0 (pa_cons (pe_lst (pa_cons pe_int pa_nil)) pa_nil)) (pa_cons (pe_make T.M_Ballots (ok_Ballots__init T) (hr.mono (by decide)) (by rfl) T.g_Ballots (b_Ballots__init T) .nil pass0 (pa_cons (pe_lst pa_nil) pa_nil)) pa_nil))))))) (blkOk_by (own := [("_law_built", 5)]) (N := ["_law_table", "_law_found", "_law_answer", "_law_made", "_law_shown", "_law_built"]) (sc := defScope s_law_table_right) (by decide +kernel)) (fun _ _ _ _ _ => (pg_name (i := 5) sc_law_table_right.nd rfl (by first | exact Or.inl rfl | exact Or.inr rfl))) (fun _ _ _ _ _ => pts_nil) (fun _ _ _ _ _ => ((pe_altN (pe_meth (pv 5) T.C_Unbeaten T.S_Unbeaten (ok_Unbeaten_shows T) (hr.mono (by decide)) (b_Unbeaten_shows T) .nil pass0 (pa_cons (pv 0) pa_nil)) (pe_altN (pe_meth (pv 5) T.C_Ring T.S_Ring (ok_Ring_shows T) (hr.mono (by decide)) (b_Ring_shows T) .nil pass0 (pa_cons (pv 0) pa_nil)) (pe_altN (pe_meth (pv 5) T.C_Ballots T.S_Ballots (ok_Ballots_shows T) (hr.mono (by decide)) (b_Ballots_shows T) .nil pass0 (pa_cons (pv 0) pa_nil)) (pe_meth (pv 5) T.C_Uneven T.S_Uneven (ok_Uneven_shows T) (hr.mono (by decide)) (b_Uneven_shows T) .nil pass0 (pa_cons (pv 0) pa_nil))))))))
      (pss_one (ps_ret (pe_and (pe_call (ok_law_plain T 5) (hr.mono (by decide)) (by rfl) T.g_law_plain T.F_law_plain.kp (b_law_plain T) .nil pass0 (pa_cons (pv 1) pa_nil)) (pe_one (pe_call (ok_law_truths T) (hr.mono (by decide)) (by rfl) T.g_law_truths T.F_law_truths.kp (b_law_truths T) .nil pass0 (pa_cons (pv 4) pa_nil)))))))))), ?_⟩
    refine ⟨_, rfl, v, n, f, rfl, hn1, hn, TT, hA, fun H1 p1 ks e1 np1 hp1 htop => ?_⟩
    refine ⟨_, rfl, v, n, f, rfl, hn1, hn, TT.mono e1, hA, fun H2 p2 rs e2 T2 => ?_⟩
    refine ⟨_, rfl, v, n, f, rfl, hn1, hn, TT.mono (e1.trans e2), hA, fun H3 p3 e3 np3 hp3 => ?_⟩
    refine ⟨(by decide : 3 ≤ sizeLine), fun L nL => ?_⟩
    generalize gL : upd _ L _ = H4
    have e4 : Ex H3 H4 := by rw [← gL]; exact Ex.new nL
    have kL : H4 L = some (.lst [.ref p1, .ref p2, .ref p3]) := by rw [← gL]; exact upd_same
    clear gL
    have e13 := e1.trans (e2.trans e3)
    refine ⟨_, rfl, v, n, f, rfl, hn1, hn, TT.mono (e13.trans e4), hA, fun H5 x e5 nx hF => ?_⟩
    refine ⟨_, _, rfl, ?_⟩
    have e05 := e13.trans (e4.trans e5)
    have hordl : (ordF (wid f n) n).length = n := by rw [(ordF_good f n).1.length_eq, List.length_range]
    refine ⟨fun σ' H' => ∃ (u : V) (ds : List PyData) (b0 : Bool), σ' = [some v, some (.ref L), some (.ref x), none, none, none] ∧ Ex H H' ∧ H' L = some (.lst [.ref p1, .ref p2, .ref p3, u]) ∧ DpAll K H' [.ref p1, .ref p2, .ref p3, u] ds ∧ ds.length = 4 ∧ (∀ e ∈ ds, plD 4 e) ∧ ShOk T H' n f (.ref x) b0, ?_, ?_⟩
    · have eL : ∀ o, Ex H3 (upd H5 L o) := fun o => (e4.trans e5).mut nL
      have hL5 := e5 _ _ kL
      have nxL : x ≠ L := (ne_of_fresh kL nx).symm
      have d1 : ∀ {u : V} {d : PyData} {o : HO}, Dp K (upd H5 L o) u d → DpAll K (upd H5 L o) [.ref p1, .ref p2, .ref p3, u] [.list ((ks.map fun (k : Nat) => (k : Int)).map PyData.int), dTab n (wid f n), .list (((ordF (wid f n) n).map fun (k : Nat) => (k : Int)).map PyData.int), d] := fun h =>
        .cons (dp_mono (e2.trans (e3.trans (eL _))) (dp_nats hp1)) (.cons (dp_mono (e3.trans (eL _)) T2.rd.dp) (.cons (dp_mono (eL _) (dp_nats hp3)) (.cons h .nil)))
      have hktl := tops_len htop
      have d2 : ∀ (d : PyData), plD 1 d → ∀ e ∈ [PyData.list ((ks.map fun (k : Nat) => (k : Int)).map PyData.int), dTab n (wid f n), .list (((ordF (wid f n) n).map fun (k : Nat) => (k : Int)).map PyData.int), d], plD 4 e := fun d h e he => by
        rcases List.mem_cons.mp he with rfl | he
        · exact (pl_ints _ (by rw [List.length_map]; omega)).up.up.up
        · rcases List.mem_cons.mp he with rfl | he
          · exact (pl_tab hn _).up.up
          · rcases List.mem_cons.mp he with rfl | he
            · exact (pl_ints _ (by rw [List.length_map]; omega)).up.up.up
            · have : e = d := by simpa using he
              rw [this]
              exact h.up.up.up
      cases hF with
      | unb dx w hx hw hu hno =>
        refine ⟨_, rfl, .inl ⟨rfl, _, sq_of hL5⟩, _, rfl, .ref x, .ref T.c_Unbeaten, _, _, true, rfl, .own _, tyx_ins hx T.C_Unbeaten T.y_Unbeaten, T.k_Unbeaten_Unbeaten, true, rfl, ?_⟩
        refine ⟨_, rfl, x, T.c_Unbeaten, dx, _, _, rfl, hx, T.C_Unbeaten, T.a_Unbeaten_who, rfl, L, _, _, rfl, rfl, hL5, sz_lt (show (3 : Nat) < 100000 by decide), ?_⟩
        exact ⟨.int (w : Int), _, _, rfl, e13.trans (eL _), upd_same, d1 (.int _), rfl, d2 _ (.inl ⟨_, rfl⟩), .unb (by rw [upd_ne nxL]; exact hx)⟩
      | ring dx p ls np hx hp hno hsh hl =>
        have npL : p ≠ L := (ne_of_fresh kL np).symm
        refine ⟨_, rfl, .inl ⟨rfl, _, sq_of hL5⟩, _, rfl, .ref x, .ref T.c_Unbeaten, _, _, false, rfl, .own _, tyx_ins hx T.C_Ring T.y_Ring, T.k_Ring_Unbeaten, false, rfl, ?_⟩
        refine ⟨_, rfl, x, T.c_Ring, dx, _, _, rfl, hx, T.C_Ring, T.a_Ring_way, rfl, L, _, _, rfl, rfl, hL5, sz_lt (show (3 : Nat) < 100000 by decide), ?_⟩
        exact ⟨.ref p, _, _, rfl, e13.trans (eL _), upd_same, d1 (dp_nats (by rw [upd_ne npL]; exact hp)), rfl, d2 _ (pl_ints _ (by rw [List.length_map]; omega)), .ring (by rw [upd_ne nxL]; exact hx) (by rw [upd_ne npL, hp, nv_iv]) (by rw [List.length_map]; omega)⟩
    rintro _ H6 ⟨u, ds, b0, rfl, e6, hL6, hds, hdl, hpl, hs0⟩
    refine ⟨_, rfl, v, n, f, rfl, hn1, hn, TT.mono e6, hA, fun H7 m e7 nm hT => ?_⟩
    refine ⟨fun σ' H' => ∃ (L2 : Addr) (vs : List V) (ds : List PyData) (b1 : Bool), σ' = [some v, some (.ref L2), some (.ref x), some (.ref m), none, none] ∧ Ex H6 H' ∧ H' L2 = some (.lst vs) ∧ DpAll K H' vs ds ∧ ds.length ≤ 1000 ∧ (∀ e ∈ ds, plD 4 e) ∧ ShOk T H' n f (.ref m) b1, ?_, ?_⟩
    · cases hT with
      | bal dx D ts ls bs hx BN ok ec al len =>
        have h60 := okB_all60 hn ok
        refine ⟨_, rfl, _, rfl, .ref m, .ref T.c_Ballots, _, _, true, rfl, .own _, tyx_ins hx T.C_Ballots T.y_Ballots, T.k_Ballots_Ballots, true, rfl, ?_⟩
        refine ⟨_, rfl, m, T.c_Ballots, dx, _, _, rfl, hx, T.C_Ballots, T.a_Ballots_ballots, rfl, (by decide : 1 ≤ sizeLine), fun q1 nq1 => ?_⟩
        generalize g1 : upd _ q1 _ = G1
        have f1 : Ex H7 G1 := by rw [← g1]; exact Ex.new nq1
        have k1 : G1 q1 = some (.lst [.ref D]) := by rw [← g1]; exact upd_same
        clear g1
        refine ⟨L, q1, _, _, rfl, rfl, (e7.trans f1) _ _ hL6, k1, (by decide : 5 ≤ sizeLine), fun L2 nL2 => ?_⟩
        have f2 := Ex.new (o := .lst ([.ref p1, .ref p2, .ref p3, u] ++ [.ref D])) nL2
        refine ⟨L2, _, ds ++ [dBals bs], _, rfl, e7.trans (f1.trans f2), upd_same, dpAll_app (.cons (BN.rd.mono (f1.trans f2)).dp .nil) (dpAll_mono (e7.trans (f1.trans f2)) hds), by rw [List.length_append, hdl]; show (5 : Nat) ≤ 1000; decide, fun e he => ?_, .bal ((f1.trans f2) _ _ hx) (BN.rd.mono (f1.trans f2)) h60⟩
        rcases List.mem_append.mp he with he | he
        · exact hpl e he
        · have : e = dBals bs := by simpa using he
          rw [this]
          exact (pl_bals len h60).up
      | une dx t1 t2 a b hx h1 h2 hab hb odd =>
        refine ⟨_, rfl, _, rfl, .ref m, .ref T.c_Ballots, _, _, false, rfl, .own _, tyx_ins hx T.C_Uneven T.y_Uneven, T.k_Uneven_Ballots, false, rfl, ?_⟩
        refine ⟨_, rfl, m, T.c_Uneven, dx, _, _, rfl, hx, T.C_Uneven, T.a_Uneven_one, rfl, _, rfl, m, T.c_Uneven, dx, _, _, rfl, hx, T.C_Uneven, T.a_Uneven_other, rfl, (by decide : 2 ≤ sizeLine), fun q1 nq1 => ?_⟩
        generalize g1 : upd _ q1 _ = G1
        have f1 : Ex H7 G1 := by rw [← g1]; exact Ex.new nq1
        have k1 : G1 q1 = some (.lst [.ref t1, .ref t2]) := by rw [← g1]; exact upd_same
        clear g1
        refine ⟨L, q1, _, _, rfl, rfl, (e7.trans f1) _ _ hL6, k1, (by decide : 6 ≤ sizeLine), fun L2 nL2 => ?_⟩
        have f2 := Ex.new (o := .lst ([.ref p1, .ref p2, .ref p3, u] ++ [.ref t1, .ref t2])) nL2
        have f12 := f1.trans f2
        refine ⟨L2, _, ds ++ [.tuple [.int 0, .int 1], .tuple [.int a, .int b]], _, rfl, e7.trans f12, upd_same, dpAll_app (.cons (.tup (st_of (f12 _ _ h1)) (.cons (.int _) (.cons (.int _) .nil))) (.cons (.tup (st_of (f12 _ _ h2)) (.cons (.int _) (.cons (.int _) .nil))) .nil)) (dpAll_mono (e7.trans f12) hds), by rw [List.length_append, hdl]; show (6 : Nat) ≤ 1000; decide, fun e he => ?_, .une (f12 _ _ hx) (f12 _ _ h1) (f12 _ _ h2)⟩
        have two : ∀ a b : Int, plD 1 (.tuple [.int a, .int b]) := fun a b => .inr ⟨_, .inr rfl, show (2 : Nat) ≤ 1000 by decide, fun e he => by
          rcases List.mem_cons.mp he with rfl | he
          · exact ⟨_, rfl⟩
          · have : e = .int b := by simpa using he
            exact ⟨_, this⟩⟩
        rcases List.mem_append.mp he with he | he
        · exact hpl e he
        · rcases List.mem_cons.mp he with rfl | he
          · exact (two _ _).up.up.up
          · have : e = .tuple [.int a, .int b] := by simpa using he
            rw [this]
            exact (two _ _).up.up.up
    rintro _ H8 ⟨L2, vs, ds2, b1, rfl, e8, hL8, hds8, hdl8, hpl8, hs1⟩
    have TT8 := TT.mono (e6.trans e8)
    refine ⟨_, rfl, _, rfl, ?_⟩
    intro x1 dx1 nx1 ndx1 nxd1
    refine ⟨x1, dx1, _, rfl, upd_same, fun G1 eB1 hx1 => ⟨rfl, ?_⟩⟩
    have f1 := ex_after nx1 ndx1 nxd1 eB1
    refine ⟨(by decide : 1 ≤ sizeLine), fun l1 nl1 => ?_⟩
    generalize g2 : upd _ l1 _ = G2
    have f2 : Ex G1 G2 := by rw [← g2]; exact Ex.new nl1
    have k2 : G2 l1 = some (.lst (iv [0])) := by rw [← g2]; exact upd_same
    clear g2
    intro x2 dx2 nx2 ndx2 nxd2
    have m2 := ex_made (C := T.c_Ring) nx2 ndx2 nxd2
    refine ⟨x2, dx2, l1, [0], rfl, upd_same, sq_of (m2 _ _ k2), fun G3 w2 eB2 nw2 hx2 hw2 => ⟨rfl, ?_⟩⟩
    have f3 := ex_after nx2 ndx2 nxd2 eB2
    refine ⟨Nat.zero_le _, fun l2 nl2 => ?_⟩
    generalize g4 : upd _ l2 _ = G4
    have f4 : Ex G3 G4 := by rw [← g4]; exact Ex.new nl2
    have k4 : G4 l2 = some (.lst []) := by rw [← g4]; exact upd_same
    clear g4
    intro x3 dx3 nx3 ndx3 nxd3
    have m3 := ex_made (C := T.c_Ballots) nx3 ndx3 nxd3
    refine ⟨x3, dx3, .ref l2, [], rfl, upd_same, ⟨l2, [], rfl, sq_of (m3 _ _ k4), .nil⟩, by decide, fun G5 D5 ts ls eB3 hx3 BN => ⟨rfl, ?_⟩⟩
    have f5 := ex_after nx3 ndx3 nxd3 eB3
    refine ⟨(by decide : 5 ≤ sizeLine), fun Z nZ => ?_⟩
    generalize g6 : upd _ Z _ = G6
    have f6 : Ex G5 G6 := by rw [← g6]; exact Ex.new nZ
    have kZ : G6 Z = some (.lst [.ref x, .ref m, .ref x1, .ref x2, .ref x3]) := by rw [← g6]; exact upd_same
    clear g6
    have f26 := f3.trans (f4.trans (f5.trans f6))
    have f86 := f1.trans (f2.trans f26)
    have hall : Paired (ShOk T G6 n f) [.ref x, .ref m, .ref x1, .ref x2, .ref x3] [b0, b1, shN n f 0, shR n f [0], shB n f []] :=
      .cons ((hs0.mono e8).mono f86) (.cons (hs1.mono f86) (.cons (.unb ((f2.trans f26) _ _ hx1)) (.cons (.ring ((f4.trans (f5.trans f6)) _ _ hx2) ((f4.trans (f5.trans f6)) _ _ hw2) (by decide)) (.cons (.bal (f6 _ _ hx3) (BN.rd.mono f6) (fun _ h => nomatch h)) .nil))))
    generalize hbs : [b0, b1, shN n f 0, shR n f [0], shB n f []] = bs at hall
    have hbl : bs.length = 5 := by rw [← hbs]; rfl
    refine ⟨Z, rfl, ⟨_, sq_of kZ⟩, fun D hD => ?_⟩
    refine lc_vals (walk_list (K := K) (a := Z) (xs := [.ref x, .ref m, .ref x1, .ref x2, .ref x3])) hD (show (5 : Nat) ≤ 100000 by decide) (fun Hx e => sq_of (e _ _ kZ)) (fun i => V.bl (bs.getD i false)) ?_ ?_
    · rintro j y Ha Ha' hj ea ⟨rfl, hy⟩ Qc hq
      obtain ⟨b, hb, hsh⟩ := Paired.get hall hy
      rw [List.getD_eq_getElem?_getD, hb] at hq
      have TTa := TT8.mono (f86.trans ea)
      refine ⟨rfl, ?_⟩
      cases hsh.mono ea with
      | unb hx => exact .inl ⟨_, rfl, _, _, _, rfl, hx, rfl, v, rfl, _, _, v, _, n, f, rfl, hx, TTa, hn1, hq _ (Ex.refl _)⟩
      | ring hx hp hl => exact .inr (.inl ⟨_, rfl, _, _, _, rfl, hx, rfl, v, rfl, _, _, _, v, _, n, f, rfl, hx, sq_of hp, hl, TTa, fun H2 e2 => hq _ e2⟩)
      | bal hx hB h60 => exact .inr (.inr (.inl ⟨_, rfl, _, _, _, rfl, hx, rfl, v, rfl, _, _, v, _, _, n, f, rfl, hx, hB, h60, TTa, hn, fun H2 e2 => hq _ e2⟩))
      | une hx hp hr => exact .inr (.inr (.inr ⟨_, rfl, _, _, _, rfl, hx, rfl, v, rfl, _, _, _, _, v, _, _, _, _, n, f, rfl, hx, st_of hp, st_of hr, TTa, fun H2 e2 => hq _ e2⟩))
    · intro H9 e9 hD9
      have eZ := f86.trans e9
      have hD9' : H9 D = some (.lst (bs.map V.bl)) := by
        have h5 : H9 D = some (.lst ((List.range 5).map fun i => V.bl (bs.getD i false))) := hD9
        rw [h5]
        congr 2
        apply List.ext_getElem?
        intro i
        rw [List.getElem?_map, List.getElem?_map]
        by_cases hi : i < 5
        · rw [List.getElem?_range hi, List.getElem?_eq_getElem (by omega), Option.map_some, List.getD_eq_getElem?_getD, List.getElem?_eq_getElem (by omega)]
          rfl
        · rw [List.getElem?_eq_none (by rw [List.length_range]; omega), List.getElem?_eq_none (by omega)]
          rfl
      refine ⟨_, rfl, .ref L2, .list ds2, rfl, .lst (sq_of (eZ _ _ hL8)) (dpAll_mono eZ hds8), .inr ⟨ds2, .inl rfl, hdl8, hpl8⟩, fun H10 e10 => ⟨true, rfl, ?_⟩⟩
      exact ⟨_, rfl, D, bs, rfl, sq_of (e10 _ _ hD9'), by omega, fun H11 e11 => q _ ((e6.trans e8).trans (eZ.trans (e10.trans e11)))⟩
end
end Hc
namespace Hc
open PySem PySem.Spec PyProof.Rows L2 Evl
section
variable {P : Program} {w : World} {K : PySem.W.Frag} {mg : Str → Option Value} {base : Heap}
def step1 (n : Nat) (f : Nat → Nat → Int) (l : List Nat) : List Nat := (List.range n).filter fun j => l.contains j || l.any fun k => decide (f k j ≤ 0)
def stepN (n : Nat) (f : Nat → Nat → Int) : Nat → List Nat → List Nat
  | 0, l => l
  | m + 1, l => stepN n f m (step1 n f l)
def grpB (n : Nat) (f : Nat → Nat → Int) (i : Nat) : List Nat := stepN n f n [i]
def shutB (n : Nat) (f : Nat → Nat → Int) (l : List Nat) : Bool := (List.range n).all fun j => l.contains j || !(l.any fun k => decide (f k j ≤ 0))
theorem step_mem {n : Nat} {f : Nat → Nat → Int} {l : List Nat} {j : Nat} : j ∈ step1 n f l ↔ j < n ∧ (j ∈ l ∨ ∃ k ∈ l, f k j ≤ 0) := by
  unfold step1
  rw [List.mem_filter, List.mem_range, Bool.or_eq_true, List.contains_iff_mem, List.any_eq_true]
  constructor
  · rintro ⟨h1, h2 | ⟨k, h3, h4⟩⟩
    · exact ⟨h1, .inl h2⟩
    · exact ⟨h1, .inr ⟨k, h3, of_decide_eq_true h4⟩⟩
  · rintro ⟨h1, h2 | ⟨k, h3, h4⟩⟩
    · exact ⟨h1, .inl h2⟩
    · exact ⟨h1, .inr ⟨k, h3, decide_eq_true h4⟩⟩
theorem stepN_good {n : Nat} {f : Nat → Nat → Int} {i : Nat} : ∀ (m : Nat) (l : List Nat), (∀ x ∈ l, x < n ∧ Reach n (fun a b => - f a b) 0 i x) → i ∈ l → l.Pairwise (· < ·) → (∀ x ∈ stepN n f m l, x < n ∧ Reach n (fun a b => - f a b) 0 i x) ∧ i ∈ stepN n f m l ∧ (stepN n f m l).Pairwise (· < ·)
  | 0, _, h1, h2, h3 => ⟨h1, h2, h3⟩
  | m + 1, l, h1, h2, _ => stepN_good m (step1 n f l) (fun x hx => by
      obtain ⟨a, b⟩ := step_mem.mp hx
      rcases b with b | ⟨k, b, c⟩
      · exact h1 x b
      · exact ⟨a, .on (h1 k b).2 (h1 k b).1 a (by omega)⟩) (step_mem.mpr ⟨(h1 i h2).1, .inl h2⟩) (List.pairwise_lt_range.filter _)
theorem grp_of {n : Nat} {f : Nat → Nat → Int} {i : Nat} (hi : i < n) (hc : shutB n f (grpB n f i) = true) : Grp n f i (grpB n f i) := by
  obtain ⟨h1, h2, h3⟩ := stepN_good (n := n) (f := f) (i := i) n [i] (fun x hx => by
    have : x = i := by simpa using hx
    rw [this]
    exact ⟨hi, .me⟩) (by simp) (by simp)
  refine ⟨h3, fun j => ⟨fun h => h1 j h, fun h => reach_mem h2 (fun k hk j hj hL => ?_) h.2⟩⟩
  have := List.all_eq_true.mp hc j (List.mem_range.mpr hj)
  rw [Bool.or_eq_true] at this
  rcases this with h | h
  · exact List.contains_iff_mem.mp h
  · rw [Bool.not_eq_true', List.any_eq_false] at h
    exact absurd (decide_eq_true (show f k j ≤ 0 by omega)) (h k hk)
theorem tops_of {n : Nat} {f : Nat → Nat → Int} {ks : List Nat} (i : Nat) (hi : i < n) (hc : ∀ j, j < n → shutB n f (grpB n f j) = true) (hk : ks = grpB n f i) (hb : ∀ j, j < n → ks.length ≤ (grpB n f j).length ∧ (j < i → ks.length < (grpB n f j).length)) : IsTops n f ks := by
  have at_ : ∀ j, j < n → ((List.range n).map (grpB n f)).getD j [] = grpB n f j := fun j hj => by
    rw [List.getD_eq_getElem?_getD, List.getElem?_map, List.getElem?_range hj]
    rfl
  exact ⟨(List.range n).map (grpB n f), i, by rw [List.length_map, List.length_range], fun j hj => by rw [at_ j hj]; exact grp_of hj (hc j hj), hi, by rw [at_ i hi, hk], fun j hj => by rw [at_ j hj]; exact hb j hj⟩
theorem fin2 {n : Nat} {f g : Nat → Nat → Int} (h : ∀ i j : Fin n, f i j = g i j) : ∀ i j, i < n → j < n → f i j = g i j := fun i j hi hj => h ⟨i, hi⟩ ⟨j, hj⟩
theorem antiL {n : Nat} {f : Nat → Nat → Int} (h : ∀ i j : Fin n, f i j = - f j i) : Anti n f := fun i j hi hj => h ⟨i, hi⟩ ⟨j, hj⟩
theorem allc {P : V → Prop} {a : V} {l : List V} (h : P a) (r : ∀ x ∈ l, P x) : ∀ x ∈ a :: l, P x := fun x hx => by
  rcases List.mem_cons.mp hx with rfl | hx
  · exact h
  · exact r x hx
theorem alln {P : V → Prop} : ∀ x ∈ ([] : List V), P x := fun _ h => nomatch h
/-- a case of Ring: way, table, whether -/
def CaseR (K : PySem.W.Frag) (H : Hp) (x : V) : Prop := ∃ (t l : Addr) (v : V) (b : Bool) (ns : List Int) (n : Nat) (f : Nat → Nat → Int), x = .ref t ∧ H t = some (.tup [.ref l, v, .bl b]) ∧ H l = some (.lst (iv ns)) ∧ ns.length ≤ 1000 ∧ TabR K H v n f ∧ shR n f ns = b
theorem CaseR.mono {K : PySem.W.Frag} {H H' : Hp} {x : V} (h : CaseR K H x) (e : Ex H H') : CaseR K H' x := by
  obtain ⟨t, l, v, b, ns, n, f, h1, h2, h3, h4, h5, h6⟩ := h
  exact ⟨t, l, v, b, ns, n, f, h1, e _ _ h2, e _ _ h3, h4, h5.mono e, h6⟩
/-- a case of Unbeaten -/
def CaseN (K : PySem.W.Frag) (H : Hp) (x : V) : Prop := ∃ (t : Addr) (v : V) (b : Bool) (k : Int) (n : Nat) (f : Nat → Nat → Int), x = .ref t ∧ H t = some (.tup [.int k, v, .bl b]) ∧ 1 ≤ n ∧ TabR K H v n f ∧ shN n f k = b
theorem CaseN.mono {K : PySem.W.Frag} {H H' : Hp} {x : V} (h : CaseN K H x) (e : Ex H H') : CaseN K H' x := by
  obtain ⟨t, v, b, k, n, f, h1, h2, h3, h4, h5⟩ := h
  exact ⟨t, v, b, k, n, f, h1, e _ _ h2, h3, h4.mono e, h5⟩
/-- a case of Ballots -/
def CaseB (K : PySem.W.Frag) (H : Hp) (x : V) : Prop := ∃ (t : Addr) (u v : V) (b : Bool) (bs : List (List Nat × Int)) (n : Nat) (f : Nat → Nat → Int), x = .ref t ∧ H t = some (.tup [u, v, .bl b]) ∧ BalsR K H u bs ∧ bs.length ≤ 1000 ∧ (∀ b ∈ bs, b.1.length < 60) ∧ n ≤ 20 ∧ TabR K H v n f ∧ shB n f bs = b
theorem CaseB.mono {K : PySem.W.Frag} {H H' : Hp} {x : V} (h : CaseB K H x) (e : Ex H H') : CaseB K H' x := by
  obtain ⟨t, u, v, b, bs, n, f, h1, h2, h3, h4, h5, h6, h7, h8⟩ := h
  exact ⟨t, u, v, b, bs, n, f, h1, e _ _ h2, h3.mono e, h4, h5, h6, h7.mono e, h8⟩
/-- a case of Uneven -/
def CaseU (H : Hp) (n : Nat) (f : Nat → Nat → Int) (x : V) : Prop := ∃ (t p r : Addr) (a b c d : Int) (w : Bool), x = .ref t ∧ H t = some (.tup [.ref p, .ref r, .bl w]) ∧ H p = some (.tup [.int a, .int b]) ∧ H r = some (.tup [.int c, .int d]) ∧ shU n f a b c d = w
theorem CaseU.mono {H H' : Hp} {n : Nat} {f : Nat → Nat → Int} {x : V} (h : CaseU H n f x) (e : Ex H H') : CaseU H' n f x := by
  obtain ⟨t, p, r, a, b, c, d, w, h1, h2, h3, h4, h5⟩ := h
  exact ⟨t, p, r, a, b, c, d, w, h1, e _ _ h2, e _ _ h3, e _ _ h4, h5⟩
def overL : List (List Int) := [[0, 1, -1, -1], [-1, 0, 1, -1], [1, -1, 0, -1], [1, 1, 1, 0]]
def ringL : List (List Int) := [[0, 1, -1], [-1, 0, 1], [1, -1, 0]]
def chainL : List (List Int) := [[0, 5, -1], [-5, 0, 3], [1, -3, 0]]
def spProm : Sp := fun vs H Q _ => vs = [] ∧ ∀ H2, Ex H H2 → Q (.bl true) H2
def spChains (K : PySem.W.Frag) : Sp := fun vs H Q _ => ∃ v1 v2 v3, vs = [v1, v2, v3] ∧ TabR K H v1 3 (litF ringL) ∧ TabR K H v2 3 (litF chainL) ∧ TabR K H v3 4 (litF overL) ∧ ∀ H2, Ex H H2 → Q (.bl true) H2
end
end Hc
namespace Hc
open PySem PySem.Spec PyProof.Rows L2 Evl
section
variable {P : Program} {w : World} {K : PySem.W.Frag} {mg : Str → Option Value} {base : Heap}
def CaseP (H : Hp) (x : V) : Prop := ∃ (t l : Addr) (b : Bool) (ks : List Nat), x = .ref t ∧ H t = some (.tup [.ref l, .bl b]) ∧ H l = some (.lst (nv ks)) ∧ okB 3 (ks, 1) = true ∧ okB 3 (ks, 5) = true ∧ isPk ks = b
theorem CaseP.mono {H H' : Hp} {x : V} (h : CaseP H x) (e : Ex H H') : CaseP H' x := by
  obtain ⟨t, l, b, ks, h1, h2, h3, h4⟩ := h
  exact ⟨t, l, b, ks, h1, e _ _ h2, e _ _ h3, h4⟩
def CaseM (K : PySem.W.Frag) (H : Hp) (x : V) : Prop := ∃ (t : Addr) (u : V) (bs : List (List Nat × Int)) (w : Nat), x = .ref t ∧ H t = some (.tup [u, .int (w : Nat)]) ∧ BalsR K H u bs ∧ bs.all (okB 3) = true ∧ (bs.all fun b => isPk b.1) = true ∧ bs.length ≤ 1000 ∧ w < 3 ∧ wholeOf bs ≤ 2 * held bs w ∧ ∀ v, v < w → 2 * held bs v < wholeOf bs
theorem CaseM.mono {K : PySem.W.Frag} {H H' : Hp} {x : V} (h : CaseM K H x) (e : Ex H H') : CaseM K H' x := by
  obtain ⟨t, u, bs, w, h1, h2, h3, h4⟩ := h
  exact ⟨t, u, bs, w, h1, e _ _ h2, h3.mono e, h4⟩
theorem ok_law_chains_promises (T : Tx K mg) : FnOk P w K mg base CX0 6 T.f_law_chains_promises T.d_law_chains_promises ["_law_ring", "_law_chain", "_law_over"] (spChains K) := by
  refine T.F_law_chains_promises.ok sc_law_chains_promises (fun vs H Q E h => ?_) (fun cdv A outer s H vs Q E hr h => ?_)
  · obtain ⟨v1, v2, v3, rfl, _⟩ := h
    rfl
  · obtain ⟨v1, v2, v3, rfl, T1z, T2z, T3z, q⟩ := h
    refine ⟨_, Evl.pss_cut (ps_if (PW.pt (pw_or (pt_cmpR (neDK K hr.units) (pe_call (ok_strengths T) (hr.mono (by decide)) (by rfl) T.g_strengths T.F_strengths.kp (b_strengths T) .nil pass0 (pa_cons (pv 1) pa_nil)) (pe_lst (pa_cons (pe_lst (pa_cons pe_int (pa_cons pe_int (pa_cons pe_int pa_nil)))) (pa_cons (pe_lst (pa_cons pe_int (pa_cons pe_int (pa_cons pe_int pa_nil)))) (pa_cons (pe_lst (pa_cons pe_int (pa_cons pe_int (pa_cons pe_int pa_nil)))) pa_nil)))) (nomark _)) (pw_or1 (pt_cmpR (neDK K hr.units) (pe_call (ok_order T) (hr.mono (by decide)) (by rfl) T.g_order T.F_order.kp (b_order T) .nil pass0 (pa_cons (pv 1) pa_nil)) (pe_lst (pa_cons pe_int (pa_cons pe_int (pa_cons pe_int pa_nil)))) (nomark _))))) (pss_one (ps_ret pe_bl)) (pss_nil))
      (Evl.pss_cut (ps_if (PW.pt (pw_or (pt_cmpR (neDK K hr.units) (pe_call (ok_strengths T) (hr.mono (by decide)) (by rfl) T.g_strengths T.F_strengths.kp (b_strengths T) .nil pass0 (pa_cons (pe_lst (pa_cons (pe_lst (pa_cons pe_int (pa_cons pe_int pa_nil))) (pa_cons (pe_lst (pa_cons (pe_un un_neg pe_int) (pa_cons pe_int pa_nil))) pa_nil))) pa_nil)) (pe_lst (pa_cons (pe_lst (pa_cons pe_int (pa_cons pe_int pa_nil))) (pa_cons (pe_lst (pa_cons (pe_un un_neg pe_int) (pa_cons pe_int pa_nil))) pa_nil))) (nomark _)) (pw_or1 (pt_cmpR (neDK K hr.units) (pe_call (ok_strengths T) (hr.mono (by decide)) (by rfl) T.g_strengths T.F_strengths.kp (b_strengths T) .nil pass0 (pa_cons (pe_lst (pa_cons (pe_lst (pa_cons pe_int pa_nil)) pa_nil)) pa_nil)) (pe_lst (pa_cons (pe_lst (pa_cons pe_int pa_nil)) pa_nil)) (nomark _))))) (pss_one (ps_ret pe_bl)) (pss_nil))
      (Evl.pss_cut (ps_if (PW.pt (pw_or (pt_cmpR (neDK K hr.units) (pe_call (ok_order T) (hr.mono (by decide)) (by rfl) T.g_order T.F_order.kp (b_order T) .nil pass0 (pa_cons (pe_lst (pa_cons (pe_lst (pa_cons pe_int pa_nil)) pa_nil)) pa_nil)) (pe_lst (pa_cons pe_int pa_nil)) (nomark _)) (pw_or (pt_cmpR (neDK K hr.units) (pe_call (ok_order T) (hr.mono (by decide)) (by rfl) T.g_order T.F_order.kp (b_order T) .nil pass0 (pa_cons (pe_lst (pa_cons (pe_lst (pa_cons pe_int (pa_cons (pe_un un_neg pe_int) pa_nil))) (pa_cons (pe_lst (pa_cons pe_int (pa_cons pe_int pa_nil))) pa_nil))) pa_nil)) (pe_lst (pa_cons pe_int (pa_cons pe_int pa_nil))) (nomark _)) (pw_or1 (pt_cmpR op_ne (pe_ix (ixLK K) (pe_call (ok_order T) (hr.mono (by decide)) (by rfl) T.g_order T.F_order.kp (b_order T) .nil pass0 (pa_cons (pv 2) pa_nil)) pe_int (fun _ _ => rfl)) pe_int (nomark _)))))) (pss_one (ps_ret pe_bl)) (pss_nil))
      (Evl.pss_cut (ps_if (pt_cmpR (neDK K hr.units) (pe_callB (sortK K) (by rfl) T.n_sorted PyProof.Rows.boot_sorted (pa_cons (pe_call (ok_order T) (hr.mono (by decide)) (by rfl) T.g_order T.F_order.kp (b_order T) .nil pass0 (pa_cons (pv 0) pa_nil)) pa_nil)) (pe_lst (pa_cons pe_int (pa_cons pe_int (pa_cons pe_int pa_nil)))) (nomark _)) (pss_one (ps_ret pe_bl)) (pss_nil))
      (Evl.pss_cut (ps_set (i := 3) sc_law_chains_promises.nd rfl (Or.inl rfl) (pe_lst (pa_cons (pe_tup (pa_cons (pe_lst (pa_cons pe_int (pa_cons pe_int (pa_cons pe_int pa_nil)))) (pa_cons pe_bl pa_nil))) (pa_cons (pe_tup (pa_cons (pe_lst (pa_cons pe_int (pa_cons pe_int (pa_cons pe_int pa_nil)))) (pa_cons pe_bl pa_nil))) (pa_cons (pe_tup (pa_cons (pe_lst (pa_cons pe_int (pa_cons pe_int (pa_cons pe_int pa_nil)))) (pa_cons pe_bl pa_nil))) (pa_cons (pe_tup (pa_cons (pe_lst (pa_cons pe_int (pa_cons pe_int (pa_cons pe_int pa_nil)))) (pa_cons pe_bl pa_nil))) pa_nil))))))
      (Evl.pss_cut (ps_set (i := 3) sc_law_chains_promises.nd rfl (Or.inl rfl) (pe_op op_cat (pv 3) (pe_lst (pa_cons (pe_tup (pa_cons (pe_lst (pa_cons pe_int (pa_cons pe_int (pa_cons pe_int pa_nil)))) (pa_cons pe_bl pa_nil))) (pa_cons (pe_tup (pa_cons (pe_lst (pa_cons pe_int (pa_cons pe_int (pa_cons pe_int pa_nil)))) (pa_cons pe_bl pa_nil))) pa_nil)))))
      (Evl.pss_cut (ps_for PassesOwn.never rfl (piL K (pv 3)) (pgT K (n := 2) (pgs_cons (pg_name (i := 4) sc_law_chains_promises.nd rfl (by first | exact Or.inl rfl | exact Or.inr rfl)) (pgs_cons (pg_name (i := 5) sc_law_chains_promises.nd rfl (by first | exact Or.inl rfl | exact Or.inr rfl)) pgs_nil)))
        (pss_one (ps_if (PW.pt (pw_or (pt_cmpR op_ne (pe_call (ok_peaked T) (hr.mono (by decide)) (by rfl) T.g_peaked T.F_peaked.kp (b_peaked T) .nil pass0 (pa_cons pe_int (pa_cons (pe_lst (pa_cons (pe_tup (pa_cons (pv 4) (pa_cons pe_int pa_nil))) pa_nil)) pa_nil))) (pv 5) (nomark _)) (pw_or1 (pt_cmpR op_eq (pe_call (ok_law_is_not_peaked T) (hr.mono (by decide)) (by rfl) T.g_law_is_not_peaked T.F_law_is_not_peaked.kp (b_law_is_not_peaked T) .nil pass0 (pa_cons pe_int (pa_cons (pe_lst (pa_cons (pe_tup (pa_cons (pv 4) (pa_cons pe_int pa_nil))) pa_nil)) pa_nil))) (pv 5) (nomark _))))) (pss_one (ps_ret pe_bl)) (pss_nil))))
      (Evl.pss_cut (ps_if (PW.pt (pw_or (pt_not (pt_val (pe_call (ok_peaked T) (hr.mono (by decide)) (by rfl) T.g_peaked T.F_peaked.kp (b_peaked T) .nil pass0 (pa_cons pe_int (pa_cons (pe_lst pa_nil) pa_nil))))) (pw_or (pt_not (pt_val (pe_call (ok_peaked T) (hr.mono (by decide)) (by rfl) T.g_peaked T.F_peaked.kp (b_peaked T) .nil pass0 (pa_cons pe_int (pa_cons (pe_lst (pa_cons (pe_tup (pa_cons (pe_lst (pa_cons pe_int pa_nil)) (pa_cons pe_int pa_nil))) pa_nil)) pa_nil))))) (pw_or1 (pt_val (pe_call (ok_peaked T) (hr.mono (by decide)) (by rfl) T.g_peaked T.F_peaked.kp (b_peaked T) .nil pass0 (pa_cons pe_int (pa_cons (pe_lst (pa_cons (pe_tup (pa_cons (pe_lst (pa_cons pe_int (pa_cons pe_int (pa_cons pe_int pa_nil)))) (pa_cons (pe_op op_pow pe_int pe_int) pa_nil))) (pa_cons (pe_tup (pa_cons (pe_lst (pa_cons pe_int (pa_cons pe_int (pa_cons pe_int pa_nil)))) (pa_cons pe_int pa_nil))) pa_nil))) pa_nil)))))))) (pss_one (ps_ret pe_bl)) (pss_nil))
      (Evl.pss_cut (ps_set (i := 6) sc_law_chains_promises.nd rfl (Or.inl rfl) (pe_lst (pa_cons (pe_tup (pa_cons (pe_lst pa_nil) (pa_cons pe_int pa_nil))) (pa_cons (pe_tup (pa_cons (pe_lst (pa_cons (pe_tup (pa_cons (pe_lst (pa_cons pe_int (pa_cons pe_int (pa_cons pe_int pa_nil)))) (pa_cons pe_int pa_nil))) (pa_cons (pe_tup (pa_cons (pe_lst (pa_cons pe_int (pa_cons pe_int (pa_cons pe_int pa_nil)))) (pa_cons pe_int pa_nil))) pa_nil))) (pa_cons pe_int pa_nil))) pa_nil))))
      (Evl.pss_cut (ps_set (i := 6) sc_law_chains_promises.nd rfl (Or.inl rfl) (pe_op op_cat (pv 6) (pe_lst (pa_cons (pe_tup (pa_cons (pe_lst (pa_cons (pe_tup (pa_cons (pe_lst (pa_cons pe_int (pa_cons pe_int (pa_cons pe_int pa_nil)))) (pa_cons pe_int pa_nil))) (pa_cons (pe_tup (pa_cons (pe_lst (pa_cons pe_int (pa_cons pe_int (pa_cons pe_int pa_nil)))) (pa_cons pe_int pa_nil))) pa_nil))) (pa_cons pe_int pa_nil))) pa_nil))))
      (Evl.pss_cut (ps_set (i := 6) sc_law_chains_promises.nd rfl (Or.inl rfl) (pe_op op_cat (pv 6) (pe_lst (pa_cons (pe_tup (pa_cons (pe_lst (pa_cons (pe_tup (pa_cons (pe_lst (pa_cons pe_int (pa_cons pe_int (pa_cons pe_int pa_nil)))) (pa_cons pe_int pa_nil))) (pa_cons (pe_tup (pa_cons (pe_lst (pa_cons pe_int (pa_cons pe_int (pa_cons pe_int pa_nil)))) (pa_cons pe_int pa_nil))) (pa_cons (pe_tup (pa_cons (pe_lst (pa_cons pe_int (pa_cons pe_int (pa_cons pe_int pa_nil)))) (pa_cons (pe_op op_pow pe_int pe_int) pa_nil))) pa_nil)))) (pa_cons pe_int pa_nil))) pa_nil))))
      (pss_one (ps_ret (pe_callB (allK K) (by rfl) T.n_all PyProof.Rows.boot_all (pa_cons (pe_lc (own := [("_law_ballots", 7), ("_law_due", 5)]) rfl sc_law_chains_promises.nd (piL K (pv 6)) (blkOk_by (own := [("_law_ballots", 7), ("_law_due", 5)]) (N := ["_law_ring", "_law_chain", "_law_over", "_law_cases", "_law_some", "_law_due", "_law_halves", "_law_ballots"]) (sc := defScope s_law_chains_promises) (by decide +kernel)) (fun _ _ _ _ _ => (pgT K (n := 2) (pgs_cons (pg_name (i := 7) sc_law_chains_promises.nd rfl (by first | exact Or.inl rfl | exact Or.inr rfl)) (pgs_cons (pg_name (i := 5) sc_law_chains_promises.nd rfl (by first | exact Or.inl rfl | exact Or.inr rfl)) pgs_nil)))) (fun _ _ _ _ _ => pts_nil) (fun _ _ _ _ _ => (pe_cmpR op_eq (pe_call (ok_middle T) (hr.mono (by decide)) (by rfl) T.g_middle T.F_middle.kp (b_middle T) .nil pass0 (pa_cons pe_int (pa_cons (pv 7) pa_nil))) (pv 5) (nomark _)))) pa_nil)))))))))))))), ?_⟩
    obtain ⟨G0, hG0⟩ : ∃ G0, G0 = H := ⟨_, rfl⟩
    have e0 : Ex H G0 := by rw [hG0]; exact Ex.refl _
    have TA := T1z.mono e0
    have TB := T2z.mono e0
    have TC := T3z.mono e0
    rw [← hG0]
    refine ⟨fun σ' H' => σ' = [some v1, some v2, some v3, none, none, none, none, none] ∧ Ex H H', ?_, ?_⟩
    · refine ⟨_, rfl, v2, 3, (litF chainL), rfl, by decide, by decide, (TB.mono (Ex.refl _)), antiL (by decide +kernel), fun G1 t1 r1 f1 T1 => ?_⟩
      refine ⟨(by decide : 3 ≤ sizeLine), fun p2 np2 => ?_⟩
      generalize g2 : upd _ p2 _ = G2
      have f2 : Ex G1 G2 := by rw [← g2]; exact Ex.new np2
      have k2 : G2 p2 = some (.lst [.int 0, .int 5, .int 3]) := by rw [← g2]; exact upd_same
      clear g2
      refine ⟨(by decide : 3 ≤ sizeLine), fun p3 np3 => ?_⟩
      generalize g3 : upd _ p3 _ = G3
      have f3 : Ex G2 G3 := by rw [← g3]; exact Ex.new np3
      have k3 : G3 p3 = some (.lst [.int 1, .int 0, .int 3]) := by rw [← g3]; exact upd_same
      clear g3
      refine ⟨(by decide : 3 ≤ sizeLine), fun p4 np4 => ?_⟩
      generalize g4 : upd _ p4 _ = G4
      have f4 : Ex G3 G4 := by rw [← g4]; exact Ex.new np4
      have k4 : G4 p4 = some (.lst [.int 1, .int 1, .int 0]) := by rw [← g4]; exact upd_same
      clear g4
      refine ⟨(by decide : 3 ≤ sizeLine), fun p5 np5 => ?_⟩
      generalize g5 : upd _ p5 _ = G5
      have f5 : Ex G4 G5 := by rw [← g5]; exact Ex.new np5
      have k5 : G5 p5 = some (.lst [.ref p2, .ref p3, .ref p4]) := by rw [← g5]; exact upd_same
      clear g5
      refine ⟨_, _, TabR.dp (n := 3) (f := (wid (litF chainL) 3)) (T1.rd.mono ((f2.trans (f3.trans (f4.trans f5))))), TabR.dp (n := 3) (f := (litF [[0, 5, 3], [1, 0, 3], [1, 1, 0]])) (tabR_lit (rs := [p2, p3, p4]) [[0, 5, 3], [1, 0, 3], [1, 1, 0]] k5 (by decide) (.cons (f5 _ _ (f4 _ _ (f3 _ _ k2))) (.cons (f5 _ _ (f4 _ _ k3)) (.cons (f5 _ _ k4) .nil))) : TabR K _ _ 3 (litF [[0, 5, 3], [1, 0, 3], [1, 1, 0]])), shaped_tab _ _, shaped_tab _ _, _, rfl, itF (by rw [eqv_tab (n := 3) (f := (wid (litF chainL) 3)) (g := (litF [[0, 5, 3], [1, 0, 3], [1, 1, 0]])) (fin2 (by decide +kernel))]; rfl) ?_⟩
      refine ⟨_, rfl, v2, 3, (litF chainL), rfl, by decide, by decide, (TB.mono ((f1.trans (f2.trans (f3.trans (f4.trans f5)))))), antiL (by decide +kernel), fun G6 q6 f6 nq6 h6 => ?_⟩
      rw [show ordF (wid (litF chainL) 3) 3 = [0, 1, 2] by decide +kernel] at h6
      refine ⟨(by decide : 3 ≤ sizeLine), fun p7 np7 => ?_⟩
      generalize g7 : upd _ p7 _ = G7
      have f7 : Ex G6 G7 := by rw [← g7]; exact Ex.new np7
      have k7 : G7 p7 = some (.lst [.int 0, .int 1, .int 2]) := by rw [← g7]; exact upd_same
      clear g7
      refine ⟨_, _, dp_ints (ns := [0, 1, 2]) (sq_of ((f7) _ _ h6)), dp_ints (ns := [0, 1, 2]) (sq_of k7), shaped_ints _, shaped_ints _, _, rfl, itF (by rw [eqv_ints]; decide) ?_⟩
      exact ⟨rfl, e0.trans ((f1.trans (f2.trans (f3.trans (f4.trans (f5.trans (f6.trans f7)))))))⟩
    rintro _ G0 ⟨rfl, e0⟩
    have TA := T1z.mono e0
    have TB := T2z.mono e0
    have TC := T3z.mono e0
    refine ⟨fun σ' H' => σ' = [some v1, some v2, some v3, none, none, none, none, none] ∧ Ex H H', ?_, ?_⟩
    · refine ⟨(by decide : 2 ≤ sizeLine), fun p1 np1 => ?_⟩
      generalize g1 : upd _ p1 _ = G1
      have f1 : Ex G0 G1 := by rw [← g1]; exact Ex.new np1
      have k1 : G1 p1 = some (.lst [.int 0, .int 2]) := by rw [← g1]; exact upd_same
      clear g1
      refine ⟨_, rfl, (by decide : 2 ≤ sizeLine), fun p2 np2 => ?_⟩
      generalize g2 : upd _ p2 _ = G2
      have f2 : Ex G1 G2 := by rw [← g2]; exact Ex.new np2
      have k2 : G2 p2 = some (.lst [.int (-2), .int 0]) := by rw [← g2]; exact upd_same
      clear g2
      refine ⟨(by decide : 2 ≤ sizeLine), fun p3 np3 => ?_⟩
      generalize g3 : upd _ p3 _ = G3
      have f3 : Ex G2 G3 := by rw [← g3]; exact Ex.new np3
      have k3 : G3 p3 = some (.lst [.ref p1, .ref p2]) := by rw [← g3]; exact upd_same
      clear g3
      refine ⟨.ref p3, 2, (litF [[0, 2], [-2, 0]]), rfl, by decide, by decide, (tabR_lit (rs := [p1, p2]) [[0, 2], [-2, 0]] k3 (by decide) (.cons (f3 _ _ (f2 _ _ k1)) (.cons (f3 _ _ k2) .nil)) : TabR K _ _ 2 (litF [[0, 2], [-2, 0]])), antiL (by decide +kernel), fun G4 t4 r4 f4 T4 => ?_⟩
      refine ⟨(by decide : 2 ≤ sizeLine), fun p5 np5 => ?_⟩
      generalize g5 : upd _ p5 _ = G5
      have f5 : Ex G4 G5 := by rw [← g5]; exact Ex.new np5
      have k5 : G5 p5 = some (.lst [.int 0, .int 2]) := by rw [← g5]; exact upd_same
      clear g5
      refine ⟨_, rfl, (by decide : 2 ≤ sizeLine), fun p6 np6 => ?_⟩
      generalize g6 : upd _ p6 _ = G6
      have f6 : Ex G5 G6 := by rw [← g6]; exact Ex.new np6
      have k6 : G6 p6 = some (.lst [.int (-2), .int 0]) := by rw [← g6]; exact upd_same
      clear g6
      refine ⟨(by decide : 2 ≤ sizeLine), fun p7 np7 => ?_⟩
      generalize g7 : upd _ p7 _ = G7
      have f7 : Ex G6 G7 := by rw [← g7]; exact Ex.new np7
      have k7 : G7 p7 = some (.lst [.ref p5, .ref p6]) := by rw [← g7]; exact upd_same
      clear g7
      refine ⟨_, _, TabR.dp (n := 2) (f := (wid (litF [[0, 2], [-2, 0]]) 2)) (T4.rd.mono ((f5.trans (f6.trans f7)))), TabR.dp (n := 2) (f := (litF [[0, 2], [-2, 0]])) (tabR_lit (rs := [p5, p6]) [[0, 2], [-2, 0]] k7 (by decide) (.cons (f7 _ _ (f6 _ _ k5)) (.cons (f7 _ _ k6) .nil)) : TabR K _ _ 2 (litF [[0, 2], [-2, 0]])), shaped_tab _ _, shaped_tab _ _, _, rfl, itF (by rw [eqv_tab (n := 2) (f := (wid (litF [[0, 2], [-2, 0]]) 2)) (g := (litF [[0, 2], [-2, 0]])) (fin2 (by decide +kernel))]; rfl) ?_⟩
      refine ⟨(by decide : 1 ≤ sizeLine), fun p8 np8 => ?_⟩
      generalize g8 : upd _ p8 _ = G8
      have f8 : Ex G7 G8 := by rw [← g8]; exact Ex.new np8
      have k8 : G8 p8 = some (.lst [.int 0]) := by rw [← g8]; exact upd_same
      clear g8
      refine ⟨(by decide : 1 ≤ sizeLine), fun p9 np9 => ?_⟩
      generalize g9 : upd _ p9 _ = G9
      have f9 : Ex G8 G9 := by rw [← g9]; exact Ex.new np9
      have k9 : G9 p9 = some (.lst [.ref p8]) := by rw [← g9]; exact upd_same
      clear g9
      refine ⟨.ref p9, 1, (litF [[0]]), rfl, by decide, by decide, (tabR_lit (rs := [p8]) [[0]] k9 (by decide) (.cons (f9 _ _ k8) .nil) : TabR K _ _ 1 (litF [[0]])), antiL (by decide +kernel), fun G10 t10 r10 f10 T10 => ?_⟩
      refine ⟨(by decide : 1 ≤ sizeLine), fun p11 np11 => ?_⟩
      generalize g11 : upd _ p11 _ = G11
      have f11 : Ex G10 G11 := by rw [← g11]; exact Ex.new np11
      have k11 : G11 p11 = some (.lst [.int 0]) := by rw [← g11]; exact upd_same
      clear g11
      refine ⟨(by decide : 1 ≤ sizeLine), fun p12 np12 => ?_⟩
      generalize g12 : upd _ p12 _ = G12
      have f12 : Ex G11 G12 := by rw [← g12]; exact Ex.new np12
      have k12 : G12 p12 = some (.lst [.ref p11]) := by rw [← g12]; exact upd_same
      clear g12
      refine ⟨_, _, TabR.dp (n := 1) (f := (wid (litF [[0]]) 1)) (T10.rd.mono ((f11.trans f12))), TabR.dp (n := 1) (f := (litF [[0]])) (tabR_lit (rs := [p11]) [[0]] k12 (by decide) (.cons (f12 _ _ k11) .nil) : TabR K _ _ 1 (litF [[0]])), shaped_tab _ _, shaped_tab _ _, _, rfl, itF (by rw [eqv_tab (n := 1) (f := (wid (litF [[0]]) 1)) (g := (litF [[0]])) (fin2 (by decide +kernel))]; rfl) ?_⟩
      exact ⟨rfl, e0.trans ((f1.trans (f2.trans (f3.trans (f4.trans (f5.trans (f6.trans (f7.trans (f8.trans (f9.trans (f10.trans (f11.trans f12))))))))))))⟩
    rintro _ G0 ⟨rfl, e0⟩
    have TA := T1z.mono e0
    have TB := T2z.mono e0
    have TC := T3z.mono e0
    refine ⟨fun σ' H' => σ' = [some v1, some v2, some v3, none, none, none, none, none] ∧ Ex H H', ?_, ?_⟩
    · refine ⟨(by decide : 1 ≤ sizeLine), fun p1 np1 => ?_⟩
      generalize g1 : upd _ p1 _ = G1
      have f1 : Ex G0 G1 := by rw [← g1]; exact Ex.new np1
      have k1 : G1 p1 = some (.lst [.int 0]) := by rw [← g1]; exact upd_same
      clear g1
      refine ⟨(by decide : 1 ≤ sizeLine), fun p2 np2 => ?_⟩
      generalize g2 : upd _ p2 _ = G2
      have f2 : Ex G1 G2 := by rw [← g2]; exact Ex.new np2
      have k2 : G2 p2 = some (.lst [.ref p1]) := by rw [← g2]; exact upd_same
      clear g2
      refine ⟨.ref p2, 1, (litF [[0]]), rfl, by decide, by decide, (tabR_lit (rs := [p1]) [[0]] k2 (by decide) (.cons (f2 _ _ k1) .nil) : TabR K _ _ 1 (litF [[0]])), antiL (by decide +kernel), fun G3 q3 f3 nq3 h3 => ?_⟩
      rw [show ordF (wid (litF [[0]]) 1) 1 = [0] by decide +kernel] at h3
      refine ⟨(by decide : 1 ≤ sizeLine), fun p4 np4 => ?_⟩
      generalize g4 : upd _ p4 _ = G4
      have f4 : Ex G3 G4 := by rw [← g4]; exact Ex.new np4
      have k4 : G4 p4 = some (.lst [.int 0]) := by rw [← g4]; exact upd_same
      clear g4
      refine ⟨_, _, dp_ints (ns := [0]) (sq_of ((f4) _ _ h3)), dp_ints (ns := [0]) (sq_of k4), shaped_ints _, shaped_ints _, _, rfl, itF (by rw [eqv_ints]; decide) ?_⟩
      refine ⟨_, rfl, (by decide : 2 ≤ sizeLine), fun p5 np5 => ?_⟩
      generalize g5 : upd _ p5 _ = G5
      have f5 : Ex G4 G5 := by rw [← g5]; exact Ex.new np5
      have k5 : G5 p5 = some (.lst [.int 0, .int (-7)]) := by rw [← g5]; exact upd_same
      clear g5
      refine ⟨(by decide : 2 ≤ sizeLine), fun p6 np6 => ?_⟩
      generalize g6 : upd _ p6 _ = G6
      have f6 : Ex G5 G6 := by rw [← g6]; exact Ex.new np6
      have k6 : G6 p6 = some (.lst [.int 7, .int 0]) := by rw [← g6]; exact upd_same
      clear g6
      refine ⟨(by decide : 2 ≤ sizeLine), fun p7 np7 => ?_⟩
      generalize g7 : upd _ p7 _ = G7
      have f7 : Ex G6 G7 := by rw [← g7]; exact Ex.new np7
      have k7 : G7 p7 = some (.lst [.ref p5, .ref p6]) := by rw [← g7]; exact upd_same
      clear g7
      refine ⟨.ref p7, 2, (litF [[0, -7], [7, 0]]), rfl, by decide, by decide, (tabR_lit (rs := [p5, p6]) [[0, -7], [7, 0]] k7 (by decide) (.cons (f7 _ _ (f6 _ _ k5)) (.cons (f7 _ _ k6) .nil)) : TabR K _ _ 2 (litF [[0, -7], [7, 0]])), antiL (by decide +kernel), fun G8 q8 f8 nq8 h8 => ?_⟩
      rw [show ordF (wid (litF [[0, -7], [7, 0]]) 2) 2 = [1, 0] by decide +kernel] at h8
      refine ⟨(by decide : 2 ≤ sizeLine), fun p9 np9 => ?_⟩
      generalize g9 : upd _ p9 _ = G9
      have f9 : Ex G8 G9 := by rw [← g9]; exact Ex.new np9
      have k9 : G9 p9 = some (.lst [.int 1, .int 0]) := by rw [← g9]; exact upd_same
      clear g9
      refine ⟨_, _, dp_ints (ns := [1, 0]) (sq_of ((f9) _ _ h8)), dp_ints (ns := [1, 0]) (sq_of k9), shaped_ints _, shaped_ints _, _, rfl, itF (by rw [eqv_ints]; decide) ?_⟩
      refine ⟨_, rfl, v3, 4, (litF overL), rfl, by decide, by decide, (TC.mono ((f1.trans (f2.trans (f3.trans (f4.trans (f5.trans (f6.trans (f7.trans (f8.trans f9)))))))))), antiL (by decide +kernel), fun G10 q10 f10 nq10 h10 => ?_⟩
      rw [show ordF (wid (litF overL) 4) 4 = [3, 0, 1, 2] by decide +kernel] at h10
      refine ⟨q10, _, 0, .int 3, rfl, rfl, sq_of h10, atI_nat (j := 0) rfl, rfl, _, rfl, itF (by decide) ?_⟩
      exact ⟨rfl, e0.trans ((f1.trans (f2.trans (f3.trans (f4.trans (f5.trans (f6.trans (f7.trans (f8.trans (f9.trans f10))))))))))⟩
    rintro _ G0 ⟨rfl, e0⟩
    have TA := T1z.mono e0
    have TB := T2z.mono e0
    have TC := T3z.mono e0
    refine ⟨fun σ' H' => σ' = [some v1, some v2, some v3, none, none, none, none, none] ∧ Ex H H', ?_, ?_⟩
    · refine ⟨_, rfl, v1, 3, (litF ringL), rfl, by decide, by decide, (TA.mono (Ex.refl _)), antiL (by decide +kernel), fun G1 q1 f1 nq1 h1 => ?_⟩
      rw [show ordF (wid (litF ringL) 3) 3 = [0, 1, 2] by decide +kernel] at h1
      refine ⟨q1, [0, 1, 2], rfl, sq_of h1, by decide, fun ns2 p2 perm2 srt2 np2 => ?_⟩
      have es := (sorted_is_range (ks := [0, 1, 2]) (n := 3) perm2 srt2).mpr (by decide)
      subst es
      generalize g2 : upd _ p2 _ = G2
      have f2 : Ex G1 G2 := by rw [← g2]; exact Ex.new np2
      have k2 : G2 p2 = some (.lst (iv [0, 1, 2])) := by rw [← g2]; exact upd_same
      clear g2
      refine ⟨(by decide : 3 ≤ sizeLine), fun p3 np3 => ?_⟩
      generalize g3 : upd _ p3 _ = G3
      have f3 : Ex G2 G3 := by rw [← g3]; exact Ex.new np3
      have k3 : G3 p3 = some (.lst [.int 0, .int 1, .int 2]) := by rw [← g3]; exact upd_same
      clear g3
      refine ⟨_, _, dp_ints (ns := [0, 1, 2]) (sq_of ((f3) _ _ k2)), dp_ints (ns := [0, 1, 2]) (sq_of k3), shaped_ints _, shaped_ints _, _, rfl, itF (by rw [eqv_ints]; decide) ?_⟩
      exact ⟨rfl, e0.trans ((f1.trans (f2.trans f3)))⟩
    rintro _ G0 ⟨rfl, e0⟩
    refine ⟨fun σ' H' => ∃ (b : Addr) (xs : List V), σ' = [some v1, some v2, some v3, some (.ref b), none, none, none, none] ∧ Ex H H' ∧ H' b = some (.lst xs) ∧ xs.length = 4 ∧ ∀ x ∈ xs, CaseP H' x, ?_, ?_⟩
    · refine ⟨(by decide : 3 ≤ sizeLine), fun p1 np1 => ?_⟩
      generalize g1 : upd _ p1 _ = G1
      have f1 : Ex G0 G1 := by rw [← g1]; exact Ex.new np1
      have k1 : G1 p1 = some (.lst [.int 1, .int 0, .int 2]) := by rw [← g1]; exact upd_same
      clear g1
      refine ⟨(by decide : 2 ≤ sizeLine), fun p2 np2 => ?_⟩
      generalize g2 : upd _ p2 _ = G2
      have f2 : Ex G1 G2 := by rw [← g2]; exact Ex.new np2
      have k2 : G2 p2 = some (.tup [.ref p1, .bl true]) := by rw [← g2]; exact upd_same
      clear g2
      refine ⟨(by decide : 3 ≤ sizeLine), fun p3 np3 => ?_⟩
      generalize g3 : upd _ p3 _ = G3
      have f3 : Ex G2 G3 := by rw [← g3]; exact Ex.new np3
      have k3 : G3 p3 = some (.lst [.int 0, .int 2, .int 1]) := by rw [← g3]; exact upd_same
      clear g3
      refine ⟨(by decide : 2 ≤ sizeLine), fun p4 np4 => ?_⟩
      generalize g4 : upd _ p4 _ = G4
      have f4 : Ex G3 G4 := by rw [← g4]; exact Ex.new np4
      have k4 : G4 p4 = some (.tup [.ref p3, .bl false]) := by rw [← g4]; exact upd_same
      clear g4
      refine ⟨(by decide : 3 ≤ sizeLine), fun p5 np5 => ?_⟩
      generalize g5 : upd _ p5 _ = G5
      have f5 : Ex G4 G5 := by rw [← g5]; exact Ex.new np5
      have k5 : G5 p5 = some (.lst [.int 2, .int 1, .int 0]) := by rw [← g5]; exact upd_same
      clear g5
      refine ⟨(by decide : 2 ≤ sizeLine), fun p6 np6 => ?_⟩
      generalize g6 : upd _ p6 _ = G6
      have f6 : Ex G5 G6 := by rw [← g6]; exact Ex.new np6
      have k6 : G6 p6 = some (.tup [.ref p5, .bl true]) := by rw [← g6]; exact upd_same
      clear g6
      refine ⟨(by decide : 3 ≤ sizeLine), fun p7 np7 => ?_⟩
      generalize g7 : upd _ p7 _ = G7
      have f7 : Ex G6 G7 := by rw [← g7]; exact Ex.new np7
      have k7 : G7 p7 = some (.lst [.int 1, .int 2, .int 0]) := by rw [← g7]; exact upd_same
      clear g7
      refine ⟨(by decide : 2 ≤ sizeLine), fun p8 np8 => ?_⟩
      generalize g8 : upd _ p8 _ = G8
      have f8 : Ex G7 G8 := by rw [← g8]; exact Ex.new np8
      have k8 : G8 p8 = some (.tup [.ref p7, .bl true]) := by rw [← g8]; exact upd_same
      clear g8
      refine ⟨(by decide : 4 ≤ sizeLine), fun p9 np9 => ?_⟩
      generalize g9 : upd _ p9 _ = G9
      have f9 : Ex G8 G9 := by rw [← g9]; exact Ex.new np9
      have k9 : G9 p9 = some (.lst [.ref p2, .ref p4, .ref p6, .ref p8]) := by rw [← g9]; exact upd_same
      clear g9
      exact ⟨p9, _, rfl, e0.trans ((f1.trans (f2.trans (f3.trans (f4.trans (f5.trans (f6.trans (f7.trans (f8.trans f9))))))))), k9, rfl, allc (⟨p2, p1, _, [1, 0, 2], rfl, (f9 _ _ (f8 _ _ (f7 _ _ (f6 _ _ (f5 _ _ (f4 _ _ (f3 _ _ k2))))))), (f9 _ _ (f8 _ _ (f7 _ _ (f6 _ _ (f5 _ _ (f4 _ _ (f3 _ _ (f2 _ _ k1)))))))), by decide, by decide, by decide⟩)
        (allc (⟨p4, p3, _, [0, 2, 1], rfl, (f9 _ _ (f8 _ _ (f7 _ _ (f6 _ _ (f5 _ _ k4))))), (f9 _ _ (f8 _ _ (f7 _ _ (f6 _ _ (f5 _ _ (f4 _ _ k3)))))), by decide, by decide, by decide⟩)
        (allc (⟨p6, p5, _, [2, 1, 0], rfl, (f9 _ _ (f8 _ _ (f7 _ _ k6))), (f9 _ _ (f8 _ _ (f7 _ _ (f6 _ _ k5)))), by decide, by decide, by decide⟩)
        (allc (⟨p8, p7, _, [1, 2, 0], rfl, (f9 _ _ k8), (f9 _ _ (f8 _ _ k7)), by decide, by decide, by decide⟩)
        (alln))))⟩
    rintro _ G0 ⟨b0, xs0, rfl, e0, hb0, hl0, hx0⟩
    refine ⟨fun σ' H' => ∃ (b : Addr) (xs : List V), σ' = [some v1, some v2, some v3, some (.ref b), none, none, none, none] ∧ Ex H H' ∧ H' b = some (.lst xs) ∧ xs.length = 6 ∧ ∀ x ∈ xs, CaseP H' x, ?_, ?_⟩
    · refine ⟨_, rfl, (by decide : 3 ≤ sizeLine), fun p1 np1 => ?_⟩
      generalize g1 : upd _ p1 _ = G1
      have f1 : Ex G0 G1 := by rw [← g1]; exact Ex.new np1
      have k1 : G1 p1 = some (.lst [.int 0, .int 1, .int 2]) := by rw [← g1]; exact upd_same
      clear g1
      refine ⟨(by decide : 2 ≤ sizeLine), fun p2 np2 => ?_⟩
      generalize g2 : upd _ p2 _ = G2
      have f2 : Ex G1 G2 := by rw [← g2]; exact Ex.new np2
      have k2 : G2 p2 = some (.tup [.ref p1, .bl true]) := by rw [← g2]; exact upd_same
      clear g2
      refine ⟨(by decide : 3 ≤ sizeLine), fun p3 np3 => ?_⟩
      generalize g3 : upd _ p3 _ = G3
      have f3 : Ex G2 G3 := by rw [← g3]; exact Ex.new np3
      have k3 : G3 p3 = some (.lst [.int 2, .int 0, .int 1]) := by rw [← g3]; exact upd_same
      clear g3
      refine ⟨(by decide : 2 ≤ sizeLine), fun p4 np4 => ?_⟩
      generalize g4 : upd _ p4 _ = G4
      have f4 : Ex G3 G4 := by rw [← g4]; exact Ex.new np4
      have k4 : G4 p4 = some (.tup [.ref p3, .bl false]) := by rw [← g4]; exact upd_same
      clear g4
      refine ⟨(by decide : 2 ≤ sizeLine), fun p5 np5 => ?_⟩
      generalize g5 : upd _ p5 _ = G5
      have f5 : Ex G4 G5 := by rw [← g5]; exact Ex.new np5
      have k5 : G5 p5 = some (.lst [.ref p2, .ref p4]) := by rw [← g5]; exact upd_same
      clear g5
      refine ⟨b0, p5, xs0, _, rfl, rfl, ((f1.trans (f2.trans (f3.trans (f4.trans f5))))) _ _ hb0, k5, (by rw [hl0]; exact (by decide : 6 ≤ sizeLine)), fun pz npz => ?_⟩
      have fz := Ex.new (o := .lst (xs0 ++ [.ref p2, .ref p4])) npz
      have hall : ∀ x ∈ ([.ref p2, .ref p4] : List V), CaseP G5 x := allc (⟨p2, p1, _, [0, 1, 2], rfl, (f5 _ _ (f4 _ _ (f3 _ _ k2))), (f5 _ _ (f4 _ _ (f3 _ _ (f2 _ _ k1)))), by decide, by decide, by decide⟩)
        (allc (⟨p4, p3, _, [2, 0, 1], rfl, (f5 _ _ k4), (f5 _ _ (f4 _ _ k3)), by decide, by decide, by decide⟩)
        (alln))
      exact ⟨pz, _, rfl, e0.trans (((f1.trans (f2.trans (f3.trans (f4.trans f5))))).trans fz), upd_same, by rw [List.length_append, hl0]; rfl, fun x hx => (List.mem_append.mp hx).elim (fun h => (hx0 x h).mono (((f1.trans (f2.trans (f3.trans (f4.trans f5))))).trans fz)) (fun h => (hall x h).mono fz)⟩
    rintro _ G0 ⟨b0, xs0, rfl, e0, hb0, hl0, hx0⟩
    refine ⟨fun σ' H' => ∃ (y4 y5 : Option V), σ' = [some v1, some v2, some v3, some (.ref b0), y4, y5, none, none] ∧ Ex G0 H', ?_, ?_⟩
    · refine ⟨_, rfl, b0, rfl, ⟨_, sq_of hb0⟩, for_list (K := K) (a := b0) (xs := xs0) (fun i σ' H' => ∃ (y4 y5 : Option V), σ' = [some v1, some v2, some v3, some (.ref b0), y4, y5, none, none] ∧ Ex G0 H')
        ⟨_, _, rfl, Ex.refl _⟩ (fun i σ' H' _ ⟨_, _, _, e⟩ => sq_of (e _ _ hb0)) ?_ ?_⟩
      · rintro i x σ' H' hi ⟨y4, y5, rfl, e⟩
        obtain ⟨t, l, b, ks, rfl, ht, hl, ok1, ok5, hpk⟩ := (hx0 x (List.mem_of_getElem? hi)).mono e
        refine ⟨t, _, rfl, st_of ht, rfl, .ref l, _, rfl, .bl b, [], rfl, rfl, ?_⟩
        refine ⟨_, rfl, (by decide : 2 ≤ sizeLine), fun a1 na1 => ⟨(by decide : 1 ≤ sizeLine), fun a2 na2 => ?_⟩⟩
        have d1 := Ex.new (o := .tup [.ref l, .int 1]) na1
        have d2 := Ex.new (o := .lst [.ref a1]) na2
        have d12 := d1.trans d2
        refine ⟨3, .ref a2, [(ks, 1)], rfl, by decide, by decide, ⟨a2, _, rfl, sq_of upd_same, .cons ⟨a1, l, rfl, st_of (d2 _ _ upd_same), sq_of (d12 _ _ hl)⟩ .nil⟩, by show (okB 3 (ks, 1) && true) = true; rw [ok1]; rfl, show (1 : Nat) ≤ 1000 by decide, fun G1 g1 => ?_⟩
        refine ⟨_, rfl, rfl, _, rfl, itF (by show (!decide (V.bl (isPk ks && true) = V.bl b)) = false; rw [hpk, Bool.and_true, decide_eq_true rfl]; rfl) ?_⟩
        refine ⟨_, rfl, (by decide : 2 ≤ sizeLine), fun a3 na3 => ⟨(by decide : 1 ≤ sizeLine), fun a4 na4 => ?_⟩⟩
        have d3 := Ex.new (o := .tup [.ref l, .int 5]) na3
        have d4 := Ex.new (o := .lst [.ref a3]) na4
        have d34 := d3.trans d4
        refine ⟨3, .ref a4, [(ks, 5)], rfl, by decide, by decide, ⟨a4, _, rfl, sq_of upd_same, .cons ⟨a3, l, rfl, st_of (d4 _ _ upd_same), sq_of ((d12.trans (g1.trans d34)) _ _ hl)⟩ .nil⟩, by show (okB 3 (ks, 5) && true) = true; rw [ok5]; rfl, show (1 : Nat) ≤ 1000 by decide, fun G2 g2 => ?_⟩
        refine ⟨_, rfl, rfl, _, rfl, itF (by show decide (V.bl (!(isPk ks && true)) = V.bl b) = false; rw [hpk]; cases b <;> decide) ?_⟩
        exact ⟨_, _, rfl, e.trans (d12.trans (g1.trans (d34.trans g2)))⟩
      · rintro σ' H' ⟨y4, y5, rfl, e⟩
        exact ⟨_, _, rfl, e⟩
    rintro _ G0b ⟨y4, y5, rfl, e0b⟩
    have e0 := e0.trans e0b
    clear hb0 hx0 e0b
    refine ⟨fun σ' H' => σ' = [some v1, some v2, some v3, some (.ref b0), y4, y5, none, none] ∧ Ex H H', ?_, ?_⟩
    · refine ⟨(by decide : 0 ≤ sizeLine), fun p1 np1 => ?_⟩
      generalize g1 : upd _ p1 _ = G1
      have f1 : Ex G0b G1 := by rw [← g1]; exact Ex.new np1
      have k1 : G1 p1 = some (.lst []) := by rw [← g1]; exact upd_same
      clear g1
      refine ⟨1, _, ([] : List (List Nat × Int)), rfl, by decide, by decide, ⟨p1, _, rfl, sq_of k1, .nil⟩, by decide, by decide, fun G2 f2 => ⟨true, congrArg V.bl (by decide), ?_⟩⟩
      refine ⟨(by decide : 1 ≤ sizeLine), fun p3 np3 => ?_⟩
      generalize g3 : upd _ p3 _ = G3
      have f3 : Ex G2 G3 := by rw [← g3]; exact Ex.new np3
      have k3 : G3 p3 = some (.lst [.int 0]) := by rw [← g3]; exact upd_same
      clear g3
      refine ⟨(by decide : 2 ≤ sizeLine), fun p4 np4 => ?_⟩
      generalize g4 : upd _ p4 _ = G4
      have f4 : Ex G3 G4 := by rw [← g4]; exact Ex.new np4
      have k4 : G4 p4 = some (.tup [.ref p3, .int 9]) := by rw [← g4]; exact upd_same
      clear g4
      refine ⟨(by decide : 1 ≤ sizeLine), fun p5 np5 => ?_⟩
      generalize g5 : upd _ p5 _ = G5
      have f5 : Ex G4 G5 := by rw [← g5]; exact Ex.new np5
      have k5 : G5 p5 = some (.lst [.ref p4]) := by rw [← g5]; exact upd_same
      clear g5
      refine ⟨1, _, ([([0], 9)] : List (List Nat × Int)), rfl, by decide, by decide, ⟨p5, _, rfl, sq_of k5, (.cons ⟨p4, p3, rfl, st_of (f5 _ _ k4), sq_of (f5 _ _ (f4 _ _ k3))⟩ .nil)⟩, by decide, by decide, fun G6 f6 => ⟨true, congrArg V.bl (by decide), ?_⟩⟩
      refine ⟨(by decide : 3 ≤ sizeLine), fun p7 np7 => ?_⟩
      generalize g7 : upd _ p7 _ = G7
      have f7 : Ex G6 G7 := by rw [← g7]; exact Ex.new np7
      have k7 : G7 p7 = some (.lst [.int 0, .int 1, .int 2]) := by rw [← g7]; exact upd_same
      clear g7
      refine ⟨_, _, rfl, rfl, ⟨by decide, by decide, by decide⟩, (by decide : 2 ≤ sizeLine), fun p8 np8 => ?_⟩
      generalize g8 : upd _ p8 _ = G8
      have f8 : Ex G7 G8 := by rw [← g8]; exact Ex.new np8
      have k8 : G8 p8 = some (.tup [.ref p7, .int 1000000000000000000000000000000]) := by rw [← g8]; exact upd_same
      clear g8
      refine ⟨(by decide : 3 ≤ sizeLine), fun p9 np9 => ?_⟩
      generalize g9 : upd _ p9 _ = G9
      have f9 : Ex G8 G9 := by rw [← g9]; exact Ex.new np9
      have k9 : G9 p9 = some (.lst [.int 0, .int 2, .int 1]) := by rw [← g9]; exact upd_same
      clear g9
      refine ⟨(by decide : 2 ≤ sizeLine), fun p10 np10 => ?_⟩
      generalize g10 : upd _ p10 _ = G10
      have f10 : Ex G9 G10 := by rw [← g10]; exact Ex.new np10
      have k10 : G10 p10 = some (.tup [.ref p9, .int 1]) := by rw [← g10]; exact upd_same
      clear g10
      refine ⟨(by decide : 2 ≤ sizeLine), fun p11 np11 => ?_⟩
      generalize g11 : upd _ p11 _ = G11
      have f11 : Ex G10 G11 := by rw [← g11]; exact Ex.new np11
      have k11 : G11 p11 = some (.lst [.ref p8, .ref p10]) := by rw [← g11]; exact upd_same
      clear g11
      refine ⟨3, _, ([([0, 1, 2], 1000000000000000000000000000000), ([0, 2, 1], 1)] : List (List Nat × Int)), rfl, by decide, by decide, ⟨p11, _, rfl, sq_of k11, (.cons ⟨p8, p7, rfl, st_of (f11 _ _ (f10 _ _ (f9 _ _ k8))), sq_of (f11 _ _ (f10 _ _ (f9 _ _ (f8 _ _ k7))))⟩ (.cons ⟨p10, p9, rfl, st_of (f11 _ _ k10), sq_of (f11 _ _ (f10 _ _ k9))⟩ .nil))⟩, by decide, by decide, fun G12 f12 => ⟨false, congrArg V.bl (by decide), ?_⟩⟩
      exact ⟨rfl, e0.trans ((f1.trans (f2.trans (f3.trans (f4.trans (f5.trans (f6.trans (f7.trans (f8.trans (f9.trans (f10.trans (f11.trans f12))))))))))))⟩
    rintro _ G0 ⟨rfl, e0⟩
    refine ⟨fun σ' H' => ∃ (b : Addr) (xs : List V), σ' = [some v1, some v2, some v3, some (.ref b0), y4, y5, some (.ref b), none] ∧ Ex H H' ∧ H' b = some (.lst xs) ∧ xs.length = 2 ∧ ∀ x ∈ xs, CaseM K H' x, ?_, ?_⟩
    · refine ⟨(by decide : 0 ≤ sizeLine), fun p1 np1 => ?_⟩
      generalize g1 : upd _ p1 _ = G1
      have f1 : Ex G0 G1 := by rw [← g1]; exact Ex.new np1
      have k1 : G1 p1 = some (.lst []) := by rw [← g1]; exact upd_same
      clear g1
      refine ⟨(by decide : 2 ≤ sizeLine), fun p2 np2 => ?_⟩
      generalize g2 : upd _ p2 _ = G2
      have f2 : Ex G1 G2 := by rw [← g2]; exact Ex.new np2
      have k2 : G2 p2 = some (.tup [.ref p1, .int 0]) := by rw [← g2]; exact upd_same
      clear g2
      refine ⟨(by decide : 3 ≤ sizeLine), fun p3 np3 => ?_⟩
      generalize g3 : upd _ p3 _ = G3
      have f3 : Ex G2 G3 := by rw [← g3]; exact Ex.new np3
      have k3 : G3 p3 = some (.lst [.int 0, .int 1, .int 2]) := by rw [← g3]; exact upd_same
      clear g3
      refine ⟨(by decide : 2 ≤ sizeLine), fun p4 np4 => ?_⟩
      generalize g4 : upd _ p4 _ = G4
      have f4 : Ex G3 G4 := by rw [← g4]; exact Ex.new np4
      have k4 : G4 p4 = some (.tup [.ref p3, .int 1]) := by rw [← g4]; exact upd_same
      clear g4
      refine ⟨(by decide : 3 ≤ sizeLine), fun p5 np5 => ?_⟩
      generalize g5 : upd _ p5 _ = G5
      have f5 : Ex G4 G5 := by rw [← g5]; exact Ex.new np5
      have k5 : G5 p5 = some (.lst [.int 2, .int 1, .int 0]) := by rw [← g5]; exact upd_same
      clear g5
      refine ⟨(by decide : 2 ≤ sizeLine), fun p6 np6 => ?_⟩
      generalize g6 : upd _ p6 _ = G6
      have f6 : Ex G5 G6 := by rw [← g6]; exact Ex.new np6
      have k6 : G6 p6 = some (.tup [.ref p5, .int 1]) := by rw [← g6]; exact upd_same
      clear g6
      refine ⟨(by decide : 2 ≤ sizeLine), fun p7 np7 => ?_⟩
      generalize g7 : upd _ p7 _ = G7
      have f7 : Ex G6 G7 := by rw [← g7]; exact Ex.new np7
      have k7 : G7 p7 = some (.lst [.ref p4, .ref p6]) := by rw [← g7]; exact upd_same
      clear g7
      refine ⟨(by decide : 2 ≤ sizeLine), fun p8 np8 => ?_⟩
      generalize g8 : upd _ p8 _ = G8
      have f8 : Ex G7 G8 := by rw [← g8]; exact Ex.new np8
      have k8 : G8 p8 = some (.tup [.ref p7, .int 0]) := by rw [← g8]; exact upd_same
      clear g8
      refine ⟨(by decide : 2 ≤ sizeLine), fun p9 np9 => ?_⟩
      generalize g9 : upd _ p9 _ = G9
      have f9 : Ex G8 G9 := by rw [← g9]; exact Ex.new np9
      have k9 : G9 p9 = some (.lst [.ref p2, .ref p8]) := by rw [← g9]; exact upd_same
      clear g9
      exact ⟨p9, _, rfl, e0.trans ((f1.trans (f2.trans (f3.trans (f4.trans (f5.trans (f6.trans (f7.trans (f8.trans f9))))))))), k9, rfl, allc (⟨p2, _, ([] : List (List Nat × Int)), 0, rfl, (f9 _ _ (f8 _ _ (f7 _ _ (f6 _ _ (f5 _ _ (f4 _ _ (f3 _ _ k2))))))), ⟨p1, _, rfl, sq_of (f9 _ _ (f8 _ _ (f7 _ _ (f6 _ _ (f5 _ _ (f4 _ _ (f3 _ _ (f2 _ _ k1)))))))), .nil⟩, by decide, by decide, by decide, by decide, by decide +kernel, by decide +kernel⟩)
        (allc (⟨p8, _, ([([0, 1, 2], 1), ([2, 1, 0], 1)] : List (List Nat × Int)), 0, rfl, (f9 _ _ k8), ⟨p7, _, rfl, sq_of (f9 _ _ (f8 _ _ k7)), (.cons ⟨p4, p3, rfl, st_of (f9 _ _ (f8 _ _ (f7 _ _ (f6 _ _ (f5 _ _ k4))))), sq_of (f9 _ _ (f8 _ _ (f7 _ _ (f6 _ _ (f5 _ _ (f4 _ _ k3))))))⟩ (.cons ⟨p6, p5, rfl, st_of (f9 _ _ (f8 _ _ (f7 _ _ k6))), sq_of (f9 _ _ (f8 _ _ (f7 _ _ (f6 _ _ k5))))⟩ .nil))⟩, by decide, by decide, by decide, by decide, by decide +kernel, by decide +kernel⟩)
        (alln))⟩
    rintro _ G0 ⟨bh, xs1, rfl, e0, hbh, hl1, hx1⟩
    refine ⟨fun σ' H' => ∃ (b : Addr) (xs : List V), σ' = [some v1, some v2, some v3, some (.ref b0), y4, y5, some (.ref b), none] ∧ Ex H H' ∧ H' b = some (.lst xs) ∧ xs.length = 3 ∧ ∀ x ∈ xs, CaseM K H' x, ?_, ?_⟩
    · refine ⟨_, rfl, (by decide : 3 ≤ sizeLine), fun p1 np1 => ?_⟩
      generalize g1 : upd _ p1 _ = G1
      have f1 : Ex G0 G1 := by rw [← g1]; exact Ex.new np1
      have k1 : G1 p1 = some (.lst [.int 1, .int 0, .int 2]) := by rw [← g1]; exact upd_same
      clear g1
      refine ⟨(by decide : 2 ≤ sizeLine), fun p2 np2 => ?_⟩
      generalize g2 : upd _ p2 _ = G2
      have f2 : Ex G1 G2 := by rw [← g2]; exact Ex.new np2
      have k2 : G2 p2 = some (.tup [.ref p1, .int 1]) := by rw [← g2]; exact upd_same
      clear g2
      refine ⟨(by decide : 3 ≤ sizeLine), fun p3 np3 => ?_⟩
      generalize g3 : upd _ p3 _ = G3
      have f3 : Ex G2 G3 := by rw [← g3]; exact Ex.new np3
      have k3 : G3 p3 = some (.lst [.int 2, .int 1, .int 0]) := by rw [← g3]; exact upd_same
      clear g3
      refine ⟨(by decide : 2 ≤ sizeLine), fun p4 np4 => ?_⟩
      generalize g4 : upd _ p4 _ = G4
      have f4 : Ex G3 G4 := by rw [← g4]; exact Ex.new np4
      have k4 : G4 p4 = some (.tup [.ref p3, .int 2]) := by rw [← g4]; exact upd_same
      clear g4
      refine ⟨(by decide : 2 ≤ sizeLine), fun p5 np5 => ?_⟩
      generalize g5 : upd _ p5 _ = G5
      have f5 : Ex G4 G5 := by rw [← g5]; exact Ex.new np5
      have k5 : G5 p5 = some (.lst [.ref p2, .ref p4]) := by rw [← g5]; exact upd_same
      clear g5
      refine ⟨(by decide : 2 ≤ sizeLine), fun p6 np6 => ?_⟩
      generalize g6 : upd _ p6 _ = G6
      have f6 : Ex G5 G6 := by rw [← g6]; exact Ex.new np6
      have k6 : G6 p6 = some (.tup [.ref p5, .int 2]) := by rw [← g6]; exact upd_same
      clear g6
      refine ⟨(by decide : 1 ≤ sizeLine), fun p7 np7 => ?_⟩
      generalize g7 : upd _ p7 _ = G7
      have f7 : Ex G6 G7 := by rw [← g7]; exact Ex.new np7
      have k7 : G7 p7 = some (.lst [.ref p6]) := by rw [← g7]; exact upd_same
      clear g7
      refine ⟨bh, p7, xs1, _, rfl, rfl, ((f1.trans (f2.trans (f3.trans (f4.trans (f5.trans (f6.trans f7))))))) _ _ hbh, k7, (by rw [hl1]; exact (by decide : 3 ≤ sizeLine)), fun pz npz => ?_⟩
      have fz := Ex.new (o := .lst (xs1 ++ [.ref p6])) npz
      have hall : ∀ x ∈ ([.ref p6] : List V), CaseM K G7 x := allc (⟨p6, _, ([([1, 0, 2], 1), ([2, 1, 0], 2)] : List (List Nat × Int)), 2, rfl, (f7 _ _ k6), ⟨p5, _, rfl, sq_of (f7 _ _ (f6 _ _ k5)), (.cons ⟨p2, p1, rfl, st_of (f7 _ _ (f6 _ _ (f5 _ _ (f4 _ _ (f3 _ _ k2))))), sq_of (f7 _ _ (f6 _ _ (f5 _ _ (f4 _ _ (f3 _ _ (f2 _ _ k1))))))⟩ (.cons ⟨p4, p3, rfl, st_of (f7 _ _ (f6 _ _ (f5 _ _ k4))), sq_of (f7 _ _ (f6 _ _ (f5 _ _ (f4 _ _ k3))))⟩ .nil))⟩, by decide, by decide, by decide, by decide, by decide +kernel, by decide +kernel⟩)
        (alln)
      exact ⟨pz, _, rfl, e0.trans (((f1.trans (f2.trans (f3.trans (f4.trans (f5.trans (f6.trans f7))))))).trans fz), upd_same, by rw [List.length_append, hl1]; rfl, fun x hx => (List.mem_append.mp hx).elim (fun h => (hx1 x h).mono (((f1.trans (f2.trans (f3.trans (f4.trans (f5.trans (f6.trans f7))))))).trans fz)) (fun h => (hall x h).mono fz)⟩
    rintro _ G0 ⟨bh, xs1, rfl, e0, hbh, hl1, hx1⟩
    refine ⟨fun σ' H' => ∃ (b : Addr) (xs : List V), σ' = [some v1, some v2, some v3, some (.ref b0), y4, y5, some (.ref b), none] ∧ Ex H H' ∧ H' b = some (.lst xs) ∧ xs.length = 4 ∧ ∀ x ∈ xs, CaseM K H' x, ?_, ?_⟩
    · refine ⟨_, rfl, (by decide : 3 ≤ sizeLine), fun p1 np1 => ?_⟩
      generalize g1 : upd _ p1 _ = G1
      have f1 : Ex G0 G1 := by rw [← g1]; exact Ex.new np1
      have k1 : G1 p1 = some (.lst [.int 2, .int 1, .int 0]) := by rw [← g1]; exact upd_same
      clear g1
      refine ⟨(by decide : 2 ≤ sizeLine), fun p2 np2 => ?_⟩
      generalize g2 : upd _ p2 _ = G2
      have f2 : Ex G1 G2 := by rw [← g2]; exact Ex.new np2
      have k2 : G2 p2 = some (.tup [.ref p1, .int 1]) := by rw [← g2]; exact upd_same
      clear g2
      refine ⟨(by decide : 3 ≤ sizeLine), fun p3 np3 => ?_⟩
      generalize g3 : upd _ p3 _ = G3
      have f3 : Ex G2 G3 := by rw [← g3]; exact Ex.new np3
      have k3 : G3 p3 = some (.lst [.int 1, .int 2, .int 0]) := by rw [← g3]; exact upd_same
      clear g3
      refine ⟨(by decide : 2 ≤ sizeLine), fun p4 np4 => ?_⟩
      generalize g4 : upd _ p4 _ = G4
      have f4 : Ex G3 G4 := by rw [← g4]; exact Ex.new np4
      have k4 : G4 p4 = some (.tup [.ref p3, .int 1]) := by rw [← g4]; exact upd_same
      clear g4
      refine ⟨(by decide : 3 ≤ sizeLine), fun p5 np5 => ?_⟩
      generalize g5 : upd _ p5 _ = G5
      have f5 : Ex G4 G5 := by rw [← g5]; exact Ex.new np5
      have k5 : G5 p5 = some (.lst [.int 2, .int 1, .int 0]) := by rw [← g5]; exact upd_same
      clear g5
      refine ⟨_, _, rfl, rfl, ⟨by decide, by decide, by decide⟩, (by decide : 2 ≤ sizeLine), fun p6 np6 => ?_⟩
      generalize g6 : upd _ p6 _ = G6
      have f6 : Ex G5 G6 := by rw [← g6]; exact Ex.new np6
      have k6 : G6 p6 = some (.tup [.ref p5, .int 1000000000000000000000000000000]) := by rw [← g6]; exact upd_same
      clear g6
      refine ⟨(by decide : 3 ≤ sizeLine), fun p7 np7 => ?_⟩
      generalize g7 : upd _ p7 _ = G7
      have f7 : Ex G6 G7 := by rw [← g7]; exact Ex.new np7
      have k7 : G7 p7 = some (.lst [.ref p2, .ref p4, .ref p6]) := by rw [← g7]; exact upd_same
      clear g7
      refine ⟨(by decide : 2 ≤ sizeLine), fun p8 np8 => ?_⟩
      generalize g8 : upd _ p8 _ = G8
      have f8 : Ex G7 G8 := by rw [← g8]; exact Ex.new np8
      have k8 : G8 p8 = some (.tup [.ref p7, .int 2]) := by rw [← g8]; exact upd_same
      clear g8
      refine ⟨(by decide : 1 ≤ sizeLine), fun p9 np9 => ?_⟩
      generalize g9 : upd _ p9 _ = G9
      have f9 : Ex G8 G9 := by rw [← g9]; exact Ex.new np9
      have k9 : G9 p9 = some (.lst [.ref p8]) := by rw [← g9]; exact upd_same
      clear g9
      refine ⟨bh, p9, xs1, _, rfl, rfl, ((f1.trans (f2.trans (f3.trans (f4.trans (f5.trans (f6.trans (f7.trans (f8.trans f9))))))))) _ _ hbh, k9, (by rw [hl1]; exact (by decide : 4 ≤ sizeLine)), fun pz npz => ?_⟩
      have fz := Ex.new (o := .lst (xs1 ++ [.ref p8])) npz
      have hall : ∀ x ∈ ([.ref p8] : List V), CaseM K G9 x := allc (⟨p8, _, ([([2, 1, 0], 1), ([1, 2, 0], 1), ([2, 1, 0], 1000000000000000000000000000000)] : List (List Nat × Int)), 2, rfl, (f9 _ _ k8), ⟨p7, _, rfl, sq_of (f9 _ _ (f8 _ _ k7)), (.cons ⟨p2, p1, rfl, st_of (f9 _ _ (f8 _ _ (f7 _ _ (f6 _ _ (f5 _ _ (f4 _ _ (f3 _ _ k2))))))), sq_of (f9 _ _ (f8 _ _ (f7 _ _ (f6 _ _ (f5 _ _ (f4 _ _ (f3 _ _ (f2 _ _ k1))))))))⟩ (.cons ⟨p4, p3, rfl, st_of (f9 _ _ (f8 _ _ (f7 _ _ (f6 _ _ (f5 _ _ k4))))), sq_of (f9 _ _ (f8 _ _ (f7 _ _ (f6 _ _ (f5 _ _ (f4 _ _ k3))))))⟩ (.cons ⟨p6, p5, rfl, st_of (f9 _ _ (f8 _ _ (f7 _ _ k6))), sq_of (f9 _ _ (f8 _ _ (f7 _ _ (f6 _ _ k5))))⟩ .nil)))⟩, by decide, by decide, by decide, by decide, by decide +kernel, by decide +kernel⟩)
        (alln)
      exact ⟨pz, _, rfl, e0.trans (((f1.trans (f2.trans (f3.trans (f4.trans (f5.trans (f6.trans (f7.trans (f8.trans f9))))))))).trans fz), upd_same, by rw [List.length_append, hl1]; rfl, fun x hx => (List.mem_append.mp hx).elim (fun h => (hx1 x h).mono (((f1.trans (f2.trans (f3.trans (f4.trans (f5.trans (f6.trans (f7.trans (f8.trans f9))))))))).trans fz)) (fun h => (hall x h).mono fz)⟩
    rintro _ G0 ⟨bh, xs1, rfl, e0, hbh, hl1, hx1⟩
    refine ⟨_, rfl, bh, rfl, ⟨_, sq_of hbh⟩, fun D hD => ?_⟩
    refine lc_vals (walk_list (K := K) (a := bh) (xs := xs1)) hD (by omega) (fun Hx e => sq_of (e _ _ hbh)) (fun _ => V.bl true) ?_ ?_
    · rintro j x Ha Ha' hj ea ⟨rfl, hx⟩ Qc hq
      obtain ⟨t, u, bs, w, rfl, ht, hB, hok, hpk, hbl, hw3, hw1, hw2⟩ := (hx1 x (List.mem_of_getElem? hx)).mono ea
      refine ⟨t, _, rfl, st_of ht, rfl, u, _, rfl, .int (w : Nat), [], rfl, rfl, rfl, ?_⟩
      refine ⟨_, rfl, 3, u, bs, rfl, by decide, by decide, hB, hok, hpk, hbl, fun G1 w' g1 h3 h1 h2 => ?_⟩
      have : w' = w := least_uniq (P := fun w => wholeOf bs ≤ 2 * held bs w) h1 hw1 (fun v hv => by have := h2 v hv; omega) (fun v hv => by have := hw2 v hv; omega)
      subst this
      refine ⟨_, rfl, rfl, ?_⟩
      rw [decide_eq_true rfl]
      exact hq _ g1
    · intro H2 e2 hD2
      rw [map_const_bl] at hD2
      refine ⟨D, _, rfl, sq_of hD2, ?_⟩
      rw [all_const_true]
      exact q _ (e0.trans e2)
end
end Hc
namespace Hc
open PySem PySem.Spec PyProof.Rows L2 Evl
section
variable {P : Program} {w : World} {K : PySem.W.Frag} {mg : Str → Option Value} {base : Heap}
theorem fore_ring {CU CR : Addr} {H H2 : Hp} {x : Addr} {n : Nat} {f : Nat → Nat → Int} (h : Fore CU CR H H2 x n f) (hb : ((List.range n).all fun w => (List.range n).any fun j => decide (f w j < 0)) = true) : ∃ (dx p : Addr) (ks : List Nat), H2 x = some (.ins CR dx [("way", .ref p)]) := by
  cases h with
  | unb dx w hx hw hu hno =>
    obtain ⟨j, hj, hn⟩ := List.any_eq_true.mp (List.all_eq_true.mp hb w (List.mem_range.mpr hw))
    have := hu j (List.mem_range.mp hj)
    have := of_decide_eq_true hn
    omega
  | ring dx p ks np hx hp hno hsh hl => exact ⟨dx, p, ks, hx⟩
theorem fore_who {CU CR : Addr} {H H2 : Hp} {x : Addr} {n : Nat} {f : Nat → Nat → Int} (w0 : Nat) (h : Fore CU CR H H2 x n f) (hb : (decide (w0 < n) && ((List.range n).all (fun j => decide (0 ≤ f w0 j)) && (List.range w0).all fun u => (List.range n).any fun j => decide (f u j < 0))) = true) : ∃ dx, H2 x = some (.ins CU dx [("who", .int (w0 : Int))]) := by
  rw [Bool.and_eq_true, Bool.and_eq_true] at hb
  obtain ⟨b1, b2, b3⟩ := hb
  have hw0 := of_decide_eq_true b1
  have all0 : ∀ j, j < n → 0 ≤ f w0 j := fun j hj => of_decide_eq_true (List.all_eq_true.mp b2 j (List.mem_range.mpr hj))
  cases h with
  | unb dx w hx hw hu hno =>
    rcases Nat.lt_trichotomy w w0 with c | c | c
    · obtain ⟨j, hj, hn⟩ := List.any_eq_true.mp (List.all_eq_true.mp b3 w (List.mem_range.mpr c))
      have := hu j (List.mem_range.mp hj)
      have := of_decide_eq_true hn
      omega
    · subst c
      exact ⟨dx, hx⟩
    · obtain ⟨j, hj, hn⟩ := hno w0 c
      have := all0 j hj
      omega
  | ring dx p ks np hx hp hno hsh hl =>
    obtain ⟨j, hj, hn⟩ := hno w0 hw0
    have := all0 j hj
    omega
theorem ok_law_rings_promises (T : Tx K mg) : FnOk P w K mg base CX0 7 T.f_law_rings_promises T.d_law_rings_promises [] spProm := by
  refine T.F_law_rings_promises.ok sc_law_rings_promises (fun vs H Q E h => ?_) (fun cdv A outer s H vs Q E hr h => ?_)
  · obtain ⟨rfl, _⟩ := h
    rfl
  · obtain ⟨rfl, q⟩ := h
    refine ⟨_, Evl.pss_cut (ps_par (by rfl) (i := 0) (j := 1) sc_law_rings_promises.nd rfl rfl (by decide) rfl rfl (pa_cons (pe_lst (pa_cons (pe_lst (pa_cons pe_int (pa_cons pe_int (pa_cons (pe_un un_neg pe_int) pa_nil)))) (pa_cons (pe_lst (pa_cons (pe_un un_neg pe_int) (pa_cons pe_int (pa_cons pe_int pa_nil)))) (pa_cons (pe_lst (pa_cons pe_int (pa_cons (pe_un un_neg pe_int) (pa_cons pe_int pa_nil)))) pa_nil)))) (pa_cons (pe_lst (pa_cons (pe_lst (pa_cons pe_int (pa_cons pe_int (pa_cons (pe_un un_neg pe_int) pa_nil)))) (pa_cons (pe_lst (pa_cons (pe_un un_neg pe_int) (pa_cons pe_int (pa_cons pe_int pa_nil)))) (pa_cons (pe_lst (pa_cons pe_int (pa_cons (pe_un un_neg pe_int) (pa_cons pe_int pa_nil)))) pa_nil)))) pa_nil)) (by rfl))
      (Evl.pss_cut (ps_set (i := 2) sc_law_rings_promises.nd rfl (Or.inl rfl) (pe_op op_cat (pe_lc (own := [("_law_row", 8)]) rfl sc_law_rings_promises.nd (piL K (pv 0)) (blkOk_by (own := [("_law_row", 8)]) (N := ["_law_ring", "_law_chain", "_law_over", "_law_cases", "_law_way", "_law_table", "_law_due", "_law_who", "_law_row"]) (sc := defScope s_law_rings_promises) (by decide +kernel)) (fun _ _ _ _ _ => (pg_name (i := 8) sc_law_rings_promises.nd rfl (by first | exact Or.inl rfl | exact Or.inr rfl))) (fun _ _ _ _ _ => pts_nil) (fun _ _ _ _ _ => (pe_op op_cat (pv 8) (pe_lst (pa_cons (pe_un un_neg pe_int) pa_nil))))) (pe_lst (pa_cons (pe_lst (pa_cons pe_int (pa_cons pe_int (pa_cons pe_int (pa_cons pe_int pa_nil))))) pa_nil))))
      (Evl.pss_cut (ps_set (i := 3) sc_law_rings_promises.nd rfl (Or.inl rfl) (pe_lst (pa_cons (pe_tup (pa_cons (pe_lst (pa_cons pe_int (pa_cons pe_int (pa_cons pe_int pa_nil)))) (pa_cons (pv 0) (pa_cons pe_bl pa_nil)))) (pa_cons (pe_tup (pa_cons (pe_lst (pa_cons pe_int (pa_cons pe_int (pa_cons pe_int pa_nil)))) (pa_cons (pv 0) (pa_cons pe_bl pa_nil)))) (pa_cons (pe_tup (pa_cons (pe_lst (pa_cons pe_int (pa_cons pe_int (pa_cons pe_int pa_nil)))) (pa_cons (pv 0) (pa_cons pe_bl pa_nil)))) pa_nil)))))
      (Evl.pss_cut (ps_set (i := 3) sc_law_rings_promises.nd rfl (Or.inl rfl) (pe_op op_cat (pv 3) (pe_lst (pa_cons (pe_tup (pa_cons (pe_lst (pa_cons pe_int (pa_cons pe_int pa_nil))) (pa_cons (pv 0) (pa_cons pe_bl pa_nil)))) (pa_cons (pe_tup (pa_cons (pe_lst (pa_cons pe_int pa_nil)) (pa_cons (pv 0) (pa_cons pe_bl pa_nil)))) (pa_cons (pe_tup (pa_cons (pe_lst pa_nil) (pa_cons (pv 0) (pa_cons pe_bl pa_nil)))) (pa_cons (pe_tup (pa_cons (pe_lst (pa_cons pe_int (pa_cons pe_int (pa_cons pe_int pa_nil)))) (pa_cons (pv 2) (pa_cons pe_bl pa_nil)))) pa_nil)))))))
      (Evl.pss_cut (ps_set (i := 3) sc_law_rings_promises.nd rfl (Or.inl rfl) (pe_op op_cat (pv 3) (pe_lst (pa_cons (pe_tup (pa_cons (pe_lst (pa_cons pe_int (pa_cons pe_int (pa_cons pe_int (pa_cons pe_int pa_nil))))) (pa_cons (pv 0) (pa_cons pe_bl pa_nil)))) (pa_cons (pe_tup (pa_cons (pe_lst (pa_cons pe_int (pa_cons pe_int (pa_cons pe_int pa_nil)))) (pa_cons (pv 0) (pa_cons pe_bl pa_nil)))) (pa_cons (pe_tup (pa_cons (pe_lst (pa_cons pe_int (pa_cons pe_int pa_nil))) (pa_cons (pe_lst (pa_cons (pe_lst (pa_cons pe_int (pa_cons pe_int pa_nil))) (pa_cons (pe_lst (pa_cons pe_int (pa_cons pe_int pa_nil))) pa_nil))) (pa_cons pe_bl pa_nil)))) pa_nil))))))
      (Evl.pss_cut (ps_for PassesOwn.never rfl (piL K (pv 3)) (pgT K (n := 3) (pgs_cons (pg_name (i := 4) sc_law_rings_promises.nd rfl (by first | exact Or.inl rfl | exact Or.inr rfl)) (pgs_cons (pg_name (i := 5) sc_law_rings_promises.nd rfl (by first | exact Or.inl rfl | exact Or.inr rfl)) (pgs_cons (pg_name (i := 6) sc_law_rings_promises.nd rfl (by first | exact Or.inl rfl | exact Or.inr rfl)) pgs_nil))))
        (pss_one (ps_if (pt_cmpR op_ne ((pe_meth (pe_make T.M_Ring (ok_Ring__init T) (hr.mono (by decide)) (by rfl) T.g_Ring (b_Ring__init T) .nil pass0 (pa_cons (pv 4) pa_nil)) T.C_Ring T.S_Ring (ok_Ring_shows T) (hr.mono (by decide)) (b_Ring_shows T) .nil pass0 (pa_cons (pv 5) pa_nil))) (pv 6) (nomark _)) (pss_one (ps_ret pe_bl)) (pss_nil))))
      (Evl.pss_cut (ps_set (i := 3) sc_law_rings_promises.nd rfl (Or.inl rfl) (pe_lst (pa_cons (pe_tup (pa_cons pe_int (pa_cons (pe_lst (pa_cons (pe_lst (pa_cons pe_int pa_nil)) pa_nil)) (pa_cons pe_bl pa_nil)))) (pa_cons (pe_tup (pa_cons pe_int (pa_cons (pe_lst (pa_cons (pe_lst (pa_cons pe_int (pa_cons pe_int pa_nil))) (pa_cons (pe_lst (pa_cons pe_int (pa_cons pe_int pa_nil))) pa_nil))) (pa_cons pe_bl pa_nil)))) (pa_cons (pe_tup (pa_cons pe_int (pa_cons (pe_lst (pa_cons (pe_lst (pa_cons pe_int (pa_cons pe_int pa_nil))) (pa_cons (pe_lst (pa_cons pe_int (pa_cons pe_int pa_nil))) pa_nil))) (pa_cons pe_bl pa_nil)))) pa_nil)))))
      (Evl.pss_cut (ps_set (i := 3) sc_law_rings_promises.nd rfl (Or.inl rfl) (pe_op op_cat (pv 3) (pe_lst (pa_cons (pe_tup (pa_cons pe_int (pa_cons (pv 0) (pa_cons pe_bl pa_nil)))) (pa_cons (pe_tup (pa_cons pe_int (pa_cons (pv 2) (pa_cons pe_bl pa_nil)))) (pa_cons (pe_tup (pa_cons pe_int (pa_cons (pv 2) (pa_cons pe_bl pa_nil)))) (pa_cons (pe_tup (pa_cons (pe_un un_neg pe_int) (pa_cons (pv 2) (pa_cons pe_bl pa_nil)))) (pa_cons (pe_tup (pa_cons pe_int (pa_cons (pv 2) (pa_cons pe_bl pa_nil)))) pa_nil))))))))
      (Evl.pss_cut (ps_for PassesOwn.never rfl (piL K (pv 3)) (pgT K (n := 3) (pgs_cons (pg_name (i := 7) sc_law_rings_promises.nd rfl (by first | exact Or.inl rfl | exact Or.inr rfl)) (pgs_cons (pg_name (i := 5) sc_law_rings_promises.nd rfl (by first | exact Or.inl rfl | exact Or.inr rfl)) (pgs_cons (pg_name (i := 6) sc_law_rings_promises.nd rfl (by first | exact Or.inl rfl | exact Or.inr rfl)) pgs_nil))))
        (pss_one (ps_if (pt_cmpR op_ne ((pe_meth (pe_make T.M_Unbeaten (ok_Unbeaten__init T) (hr.mono (by decide)) (by rfl) T.g_Unbeaten (b_Unbeaten__init T) .nil pass0 (pa_cons (pv 7) pa_nil)) T.C_Unbeaten T.S_Unbeaten (ok_Unbeaten_shows T) (hr.mono (by decide)) (b_Unbeaten_shows T) .nil pass0 (pa_cons (pv 5) pa_nil))) (pv 6) (nomark _)) (pss_one (ps_ret pe_bl)) (pss_nil))))
      (Evl.pss_cut (ps_if (PW.pt (pw_or (pt_not (pt_val (pe_callB (isiK K) (by rfl) T.n_isinstance PyProof.Rows.boot_isinstance (pa_cons (pe_call (ok_foremost T) (hr.mono (by decide)) (by rfl) T.g_foremost T.F_foremost.kp (b_foremost T) .nil pass0 (pa_cons (pv 0) pa_nil)) (pa_cons (pe_glob (v := .ref T.c_Ring) (by rfl) T.g_Ring rfl) pa_nil))))) (pw_or (pt_cmpR op_ne (fldK K (pe_call (ok_foremost T) (hr.mono (by decide)) (by rfl) T.g_foremost T.F_foremost.kp (b_foremost T) .nil pass0 (pa_cons (pv 2) pa_nil))) pe_int (nomark _)) (pw_or1 (pt_cmpR op_ne (fldK K (pe_call (ok_foremost T) (hr.mono (by decide)) (by rfl) T.g_foremost T.F_foremost.kp (b_foremost T) .nil pass0 (pa_cons (pe_lst (pa_cons (pe_lst (pa_cons pe_int pa_nil)) pa_nil)) pa_nil))) pe_int (nomark _)))))) (pss_one (ps_ret pe_bl)) (pss_nil))
      (Evl.pss_cut (ps_if (pt_not (pt_val (pe_callB (isiK K) (by rfl) T.n_isinstance PyProof.Rows.boot_isinstance (pa_cons (pe_call (ok_foremost T) (hr.mono (by decide)) (by rfl) T.g_foremost T.F_foremost.kp (b_foremost T) .nil pass0 (pa_cons (pe_lst (pa_cons (pe_lst (pa_cons pe_int (pa_cons pe_int pa_nil))) (pa_cons (pe_lst (pa_cons pe_int (pa_cons pe_int pa_nil))) pa_nil))) pa_nil)) (pa_cons (pe_glob (v := .ref T.c_Unbeaten) (by rfl) T.g_Unbeaten rfl) pa_nil))))) (pss_one (ps_ret pe_bl)) (pss_nil))
      (Evl.pss_cut (ps_if (PW.pt (pw_or (pt_cmpR (neDK K hr.units) (pe_call (ok_tops T) (hr.mono (by decide)) (by rfl) T.g_tops T.F_tops.kp (b_tops T) .nil pass0 (pa_cons (pv 0) pa_nil)) (pe_lst (pa_cons pe_int (pa_cons pe_int (pa_cons pe_int pa_nil)))) (nomark _)) (pw_or (pt_cmpR (neDK K hr.units) (pe_call (ok_tops T) (hr.mono (by decide)) (by rfl) T.g_tops T.F_tops.kp (b_tops T) .nil pass0 (pa_cons (pv 2) pa_nil)) (pe_lst (pa_cons pe_int pa_nil)) (nomark _)) (pw_or (pt_cmpR (neDK K hr.units) (pe_call (ok_tops T) (hr.mono (by decide)) (by rfl) T.g_tops T.F_tops.kp (b_tops T) .nil pass0 (pa_cons (pe_lst (pa_cons (pe_lst (pa_cons pe_int (pa_cons pe_int pa_nil))) (pa_cons (pe_lst (pa_cons pe_int (pa_cons pe_int pa_nil))) pa_nil))) pa_nil)) (pe_lst (pa_cons pe_int (pa_cons pe_int pa_nil))) (nomark _)) (pw_or1 (pt_cmpR (neDK K hr.units) (pe_call (ok_tops T) (hr.mono (by decide)) (by rfl) T.g_tops T.F_tops.kp (b_tops T) .nil pass0 (pa_cons (pe_lst (pa_cons (pe_lst (pa_cons pe_int pa_nil)) pa_nil)) pa_nil)) (pe_lst (pa_cons pe_int pa_nil)) (nomark _))))))) (pss_one (ps_ret pe_bl)) (pss_nil))
      (Evl.pss_cut (ps_if (pt_cmpR (neDK K hr.units) (pe_call (ok_tops T) (hr.mono (by decide)) (by rfl) T.g_tops T.F_tops.kp (b_tops T) .nil pass0 (pa_cons (pe_lst (pa_cons (pe_lst (pa_cons pe_int (pa_cons pe_int pa_nil))) (pa_cons (pe_lst (pa_cons (pe_un un_neg pe_int) (pa_cons pe_int pa_nil))) pa_nil))) pa_nil)) (pe_lst (pa_cons pe_int pa_nil)) (nomark _)) (pss_one (ps_ret pe_bl)) (pss_nil))
      (pss_one (ps_ret (pe_call (ok_law_chains_promises T) (hr.mono (by decide)) (by rfl) T.g_law_chains_promises T.F_law_chains_promises.kp (b_law_chains_promises T) .nil pass0 (pa_cons (pv 0) (pa_cons (pv 1) (pa_cons (pv 2) pa_nil)))))))))))))))))), ?_⟩
    refine ⟨fun σ' H' => ∃ (t r1 r2 r3 : Addr) (v2 : V), σ' = [some (.ref t), some v2, none, none, none, none, none, none, none] ∧ Ex H H' ∧ H' t = some (.lst [.ref r1, .ref r2, .ref r3]) ∧ H' r1 = some (.lst (iv [0, 1, -1])) ∧ H' r2 = some (.lst (iv [-1, 0, 1])) ∧ H' r3 = some (.lst (iv [1, -1, 0])) ∧ TabR K H' v2 3 (litF chainL), ?_, ?_⟩
    · refine ⟨_, rfl, (by decide : 3 ≤ sizeLine), fun p1 np1 => ?_⟩
      generalize g1 : upd _ p1 _ = G1
      have f1 : Ex H G1 := by rw [← g1]; exact Ex.new np1
      have k1 : G1 p1 = some (.lst [.int 0, .int 1, .int (-1)]) := by rw [← g1]; exact upd_same
      clear g1
      refine ⟨_, rfl, (by decide : 3 ≤ sizeLine), fun p2 np2 => ?_⟩
      generalize g2 : upd _ p2 _ = G2
      have f2 : Ex G1 G2 := by rw [← g2]; exact Ex.new np2
      have k2 : G2 p2 = some (.lst [.int (-1), .int 0, .int 1]) := by rw [← g2]; exact upd_same
      clear g2
      refine ⟨_, rfl, (by decide : 3 ≤ sizeLine), fun p3 np3 => ?_⟩
      generalize g3 : upd _ p3 _ = G3
      have f3 : Ex G2 G3 := by rw [← g3]; exact Ex.new np3
      have k3 : G3 p3 = some (.lst [.int 1, .int (-1), .int 0]) := by rw [← g3]; exact upd_same
      clear g3
      refine ⟨(by decide : 3 ≤ sizeLine), fun p4 np4 => ?_⟩
      generalize g4 : upd _ p4 _ = G4
      have f4 : Ex G3 G4 := by rw [← g4]; exact Ex.new np4
      have k4 : G4 p4 = some (.lst [.ref p1, .ref p2, .ref p3]) := by rw [← g4]; exact upd_same
      clear g4
      refine ⟨_, rfl, (by decide : 3 ≤ sizeLine), fun p5 np5 => ?_⟩
      generalize g5 : upd _ p5 _ = G5
      have f5 : Ex G4 G5 := by rw [← g5]; exact Ex.new np5
      have k5 : G5 p5 = some (.lst [.int 0, .int 5, .int (-1)]) := by rw [← g5]; exact upd_same
      clear g5
      refine ⟨_, rfl, (by decide : 3 ≤ sizeLine), fun p6 np6 => ?_⟩
      generalize g6 : upd _ p6 _ = G6
      have f6 : Ex G5 G6 := by rw [← g6]; exact Ex.new np6
      have k6 : G6 p6 = some (.lst [.int (-5), .int 0, .int 3]) := by rw [← g6]; exact upd_same
      clear g6
      refine ⟨_, rfl, (by decide : 3 ≤ sizeLine), fun p7 np7 => ?_⟩
      generalize g7 : upd _ p7 _ = G7
      have f7 : Ex G6 G7 := by rw [← g7]; exact Ex.new np7
      have k7 : G7 p7 = some (.lst [.int 1, .int (-3), .int 0]) := by rw [← g7]; exact upd_same
      clear g7
      refine ⟨(by decide : 3 ≤ sizeLine), fun p8 np8 => ?_⟩
      generalize g8 : upd _ p8 _ = G8
      have f8 : Ex G7 G8 := by rw [← g8]; exact Ex.new np8
      have k8 : G8 p8 = some (.lst [.ref p5, .ref p6, .ref p7]) := by rw [← g8]; exact upd_same
      clear g8
      refine ⟨_, _, rfl, ?_⟩
      exact ⟨p4, p1, p2, p3, .ref p8, rfl, ((f1.trans (f2.trans (f3.trans (f4.trans (f5.trans (f6.trans (f7.trans f8)))))))), (f8 _ _ (f7 _ _ (f6 _ _ (f5 _ _ k4)))), (f8 _ _ (f7 _ _ (f6 _ _ (f5 _ _ (f4 _ _ (f3 _ _ (f2 _ _ k1))))))), (f8 _ _ (f7 _ _ (f6 _ _ (f5 _ _ (f4 _ _ (f3 _ _ k2)))))), (f8 _ _ (f7 _ _ (f6 _ _ (f5 _ _ (f4 _ _ k3))))), (tabR_lit (rs := [p5, p6, p7]) [[0, 5, -1], [-5, 0, 3], [1, -3, 0]] k8 (by decide) (.cons (f8 _ _ (f7 _ _ (f6 _ _ k5))) (.cons (f8 _ _ (f7 _ _ k6)) (.cons (f8 _ _ k7) .nil))) : TabR K _ _ 3 (litF [[0, 5, -1], [-5, 0, 3], [1, -3, 0]]))⟩
    rintro _ G0 ⟨t, r1, r2, r3, v2, rfl, e0, ht, h1, h2, h3, TBz⟩
    refine ⟨fun σ' H' => ∃ (v3 : V), σ' = [some (.ref t), some v2, some v3, none, none, none, none, none, none] ∧ Ex G0 H' ∧ TabR K H' v3 4 (litF overL), ?_, ?_⟩
    · refine ⟨_, rfl, t, rfl, ⟨_, sq_of ht⟩, fun D hD => ?_⟩
      refine lc_rows (walk_list (K := K) (a := t) (xs := [.ref r1, .ref r2, .ref r3])) hD (show (3 : Nat) ≤ 100000 by decide) (fun H2 e2 => sq_of (e2 _ _ ht)) (fun i => rowV 4 (litF overL i)) ?_ ?_
      · rintro i x Ha Ha' hi ea ⟨rfl, hx⟩ Qc hq
        obtain ⟨r, ns, rfl, hr1, hrow⟩ : ∃ (r : Addr) (ns : List Int), x = .ref r ∧ Ha' r = some (.lst (iv ns)) ∧ iv ns ++ [V.int (-1)] = rowV 4 (litF overL i) ∧ ns.length = 3 := by
          have hi3 : i < 3 := hi
          rcases (by omega : i = 0 ∨ i = 1 ∨ i = 2) with rfl | rfl | rfl
          · cases hx
            exact ⟨r1, _, rfl, ea _ _ h1, rfl, rfl⟩
          · cases hx
            exact ⟨r2, _, rfl, ea _ _ h2, rfl, rfl⟩
          · cases hx
            exact ⟨r3, _, rfl, ea _ _ h3, rfl, rfl⟩
        refine ⟨rfl, _, rfl, _, rfl, (by decide : 1 ≤ sizeLine), fun l nl => ?_⟩
        have el := Ex.new (o := .lst [V.int (-1)]) nl
        refine ⟨r, l, _, _, rfl, rfl, el _ _ hr1, upd_same, sz_of (by rw [iv_length, hrow.2]; decide), fun p np => ?_⟩
        refine hq p _ (fresh_back el np) (el.trans (Ex.new np)) ?_
        rw [upd_same]
        exact congrArg (fun l => some (HO.lst l)) hrow.1
      intro G1 ps e1 hD1 hl1 R1
      have hl1 : ps.length = 3 := hl1
      refine ⟨(by decide : 4 ≤ sizeLine), fun r4 nr4 => ⟨(by decide : 1 ≤ sizeLine), fun q4 nq4 => ?_⟩⟩
      have d1 := Ex.new (o := .lst [V.int 1, V.int 1, V.int 1, V.int 0]) nr4
      have d2 := Ex.new (o := .lst [V.ref r4]) nq4
      refine ⟨D, q4, _, _, rfl, rfl, (d1.trans d2) _ _ hD1, upd_same, sz_of (by rw [List.length_map, hl1]; show 3 + 1 ≤ _; decide), fun o no => ?_⟩
      have d3 := Ex.new (o := .lst (ps.map V.ref ++ [V.ref r4])) no
      have d13 := d1.trans (d2.trans d3)
      refine ⟨.ref o, rfl, e1.trans d13, o, ps ++ [r4], rfl, by rw [List.length_append, hl1]; rfl, sq_of (by rw [upd_same, List.map_append]; rfl), fun i r hr2 => ?_⟩
      by_cases hi : i < 3
      · rw [List.getElem?_append_left (by omega)] at hr2
        exact sq_of (d13 _ _ (R1.at_ i r hr2))
      · rw [List.getElem?_append_right (by omega), hl1] at hr2
        have h9 : i - 3 = 0 := by
          have := (List.getElem?_eq_some_iff.mp hr2).1
          simp at this
          omega
        rw [h9] at hr2
        cases hr2
        have : i = 3 := by omega
        subst this
        exact sq_of ((d2.trans d3) _ _ upd_same)
    rintro _ G0b ⟨v3, rfl, e0b, TCz⟩
    have TAz : TabR K G0 (.ref t) 3 (litF ringL) := tabR_lit (rs := [r1, r2, r3]) ringL ht (by decide) (.cons h1 (.cons h2 (.cons h3 .nil)))
    have TA := TAz.mono e0b
    have TB := TBz.mono e0b
    have TC := TCz
    replace e0 := e0.trans e0b
    clear e0b ht h1 h2 h3 TAz TBz TCz
    refine ⟨fun σ' H' => ∃ (b : Addr) (xs : List V), σ' = [some (.ref t), some v2, some v3, some (.ref b), none, none, none, none, none] ∧ Ex G0b H' ∧ H' b = some (.lst xs) ∧ xs.length = 3 ∧ ∀ x ∈ xs, CaseR K H' x, ?_, ?_⟩
    · refine ⟨(by decide : 3 ≤ sizeLine), fun p1 np1 => ?_⟩
      generalize g1 : upd _ p1 _ = G1
      have f1 : Ex G0b G1 := by rw [← g1]; exact Ex.new np1
      have k1 : G1 p1 = some (.lst [.int 0, .int 1, .int 2]) := by rw [← g1]; exact upd_same
      clear g1
      refine ⟨_, rfl, (by decide : 3 ≤ sizeLine), fun p2 np2 => ?_⟩
      generalize g2 : upd _ p2 _ = G2
      have f2 : Ex G1 G2 := by rw [← g2]; exact Ex.new np2
      have k2 : G2 p2 = some (.tup [.ref p1, .ref t, .bl true]) := by rw [← g2]; exact upd_same
      clear g2
      refine ⟨(by decide : 3 ≤ sizeLine), fun p3 np3 => ?_⟩
      generalize g3 : upd _ p3 _ = G3
      have f3 : Ex G2 G3 := by rw [← g3]; exact Ex.new np3
      have k3 : G3 p3 = some (.lst [.int 0, .int 2, .int 1]) := by rw [← g3]; exact upd_same
      clear g3
      refine ⟨_, rfl, (by decide : 3 ≤ sizeLine), fun p4 np4 => ?_⟩
      generalize g4 : upd _ p4 _ = G4
      have f4 : Ex G3 G4 := by rw [← g4]; exact Ex.new np4
      have k4 : G4 p4 = some (.tup [.ref p3, .ref t, .bl false]) := by rw [← g4]; exact upd_same
      clear g4
      refine ⟨(by decide : 3 ≤ sizeLine), fun p5 np5 => ?_⟩
      generalize g5 : upd _ p5 _ = G5
      have f5 : Ex G4 G5 := by rw [← g5]; exact Ex.new np5
      have k5 : G5 p5 = some (.lst [.int 1, .int 2, .int 0]) := by rw [← g5]; exact upd_same
      clear g5
      refine ⟨_, rfl, (by decide : 3 ≤ sizeLine), fun p6 np6 => ?_⟩
      generalize g6 : upd _ p6 _ = G6
      have f6 : Ex G5 G6 := by rw [← g6]; exact Ex.new np6
      have k6 : G6 p6 = some (.tup [.ref p5, .ref t, .bl true]) := by rw [← g6]; exact upd_same
      clear g6
      refine ⟨(by decide : 3 ≤ sizeLine), fun p7 np7 => ?_⟩
      generalize g7 : upd _ p7 _ = G7
      have f7 : Ex G6 G7 := by rw [← g7]; exact Ex.new np7
      have k7 : G7 p7 = some (.lst [.ref p2, .ref p4, .ref p6]) := by rw [← g7]; exact upd_same
      clear g7
      exact ⟨p7, _, rfl, ((f1.trans (f2.trans (f3.trans (f4.trans (f5.trans (f6.trans f7))))))), k7, rfl, allc (⟨p2, p1, _, true, [0, 1, 2], 3, (litF ringL), rfl, (f7 _ _ (f6 _ _ (f5 _ _ (f4 _ _ (f3 _ _ k2))))), (f7 _ _ (f6 _ _ (f5 _ _ (f4 _ _ (f3 _ _ (f2 _ _ k1)))))), by decide, (TA.mono ((f1.trans (f2.trans (f3.trans (f4.trans (f5.trans (f6.trans f7)))))))), by decide +kernel⟩)
        (allc (⟨p4, p3, _, false, [0, 2, 1], 3, (litF ringL), rfl, (f7 _ _ (f6 _ _ (f5 _ _ k4))), (f7 _ _ (f6 _ _ (f5 _ _ (f4 _ _ k3)))), by decide, (TA.mono ((f1.trans (f2.trans (f3.trans (f4.trans (f5.trans (f6.trans f7)))))))), by decide +kernel⟩)
        (allc (⟨p6, p5, _, true, [1, 2, 0], 3, (litF ringL), rfl, (f7 _ _ k6), (f7 _ _ (f6 _ _ k5)), by decide, (TA.mono ((f1.trans (f2.trans (f3.trans (f4.trans (f5.trans (f6.trans f7)))))))), by decide +kernel⟩)
        (alln)))⟩
    rintro _ G0bn ⟨b0, xs0, rfl, en, hb0, hl0, hx0⟩
    replace TA := TA.mono en
    replace TB := TB.mono en
    replace TC := TC.mono en
    replace e0 := e0.trans en
    clear en
    refine ⟨fun σ' H' => ∃ (b : Addr) (xs : List V), σ' = [some (.ref t), some v2, some v3, some (.ref b), none, none, none, none, none] ∧ Ex G0bn H' ∧ H' b = some (.lst xs) ∧ xs.length = 7 ∧ ∀ x ∈ xs, CaseR K H' x, ?_, ?_⟩
    · refine ⟨_, rfl, (by decide : 2 ≤ sizeLine), fun p1 np1 => ?_⟩
      generalize g1 : upd _ p1 _ = G1
      have f1 : Ex G0bn G1 := by rw [← g1]; exact Ex.new np1
      have k1 : G1 p1 = some (.lst [.int 0, .int 1]) := by rw [← g1]; exact upd_same
      clear g1
      refine ⟨_, rfl, (by decide : 3 ≤ sizeLine), fun p2 np2 => ?_⟩
      generalize g2 : upd _ p2 _ = G2
      have f2 : Ex G1 G2 := by rw [← g2]; exact Ex.new np2
      have k2 : G2 p2 = some (.tup [.ref p1, .ref t, .bl false]) := by rw [← g2]; exact upd_same
      clear g2
      refine ⟨(by decide : 1 ≤ sizeLine), fun p3 np3 => ?_⟩
      generalize g3 : upd _ p3 _ = G3
      have f3 : Ex G2 G3 := by rw [← g3]; exact Ex.new np3
      have k3 : G3 p3 = some (.lst [.int 0]) := by rw [← g3]; exact upd_same
      clear g3
      refine ⟨_, rfl, (by decide : 3 ≤ sizeLine), fun p4 np4 => ?_⟩
      generalize g4 : upd _ p4 _ = G4
      have f4 : Ex G3 G4 := by rw [← g4]; exact Ex.new np4
      have k4 : G4 p4 = some (.tup [.ref p3, .ref t, .bl false]) := by rw [← g4]; exact upd_same
      clear g4
      refine ⟨(by decide : 0 ≤ sizeLine), fun p5 np5 => ?_⟩
      generalize g5 : upd _ p5 _ = G5
      have f5 : Ex G4 G5 := by rw [← g5]; exact Ex.new np5
      have k5 : G5 p5 = some (.lst []) := by rw [← g5]; exact upd_same
      clear g5
      refine ⟨_, rfl, (by decide : 3 ≤ sizeLine), fun p6 np6 => ?_⟩
      generalize g6 : upd _ p6 _ = G6
      have f6 : Ex G5 G6 := by rw [← g6]; exact Ex.new np6
      have k6 : G6 p6 = some (.tup [.ref p5, .ref t, .bl false]) := by rw [← g6]; exact upd_same
      clear g6
      refine ⟨(by decide : 3 ≤ sizeLine), fun p7 np7 => ?_⟩
      generalize g7 : upd _ p7 _ = G7
      have f7 : Ex G6 G7 := by rw [← g7]; exact Ex.new np7
      have k7 : G7 p7 = some (.lst [.int 0, .int 1, .int 2]) := by rw [← g7]; exact upd_same
      clear g7
      refine ⟨_, rfl, (by decide : 3 ≤ sizeLine), fun p8 np8 => ?_⟩
      generalize g8 : upd _ p8 _ = G8
      have f8 : Ex G7 G8 := by rw [← g8]; exact Ex.new np8
      have k8 : G8 p8 = some (.tup [.ref p7, v3, .bl true]) := by rw [← g8]; exact upd_same
      clear g8
      refine ⟨(by decide : 4 ≤ sizeLine), fun p9 np9 => ?_⟩
      generalize g9 : upd _ p9 _ = G9
      have f9 : Ex G8 G9 := by rw [← g9]; exact Ex.new np9
      have k9 : G9 p9 = some (.lst [.ref p2, .ref p4, .ref p6, .ref p8]) := by rw [← g9]; exact upd_same
      clear g9
      refine ⟨b0, p9, xs0, _, rfl, rfl, ((f1.trans (f2.trans (f3.trans (f4.trans (f5.trans (f6.trans (f7.trans (f8.trans f9))))))))) _ _ hb0, k9, (by rw [hl0]; exact (by decide : 7 ≤ sizeLine)), fun pz npz => ?_⟩
      have fz := Ex.new (o := .lst (xs0 ++ [.ref p2, .ref p4, .ref p6, .ref p8])) npz
      have hall : ∀ x ∈ ([.ref p2, .ref p4, .ref p6, .ref p8] : List V), CaseR K G9 x := allc (⟨p2, p1, _, false, [0, 1], 3, (litF ringL), rfl, (f9 _ _ (f8 _ _ (f7 _ _ (f6 _ _ (f5 _ _ (f4 _ _ (f3 _ _ k2))))))), (f9 _ _ (f8 _ _ (f7 _ _ (f6 _ _ (f5 _ _ (f4 _ _ (f3 _ _ (f2 _ _ k1)))))))), by decide, (TA.mono ((f1.trans (f2.trans (f3.trans (f4.trans (f5.trans (f6.trans (f7.trans (f8.trans f9)))))))))), by decide +kernel⟩)
        (allc (⟨p4, p3, _, false, [0], 3, (litF ringL), rfl, (f9 _ _ (f8 _ _ (f7 _ _ (f6 _ _ (f5 _ _ k4))))), (f9 _ _ (f8 _ _ (f7 _ _ (f6 _ _ (f5 _ _ (f4 _ _ k3)))))), by decide, (TA.mono ((f1.trans (f2.trans (f3.trans (f4.trans (f5.trans (f6.trans (f7.trans (f8.trans f9)))))))))), by decide +kernel⟩)
        (allc (⟨p6, p5, _, false, [], 3, (litF ringL), rfl, (f9 _ _ (f8 _ _ (f7 _ _ k6))), (f9 _ _ (f8 _ _ (f7 _ _ (f6 _ _ k5)))), by decide, (TA.mono ((f1.trans (f2.trans (f3.trans (f4.trans (f5.trans (f6.trans (f7.trans (f8.trans f9)))))))))), by decide +kernel⟩)
        (allc (⟨p8, p7, _, true, [0, 1, 2], 4, (litF overL), rfl, (f9 _ _ k8), (f9 _ _ (f8 _ _ k7)), by decide, (TC.mono ((f1.trans (f2.trans (f3.trans (f4.trans (f5.trans (f6.trans (f7.trans (f8.trans f9)))))))))), by decide +kernel⟩)
        (alln))))
      exact ⟨pz, _, rfl, ((f1.trans (f2.trans (f3.trans (f4.trans (f5.trans (f6.trans (f7.trans (f8.trans f9))))))))).trans fz, upd_same, by rw [List.length_append, hl0]; rfl, fun x hx => (List.mem_append.mp hx).elim (fun h => (hx0 x h).mono (((f1.trans (f2.trans (f3.trans (f4.trans (f5.trans (f6.trans (f7.trans (f8.trans f9))))))))).trans fz)) (fun h => (hall x h).mono fz)⟩
    rintro _ G0bnn ⟨b0, xs0, rfl, en, hb0, hl0, hx0⟩
    replace TA := TA.mono en
    replace TB := TB.mono en
    replace TC := TC.mono en
    replace e0 := e0.trans en
    clear en
    refine ⟨fun σ' H' => ∃ (b : Addr) (xs : List V), σ' = [some (.ref t), some v2, some v3, some (.ref b), none, none, none, none, none] ∧ Ex G0bnn H' ∧ H' b = some (.lst xs) ∧ xs.length = 10 ∧ ∀ x ∈ xs, CaseR K H' x, ?_, ?_⟩
    · refine ⟨_, rfl, (by decide : 4 ≤ sizeLine), fun p1 np1 => ?_⟩
      generalize g1 : upd _ p1 _ = G1
      have f1 : Ex G0bnn G1 := by rw [← g1]; exact Ex.new np1
      have k1 : G1 p1 = some (.lst [.int 0, .int 1, .int 2, .int 0]) := by rw [← g1]; exact upd_same
      clear g1
      refine ⟨_, rfl, (by decide : 3 ≤ sizeLine), fun p2 np2 => ?_⟩
      generalize g2 : upd _ p2 _ = G2
      have f2 : Ex G1 G2 := by rw [← g2]; exact Ex.new np2
      have k2 : G2 p2 = some (.tup [.ref p1, .ref t, .bl false]) := by rw [← g2]; exact upd_same
      clear g2
      refine ⟨(by decide : 3 ≤ sizeLine), fun p3 np3 => ?_⟩
      generalize g3 : upd _ p3 _ = G3
      have f3 : Ex G2 G3 := by rw [← g3]; exact Ex.new np3
      have k3 : G3 p3 = some (.lst [.int 0, .int 1, .int 9]) := by rw [← g3]; exact upd_same
      clear g3
      refine ⟨_, rfl, (by decide : 3 ≤ sizeLine), fun p4 np4 => ?_⟩
      generalize g4 : upd _ p4 _ = G4
      have f4 : Ex G3 G4 := by rw [← g4]; exact Ex.new np4
      have k4 : G4 p4 = some (.tup [.ref p3, .ref t, .bl false]) := by rw [← g4]; exact upd_same
      clear g4
      refine ⟨(by decide : 2 ≤ sizeLine), fun p5 np5 => ?_⟩
      generalize g5 : upd _ p5 _ = G5
      have f5 : Ex G4 G5 := by rw [← g5]; exact Ex.new np5
      have k5 : G5 p5 = some (.lst [.int 0, .int 1]) := by rw [← g5]; exact upd_same
      clear g5
      refine ⟨(by decide : 2 ≤ sizeLine), fun p6 np6 => ?_⟩
      generalize g6 : upd _ p6 _ = G6
      have f6 : Ex G5 G6 := by rw [← g6]; exact Ex.new np6
      have k6 : G6 p6 = some (.lst [.int 0, .int 0]) := by rw [← g6]; exact upd_same
      clear g6
      refine ⟨(by decide : 2 ≤ sizeLine), fun p7 np7 => ?_⟩
      generalize g7 : upd _ p7 _ = G7
      have f7 : Ex G6 G7 := by rw [← g7]; exact Ex.new np7
      have k7 : G7 p7 = some (.lst [.int 0, .int 0]) := by rw [← g7]; exact upd_same
      clear g7
      refine ⟨(by decide : 2 ≤ sizeLine), fun p8 np8 => ?_⟩
      generalize g8 : upd _ p8 _ = G8
      have f8 : Ex G7 G8 := by rw [← g8]; exact Ex.new np8
      have k8 : G8 p8 = some (.lst [.ref p6, .ref p7]) := by rw [← g8]; exact upd_same
      clear g8
      refine ⟨(by decide : 3 ≤ sizeLine), fun p9 np9 => ?_⟩
      generalize g9 : upd _ p9 _ = G9
      have f9 : Ex G8 G9 := by rw [← g9]; exact Ex.new np9
      have k9 : G9 p9 = some (.tup [.ref p5, .ref p8, .bl false]) := by rw [← g9]; exact upd_same
      clear g9
      refine ⟨(by decide : 3 ≤ sizeLine), fun p10 np10 => ?_⟩
      generalize g10 : upd _ p10 _ = G10
      have f10 : Ex G9 G10 := by rw [← g10]; exact Ex.new np10
      have k10 : G10 p10 = some (.lst [.ref p2, .ref p4, .ref p9]) := by rw [← g10]; exact upd_same
      clear g10
      refine ⟨b0, p10, xs0, _, rfl, rfl, ((f1.trans (f2.trans (f3.trans (f4.trans (f5.trans (f6.trans (f7.trans (f8.trans (f9.trans f10)))))))))) _ _ hb0, k10, (by rw [hl0]; exact (by decide : 10 ≤ sizeLine)), fun pz npz => ?_⟩
      have fz := Ex.new (o := .lst (xs0 ++ [.ref p2, .ref p4, .ref p9])) npz
      have hall : ∀ x ∈ ([.ref p2, .ref p4, .ref p9] : List V), CaseR K G10 x := allc (⟨p2, p1, _, false, [0, 1, 2, 0], 3, (litF ringL), rfl, (f10 _ _ (f9 _ _ (f8 _ _ (f7 _ _ (f6 _ _ (f5 _ _ (f4 _ _ (f3 _ _ k2)))))))), (f10 _ _ (f9 _ _ (f8 _ _ (f7 _ _ (f6 _ _ (f5 _ _ (f4 _ _ (f3 _ _ (f2 _ _ k1))))))))), by decide, (TA.mono ((f1.trans (f2.trans (f3.trans (f4.trans (f5.trans (f6.trans (f7.trans (f8.trans (f9.trans f10))))))))))), by decide +kernel⟩)
        (allc (⟨p4, p3, _, false, [0, 1, 9], 3, (litF ringL), rfl, (f10 _ _ (f9 _ _ (f8 _ _ (f7 _ _ (f6 _ _ (f5 _ _ k4)))))), (f10 _ _ (f9 _ _ (f8 _ _ (f7 _ _ (f6 _ _ (f5 _ _ (f4 _ _ k3))))))), by decide, (TA.mono ((f1.trans (f2.trans (f3.trans (f4.trans (f5.trans (f6.trans (f7.trans (f8.trans (f9.trans f10))))))))))), by decide +kernel⟩)
        (allc (⟨p9, p5, _, false, [0, 1], 2, (litF [[0, 0], [0, 0]]), rfl, (f10 _ _ k9), (f10 _ _ (f9 _ _ (f8 _ _ (f7 _ _ (f6 _ _ k5))))), by decide, (tabR_lit (rs := [p6, p7]) [[0, 0], [0, 0]] (f10 _ _ (f9 _ _ k8)) (by decide) (.cons (f10 _ _ (f9 _ _ (f8 _ _ (f7 _ _ k6)))) (.cons (f10 _ _ (f9 _ _ (f8 _ _ k7))) .nil)) : TabR K _ _ 2 (litF [[0, 0], [0, 0]])), by decide +kernel⟩)
        (alln)))
      exact ⟨pz, _, rfl, ((f1.trans (f2.trans (f3.trans (f4.trans (f5.trans (f6.trans (f7.trans (f8.trans (f9.trans f10)))))))))).trans fz, upd_same, by rw [List.length_append, hl0]; rfl, fun x hx => (List.mem_append.mp hx).elim (fun h => (hx0 x h).mono (((f1.trans (f2.trans (f3.trans (f4.trans (f5.trans (f6.trans (f7.trans (f8.trans (f9.trans f10)))))))))).trans fz)) (fun h => (hall x h).mono fz)⟩
    rintro _ G0bnnn ⟨b0, xs0, rfl, en, hb0, hl0, hx0⟩
    replace TA := TA.mono en
    replace TB := TB.mono en
    replace TC := TC.mono en
    replace e0 := e0.trans en
    clear en
    refine ⟨fun σ' H' => ∃ (y4 y5 y6 : Option V), σ' = [some (.ref t), some v2, some v3, some (.ref b0), y4, y5, y6, none, none] ∧ Ex G0bnnn H', ?_, ?_⟩
    · refine ⟨_, rfl, b0, rfl, ⟨_, sq_of hb0⟩, for_list (K := K) (a := b0) (xs := xs0) (fun i σ' H' => ∃ (y4 y5 y6 : Option V), σ' = [some (.ref t), some v2, some v3, some (.ref b0), y4, y5, y6, none, none] ∧ Ex G0bnnn H')
        ⟨_, _, _, rfl, Ex.refl _⟩ (fun i σ' H' _ ⟨_, _, _, _, e⟩ => sq_of (e _ _ hb0)) ?_ ?_⟩
      · rintro i x σ' H' hi ⟨y4, y5, y6, rfl, e⟩
        obtain ⟨t, l, v, b, ns, n, f, rfl, ht, hl, hlen, TT, hsh⟩ := (hx0 x (List.mem_of_getElem? hi)).mono e
        refine ⟨t, _, rfl, st_of ht, rfl, .ref l, _, rfl, v, _, rfl, .bl b, [], rfl, rfl, ?_⟩
        refine ⟨_, rfl, ?_⟩
        intro x dx nx ndx nxd
        have m1 := ex_made (C := T.c_Ring) nx ndx nxd
        refine ⟨x, dx, l, ns, rfl, upd_same, sq_of (m1 _ _ hl), fun G1 p eB np hx hp => ⟨rfl, ?_⟩⟩
        have f1 := ex_after nx ndx nxd eB
        refine ⟨x, dx, _, rfl, hx, rfl, _, rfl, x, dx, p, v, ns, n, f, rfl, hx, sq_of hp, hlen, TT.mono f1, fun G2 e2 => ?_⟩
        refine ⟨_, rfl, rfl, _, rfl, itF (by rw [hsh, decide_eq_true rfl]; rfl) ?_⟩
        exact ⟨_, _, _, rfl, e.trans (f1.trans e2)⟩
      · rintro σ' H' ⟨y4, y5, y6, rfl, e⟩
        exact ⟨_, _, _, rfl, e⟩
    rintro _ G0bnnnn ⟨y4, y5, y6, rfl, en⟩
    replace TA := TA.mono en
    replace TB := TB.mono en
    replace TC := TC.mono en
    replace e0 := e0.trans en
    clear en hb0 hx0
    refine ⟨fun σ' H' => ∃ (b : Addr) (xs : List V), σ' = [some (.ref t), some v2, some v3, some (.ref b), y4, y5, y6, none, none] ∧ Ex G0bnnnn H' ∧ H' b = some (.lst xs) ∧ xs.length = 3 ∧ ∀ x ∈ xs, CaseN K H' x, ?_, ?_⟩
    · refine ⟨(by decide : 1 ≤ sizeLine), fun p1 np1 => ?_⟩
      generalize g1 : upd _ p1 _ = G1
      have f1 : Ex G0bnnnn G1 := by rw [← g1]; exact Ex.new np1
      have k1 : G1 p1 = some (.lst [.int 0]) := by rw [← g1]; exact upd_same
      clear g1
      refine ⟨(by decide : 1 ≤ sizeLine), fun p2 np2 => ?_⟩
      generalize g2 : upd _ p2 _ = G2
      have f2 : Ex G1 G2 := by rw [← g2]; exact Ex.new np2
      have k2 : G2 p2 = some (.lst [.ref p1]) := by rw [← g2]; exact upd_same
      clear g2
      refine ⟨(by decide : 3 ≤ sizeLine), fun p3 np3 => ?_⟩
      generalize g3 : upd _ p3 _ = G3
      have f3 : Ex G2 G3 := by rw [← g3]; exact Ex.new np3
      have k3 : G3 p3 = some (.tup [.int 0, .ref p2, .bl true]) := by rw [← g3]; exact upd_same
      clear g3
      refine ⟨(by decide : 2 ≤ sizeLine), fun p4 np4 => ?_⟩
      generalize g4 : upd _ p4 _ = G4
      have f4 : Ex G3 G4 := by rw [← g4]; exact Ex.new np4
      have k4 : G4 p4 = some (.lst [.int 0, .int 0]) := by rw [← g4]; exact upd_same
      clear g4
      refine ⟨(by decide : 2 ≤ sizeLine), fun p5 np5 => ?_⟩
      generalize g5 : upd _ p5 _ = G5
      have f5 : Ex G4 G5 := by rw [← g5]; exact Ex.new np5
      have k5 : G5 p5 = some (.lst [.int 0, .int 0]) := by rw [← g5]; exact upd_same
      clear g5
      refine ⟨(by decide : 2 ≤ sizeLine), fun p6 np6 => ?_⟩
      generalize g6 : upd _ p6 _ = G6
      have f6 : Ex G5 G6 := by rw [← g6]; exact Ex.new np6
      have k6 : G6 p6 = some (.lst [.ref p4, .ref p5]) := by rw [← g6]; exact upd_same
      clear g6
      refine ⟨(by decide : 3 ≤ sizeLine), fun p7 np7 => ?_⟩
      generalize g7 : upd _ p7 _ = G7
      have f7 : Ex G6 G7 := by rw [← g7]; exact Ex.new np7
      have k7 : G7 p7 = some (.tup [.int 0, .ref p6, .bl true]) := by rw [← g7]; exact upd_same
      clear g7
      refine ⟨(by decide : 2 ≤ sizeLine), fun p8 np8 => ?_⟩
      generalize g8 : upd _ p8 _ = G8
      have f8 : Ex G7 G8 := by rw [← g8]; exact Ex.new np8
      have k8 : G8 p8 = some (.lst [.int 0, .int 0]) := by rw [← g8]; exact upd_same
      clear g8
      refine ⟨(by decide : 2 ≤ sizeLine), fun p9 np9 => ?_⟩
      generalize g9 : upd _ p9 _ = G9
      have f9 : Ex G8 G9 := by rw [← g9]; exact Ex.new np9
      have k9 : G9 p9 = some (.lst [.int 0, .int 0]) := by rw [← g9]; exact upd_same
      clear g9
      refine ⟨(by decide : 2 ≤ sizeLine), fun p10 np10 => ?_⟩
      generalize g10 : upd _ p10 _ = G10
      have f10 : Ex G9 G10 := by rw [← g10]; exact Ex.new np10
      have k10 : G10 p10 = some (.lst [.ref p8, .ref p9]) := by rw [← g10]; exact upd_same
      clear g10
      refine ⟨(by decide : 3 ≤ sizeLine), fun p11 np11 => ?_⟩
      generalize g11 : upd _ p11 _ = G11
      have f11 : Ex G10 G11 := by rw [← g11]; exact Ex.new np11
      have k11 : G11 p11 = some (.tup [.int 1, .ref p10, .bl true]) := by rw [← g11]; exact upd_same
      clear g11
      refine ⟨(by decide : 3 ≤ sizeLine), fun p12 np12 => ?_⟩
      generalize g12 : upd _ p12 _ = G12
      have f12 : Ex G11 G12 := by rw [← g12]; exact Ex.new np12
      have k12 : G12 p12 = some (.lst [.ref p3, .ref p7, .ref p11]) := by rw [← g12]; exact upd_same
      clear g12
      exact ⟨p12, _, rfl, ((f1.trans (f2.trans (f3.trans (f4.trans (f5.trans (f6.trans (f7.trans (f8.trans (f9.trans (f10.trans (f11.trans f12)))))))))))), k12, rfl, allc (⟨p3, _, true, (0), 1, (litF [[0]]), rfl, (f12 _ _ (f11 _ _ (f10 _ _ (f9 _ _ (f8 _ _ (f7 _ _ (f6 _ _ (f5 _ _ (f4 _ _ k3))))))))), by decide, (tabR_lit (rs := [p1]) [[0]] (f12 _ _ (f11 _ _ (f10 _ _ (f9 _ _ (f8 _ _ (f7 _ _ (f6 _ _ (f5 _ _ (f4 _ _ (f3 _ _ k2)))))))))) (by decide) (.cons (f12 _ _ (f11 _ _ (f10 _ _ (f9 _ _ (f8 _ _ (f7 _ _ (f6 _ _ (f5 _ _ (f4 _ _ (f3 _ _ (f2 _ _ k1))))))))))) .nil) : TabR K _ _ 1 (litF [[0]])), by decide +kernel⟩)
        (allc (⟨p7, _, true, (0), 2, (litF [[0, 0], [0, 0]]), rfl, (f12 _ _ (f11 _ _ (f10 _ _ (f9 _ _ (f8 _ _ k7))))), by decide, (tabR_lit (rs := [p4, p5]) [[0, 0], [0, 0]] (f12 _ _ (f11 _ _ (f10 _ _ (f9 _ _ (f8 _ _ (f7 _ _ k6)))))) (by decide) (.cons (f12 _ _ (f11 _ _ (f10 _ _ (f9 _ _ (f8 _ _ (f7 _ _ (f6 _ _ (f5 _ _ k4)))))))) (.cons (f12 _ _ (f11 _ _ (f10 _ _ (f9 _ _ (f8 _ _ (f7 _ _ (f6 _ _ k5))))))) .nil)) : TabR K _ _ 2 (litF [[0, 0], [0, 0]])), by decide +kernel⟩)
        (allc (⟨p11, _, true, (1), 2, (litF [[0, 0], [0, 0]]), rfl, (f12 _ _ k11), by decide, (tabR_lit (rs := [p8, p9]) [[0, 0], [0, 0]] (f12 _ _ (f11 _ _ k10)) (by decide) (.cons (f12 _ _ (f11 _ _ (f10 _ _ (f9 _ _ k8)))) (.cons (f12 _ _ (f11 _ _ (f10 _ _ k9))) .nil)) : TabR K _ _ 2 (litF [[0, 0], [0, 0]])), by decide +kernel⟩)
        (alln)))⟩
    rintro _ G0bnnnnn ⟨b0, xs0, rfl, en, hb0, hl0, hx0⟩
    replace TA := TA.mono en
    replace TB := TB.mono en
    replace TC := TC.mono en
    replace e0 := e0.trans en
    clear en
    refine ⟨fun σ' H' => ∃ (b : Addr) (xs : List V), σ' = [some (.ref t), some v2, some v3, some (.ref b), y4, y5, y6, none, none] ∧ Ex G0bnnnnn H' ∧ H' b = some (.lst xs) ∧ xs.length = 8 ∧ ∀ x ∈ xs, CaseN K H' x, ?_, ?_⟩
    · refine ⟨_, rfl, _, rfl, (by decide : 3 ≤ sizeLine), fun p1 np1 => ?_⟩
      generalize g1 : upd _ p1 _ = G1
      have f1 : Ex G0bnnnnn G1 := by rw [← g1]; exact Ex.new np1
      have k1 : G1 p1 = some (.tup [.int 0, .ref t, .bl false]) := by rw [← g1]; exact upd_same
      clear g1
      refine ⟨_, rfl, (by decide : 3 ≤ sizeLine), fun p2 np2 => ?_⟩
      generalize g2 : upd _ p2 _ = G2
      have f2 : Ex G1 G2 := by rw [← g2]; exact Ex.new np2
      have k2 : G2 p2 = some (.tup [.int 3, v3, .bl true]) := by rw [← g2]; exact upd_same
      clear g2
      refine ⟨_, rfl, (by decide : 3 ≤ sizeLine), fun p3 np3 => ?_⟩
      generalize g3 : upd _ p3 _ = G3
      have f3 : Ex G2 G3 := by rw [← g3]; exact Ex.new np3
      have k3 : G3 p3 = some (.tup [.int 0, v3, .bl false]) := by rw [← g3]; exact upd_same
      clear g3
      refine ⟨_, rfl, _, rfl, (by decide : 3 ≤ sizeLine), fun p4 np4 => ?_⟩
      generalize g4 : upd _ p4 _ = G4
      have f4 : Ex G3 G4 := by rw [← g4]; exact Ex.new np4
      have k4 : G4 p4 = some (.tup [.int (-1), v3, .bl false]) := by rw [← g4]; exact upd_same
      clear g4
      refine ⟨_, rfl, (by decide : 3 ≤ sizeLine), fun p5 np5 => ?_⟩
      generalize g5 : upd _ p5 _ = G5
      have f5 : Ex G4 G5 := by rw [← g5]; exact Ex.new np5
      have k5 : G5 p5 = some (.tup [.int 4, v3, .bl false]) := by rw [← g5]; exact upd_same
      clear g5
      refine ⟨(by decide : 5 ≤ sizeLine), fun p6 np6 => ?_⟩
      generalize g6 : upd _ p6 _ = G6
      have f6 : Ex G5 G6 := by rw [← g6]; exact Ex.new np6
      have k6 : G6 p6 = some (.lst [.ref p1, .ref p2, .ref p3, .ref p4, .ref p5]) := by rw [← g6]; exact upd_same
      clear g6
      refine ⟨b0, p6, xs0, _, rfl, rfl, ((f1.trans (f2.trans (f3.trans (f4.trans (f5.trans f6)))))) _ _ hb0, k6, (by rw [hl0]; exact (by decide : 8 ≤ sizeLine)), fun pz npz => ?_⟩
      have fz := Ex.new (o := .lst (xs0 ++ [.ref p1, .ref p2, .ref p3, .ref p4, .ref p5])) npz
      have hall : ∀ x ∈ ([.ref p1, .ref p2, .ref p3, .ref p4, .ref p5] : List V), CaseN K G6 x := allc (⟨p1, _, false, (0), 3, (litF ringL), rfl, (f6 _ _ (f5 _ _ (f4 _ _ (f3 _ _ (f2 _ _ k1))))), by decide, (TA.mono ((f1.trans (f2.trans (f3.trans (f4.trans (f5.trans f6))))))), by decide +kernel⟩)
        (allc (⟨p2, _, true, (3), 4, (litF overL), rfl, (f6 _ _ (f5 _ _ (f4 _ _ (f3 _ _ k2)))), by decide, (TC.mono ((f1.trans (f2.trans (f3.trans (f4.trans (f5.trans f6))))))), by decide +kernel⟩)
        (allc (⟨p3, _, false, (0), 4, (litF overL), rfl, (f6 _ _ (f5 _ _ (f4 _ _ k3))), by decide, (TC.mono ((f1.trans (f2.trans (f3.trans (f4.trans (f5.trans f6))))))), by decide +kernel⟩)
        (allc (⟨p4, _, false, (-1), 4, (litF overL), rfl, (f6 _ _ (f5 _ _ k4)), by decide, (TC.mono ((f1.trans (f2.trans (f3.trans (f4.trans (f5.trans f6))))))), by decide +kernel⟩)
        (allc (⟨p5, _, false, (4), 4, (litF overL), rfl, (f6 _ _ k5), by decide, (TC.mono ((f1.trans (f2.trans (f3.trans (f4.trans (f5.trans f6))))))), by decide +kernel⟩)
        (alln)))))
      exact ⟨pz, _, rfl, ((f1.trans (f2.trans (f3.trans (f4.trans (f5.trans f6)))))).trans fz, upd_same, by rw [List.length_append, hl0]; rfl, fun x hx => (List.mem_append.mp hx).elim (fun h => (hx0 x h).mono (((f1.trans (f2.trans (f3.trans (f4.trans (f5.trans f6)))))).trans fz)) (fun h => (hall x h).mono fz)⟩
    rintro _ G0bnnnnnn ⟨b0, xs0, rfl, en, hb0, hl0, hx0⟩
    replace TA := TA.mono en
    replace TB := TB.mono en
    replace TC := TC.mono en
    replace e0 := e0.trans en
    clear en
    refine ⟨fun σ' H' => ∃ (z5 z6 z7 : Option V), σ' = [some (.ref t), some v2, some v3, some (.ref b0), y4, z5, z6, z7, none] ∧ Ex G0bnnnnnn H', ?_, ?_⟩
    · refine ⟨_, rfl, b0, rfl, ⟨_, sq_of hb0⟩, for_list (K := K) (a := b0) (xs := xs0) (fun i σ' H' => ∃ (z5 z6 z7 : Option V), σ' = [some (.ref t), some v2, some v3, some (.ref b0), y4, z5, z6, z7, none] ∧ Ex G0bnnnnnn H')
        ⟨_, _, _, rfl, Ex.refl _⟩ (fun i σ' H' _ ⟨_, _, _, _, e⟩ => sq_of (e _ _ hb0)) ?_ ?_⟩
      · rintro i x σ' H' hi ⟨z5, z6, z7, rfl, e⟩
        obtain ⟨t, v, b, k, n, f, rfl, ht, hn1, TT, hsh⟩ := (hx0 x (List.mem_of_getElem? hi)).mono e
        refine ⟨t, _, rfl, st_of ht, rfl, .int k, _, rfl, v, _, rfl, .bl b, [], rfl, rfl, ?_⟩
        refine ⟨_, rfl, ?_⟩
        intro x dx nx ndx nxd
        refine ⟨x, dx, _, rfl, upd_same, fun G1 eB hx => ⟨rfl, ?_⟩⟩
        have f1 := ex_after nx ndx nxd eB
        refine ⟨x, dx, _, rfl, hx, rfl, _, rfl, x, dx, v, k, n, f, rfl, hx, TT.mono f1, hn1, ?_⟩
        refine ⟨_, rfl, rfl, _, rfl, itF (by rw [hsh, decide_eq_true rfl]; rfl) ?_⟩
        exact ⟨_, _, _, rfl, e.trans f1⟩
      · rintro σ' H' ⟨z5, z6, z7, rfl, e⟩
        exact ⟨_, _, _, rfl, e⟩
    rintro _ G0bnnnnnnn ⟨z5, z6, z7, rfl, en⟩
    replace TA := TA.mono en
    replace TB := TB.mono en
    replace TC := TC.mono en
    replace e0 := e0.trans en
    clear en hb0 hx0
    refine ⟨fun σ' H' => σ' = [some (.ref t), some v2, some v3, some (.ref b0), y4, z5, z6, z7, none] ∧ Ex G0bnnnnnnn H', ?_, ?_⟩
    · refine ⟨_, rfl, .ref t, 3, (litF ringL), rfl, by decide, by decide, (TA.mono (Ex.refl _)), antiL (by decide +kernel), fun G1 x1 f1 nx1 hF1 => ?_⟩
      obtain ⟨dx1, w1, ks1, hx1⟩ := fore_ring hF1 (by decide +kernel)
      refine ⟨.ref x1, .ref T.c_Ring, _, _, true, rfl, .own _, tyx_ins hx1 T.C_Ring T.y_Ring, T.k_Ring_Ring, true, rfl, ?_⟩
      refine ⟨_, rfl, v3, 4, (litF overL), rfl, by decide, by decide, (TC.mono (f1)), antiL (by decide +kernel), fun G2 x2 f2 nx2 hF2 => ?_⟩
      obtain ⟨dx2, hx2⟩ := fore_who 3 hF2 (by decide +kernel)
      refine ⟨x2, T.c_Unbeaten, dx2, _, _, rfl, hx2, T.C_Unbeaten, T.a_Unbeaten_who, rfl, rfl, _, rfl, itF (by decide) ?_⟩
      refine ⟨(by decide : 1 ≤ sizeLine), fun p3 np3 => ?_⟩
      generalize g3 : upd _ p3 _ = G3
      have f3 : Ex G2 G3 := by rw [← g3]; exact Ex.new np3
      have k3 : G3 p3 = some (.lst [.int 0]) := by rw [← g3]; exact upd_same
      clear g3
      refine ⟨(by decide : 1 ≤ sizeLine), fun p4 np4 => ?_⟩
      generalize g4 : upd _ p4 _ = G4
      have f4 : Ex G3 G4 := by rw [← g4]; exact Ex.new np4
      have k4 : G4 p4 = some (.lst [.ref p3]) := by rw [← g4]; exact upd_same
      clear g4
      refine ⟨.ref p4, 1, (litF [[0]]), rfl, by decide, by decide, (tabR_lit (rs := [p3]) [[0]] k4 (by decide) (.cons (f4 _ _ k3) .nil) : TabR K _ _ 1 (litF [[0]])), antiL (by decide +kernel), fun G5 x5 f5 nx5 hF5 => ?_⟩
      obtain ⟨dx5, hx5⟩ := fore_who 0 hF5 (by decide +kernel)
      refine ⟨x5, T.c_Unbeaten, dx5, _, _, rfl, hx5, T.C_Unbeaten, T.a_Unbeaten_who, rfl, rfl, _, rfl, itF (by decide) ?_⟩
      exact ⟨rfl, ((f1.trans (f2.trans (f3.trans (f4.trans f5)))))⟩
    rintro _ G0bnnnnnnnn ⟨rfl, en⟩
    replace TA := TA.mono en
    replace TB := TB.mono en
    replace TC := TC.mono en
    replace e0 := e0.trans en
    clear en
    refine ⟨fun σ' H' => σ' = [some (.ref t), some v2, some v3, some (.ref b0), y4, z5, z6, z7, none] ∧ Ex G0bnnnnnnnn H', ?_, ?_⟩
    · refine ⟨(by decide : 2 ≤ sizeLine), fun p1 np1 => ?_⟩
      generalize g1 : upd _ p1 _ = G1
      have f1 : Ex G0bnnnnnnnn G1 := by rw [← g1]; exact Ex.new np1
      have k1 : G1 p1 = some (.lst [.int 0, .int 0]) := by rw [← g1]; exact upd_same
      clear g1
      refine ⟨(by decide : 2 ≤ sizeLine), fun p2 np2 => ?_⟩
      generalize g2 : upd _ p2 _ = G2
      have f2 : Ex G1 G2 := by rw [← g2]; exact Ex.new np2
      have k2 : G2 p2 = some (.lst [.int 0, .int 0]) := by rw [← g2]; exact upd_same
      clear g2
      refine ⟨(by decide : 2 ≤ sizeLine), fun p3 np3 => ?_⟩
      generalize g3 : upd _ p3 _ = G3
      have f3 : Ex G2 G3 := by rw [← g3]; exact Ex.new np3
      have k3 : G3 p3 = some (.lst [.ref p1, .ref p2]) := by rw [← g3]; exact upd_same
      clear g3
      refine ⟨.ref p3, 2, (litF [[0, 0], [0, 0]]), rfl, by decide, by decide, (tabR_lit (rs := [p1, p2]) [[0, 0], [0, 0]] k3 (by decide) (.cons (f3 _ _ (f2 _ _ k1)) (.cons (f3 _ _ k2) .nil)) : TabR K _ _ 2 (litF [[0, 0], [0, 0]])), antiL (by decide +kernel), fun G4 x4 f4 nx4 hF4 => ?_⟩
      obtain ⟨dx4, hx4⟩ := fore_who 0 hF4 (by decide +kernel)
      refine ⟨.ref x4, .ref T.c_Unbeaten, _, _, true, rfl, .own _, tyx_ins hx4 T.C_Unbeaten T.y_Unbeaten, T.k_Unbeaten_Unbeaten, true, rfl, ?_⟩
      exact ⟨rfl, ((f1.trans (f2.trans (f3.trans f4))))⟩
    rintro _ G0bnnnnnnnnn ⟨rfl, en⟩
    replace TA := TA.mono en
    replace TB := TB.mono en
    replace TC := TC.mono en
    replace e0 := e0.trans en
    clear en
    refine ⟨fun σ' H' => σ' = [some (.ref t), some v2, some v3, some (.ref b0), y4, z5, z6, z7, none] ∧ Ex G0bnnnnnnnnn H', ?_, ?_⟩
    · refine ⟨_, rfl, .ref t, 3, (litF ringL), rfl, by decide, by decide, (TA.mono (Ex.refl _)), antiL (by decide +kernel), fun G1 q1 ks1 f1 nq1 h1 ht1 => ?_⟩
      rw [ht1.same (tops_of (ks := [0, 1, 2]) 0 (by decide) (by decide +kernel) (by decide +kernel) (by decide +kernel))] at h1
      refine ⟨(by decide : 3 ≤ sizeLine), fun p2 np2 => ?_⟩
      generalize g2 : upd _ p2 _ = G2
      have f2 : Ex G1 G2 := by rw [← g2]; exact Ex.new np2
      have k2 : G2 p2 = some (.lst [.int 0, .int 1, .int 2]) := by rw [← g2]; exact upd_same
      clear g2
      refine ⟨_, _, dp_ints (ns := [0, 1, 2]) (sq_of ((f2) _ _ h1)), dp_ints (ns := [0, 1, 2]) (sq_of k2), shaped_ints _, shaped_ints _, _, rfl, itF (by rw [eqv_ints]; decide) ?_⟩
      refine ⟨_, rfl, v3, 4, (litF overL), rfl, by decide, by decide, (TC.mono ((f1.trans f2))), antiL (by decide +kernel), fun G3 q3 ks3 f3 nq3 h3 ht3 => ?_⟩
      rw [ht3.same (tops_of (ks := [3]) 3 (by decide) (by decide +kernel) (by decide +kernel) (by decide +kernel))] at h3
      refine ⟨(by decide : 1 ≤ sizeLine), fun p4 np4 => ?_⟩
      generalize g4 : upd _ p4 _ = G4
      have f4 : Ex G3 G4 := by rw [← g4]; exact Ex.new np4
      have k4 : G4 p4 = some (.lst [.int 3]) := by rw [← g4]; exact upd_same
      clear g4
      refine ⟨_, _, dp_ints (ns := [3]) (sq_of ((f4) _ _ h3)), dp_ints (ns := [3]) (sq_of k4), shaped_ints _, shaped_ints _, _, rfl, itF (by rw [eqv_ints]; decide) ?_⟩
      refine ⟨(by decide : 2 ≤ sizeLine), fun p5 np5 => ?_⟩
      generalize g5 : upd _ p5 _ = G5
      have f5 : Ex G4 G5 := by rw [← g5]; exact Ex.new np5
      have k5 : G5 p5 = some (.lst [.int 0, .int 0]) := by rw [← g5]; exact upd_same
      clear g5
      refine ⟨(by decide : 2 ≤ sizeLine), fun p6 np6 => ?_⟩
      generalize g6 : upd _ p6 _ = G6
      have f6 : Ex G5 G6 := by rw [← g6]; exact Ex.new np6
      have k6 : G6 p6 = some (.lst [.int 0, .int 0]) := by rw [← g6]; exact upd_same
      clear g6
      refine ⟨(by decide : 2 ≤ sizeLine), fun p7 np7 => ?_⟩
      generalize g7 : upd _ p7 _ = G7
      have f7 : Ex G6 G7 := by rw [← g7]; exact Ex.new np7
      have k7 : G7 p7 = some (.lst [.ref p5, .ref p6]) := by rw [← g7]; exact upd_same
      clear g7
      refine ⟨.ref p7, 2, (litF [[0, 0], [0, 0]]), rfl, by decide, by decide, (tabR_lit (rs := [p5, p6]) [[0, 0], [0, 0]] k7 (by decide) (.cons (f7 _ _ (f6 _ _ k5)) (.cons (f7 _ _ k6) .nil)) : TabR K _ _ 2 (litF [[0, 0], [0, 0]])), antiL (by decide +kernel), fun G8 q8 ks8 f8 nq8 h8 ht8 => ?_⟩
      rw [ht8.same (tops_of (ks := [0, 1]) 0 (by decide) (by decide +kernel) (by decide +kernel) (by decide +kernel))] at h8
      refine ⟨(by decide : 2 ≤ sizeLine), fun p9 np9 => ?_⟩
      generalize g9 : upd _ p9 _ = G9
      have f9 : Ex G8 G9 := by rw [← g9]; exact Ex.new np9
      have k9 : G9 p9 = some (.lst [.int 0, .int 1]) := by rw [← g9]; exact upd_same
      clear g9
      refine ⟨_, _, dp_ints (ns := [0, 1]) (sq_of ((f9) _ _ h8)), dp_ints (ns := [0, 1]) (sq_of k9), shaped_ints _, shaped_ints _, _, rfl, itF (by rw [eqv_ints]; decide) ?_⟩
      refine ⟨(by decide : 1 ≤ sizeLine), fun p10 np10 => ?_⟩
      generalize g10 : upd _ p10 _ = G10
      have f10 : Ex G9 G10 := by rw [← g10]; exact Ex.new np10
      have k10 : G10 p10 = some (.lst [.int 0]) := by rw [← g10]; exact upd_same
      clear g10
      refine ⟨(by decide : 1 ≤ sizeLine), fun p11 np11 => ?_⟩
      generalize g11 : upd _ p11 _ = G11
      have f11 : Ex G10 G11 := by rw [← g11]; exact Ex.new np11
      have k11 : G11 p11 = some (.lst [.ref p10]) := by rw [← g11]; exact upd_same
      clear g11
      refine ⟨.ref p11, 1, (litF [[0]]), rfl, by decide, by decide, (tabR_lit (rs := [p10]) [[0]] k11 (by decide) (.cons (f11 _ _ k10) .nil) : TabR K _ _ 1 (litF [[0]])), antiL (by decide +kernel), fun G12 q12 ks12 f12 nq12 h12 ht12 => ?_⟩
      rw [ht12.same (tops_of (ks := [0]) 0 (by decide) (by decide +kernel) (by decide +kernel) (by decide +kernel))] at h12
      refine ⟨(by decide : 1 ≤ sizeLine), fun p13 np13 => ?_⟩
      generalize g13 : upd _ p13 _ = G13
      have f13 : Ex G12 G13 := by rw [← g13]; exact Ex.new np13
      have k13 : G13 p13 = some (.lst [.int 0]) := by rw [← g13]; exact upd_same
      clear g13
      refine ⟨_, _, dp_ints (ns := [0]) (sq_of ((f13) _ _ h12)), dp_ints (ns := [0]) (sq_of k13), shaped_ints _, shaped_ints _, _, rfl, itF (by rw [eqv_ints]; decide) ?_⟩
      exact ⟨rfl, ((f1.trans (f2.trans (f3.trans (f4.trans (f5.trans (f6.trans (f7.trans (f8.trans (f9.trans (f10.trans (f11.trans (f12.trans f13)))))))))))))⟩
    rintro _ G0bnnnnnnnnnn ⟨rfl, en⟩
    replace TA := TA.mono en
    replace TB := TB.mono en
    replace TC := TC.mono en
    replace e0 := e0.trans en
    clear en
    refine ⟨fun σ' H' => σ' = [some (.ref t), some v2, some v3, some (.ref b0), y4, z5, z6, z7, none] ∧ Ex G0bnnnnnnnnnn H', ?_, ?_⟩
    · refine ⟨(by decide : 2 ≤ sizeLine), fun p1 np1 => ?_⟩
      generalize g1 : upd _ p1 _ = G1
      have f1 : Ex G0bnnnnnnnnnn G1 := by rw [← g1]; exact Ex.new np1
      have k1 : G1 p1 = some (.lst [.int 0, .int 1]) := by rw [← g1]; exact upd_same
      clear g1
      refine ⟨_, rfl, (by decide : 2 ≤ sizeLine), fun p2 np2 => ?_⟩
      generalize g2 : upd _ p2 _ = G2
      have f2 : Ex G1 G2 := by rw [← g2]; exact Ex.new np2
      have k2 : G2 p2 = some (.lst [.int (-1), .int 0]) := by rw [← g2]; exact upd_same
      clear g2
      refine ⟨(by decide : 2 ≤ sizeLine), fun p3 np3 => ?_⟩
      generalize g3 : upd _ p3 _ = G3
      have f3 : Ex G2 G3 := by rw [← g3]; exact Ex.new np3
      have k3 : G3 p3 = some (.lst [.ref p1, .ref p2]) := by rw [← g3]; exact upd_same
      clear g3
      refine ⟨.ref p3, 2, (litF [[0, 1], [-1, 0]]), rfl, by decide, by decide, (tabR_lit (rs := [p1, p2]) [[0, 1], [-1, 0]] k3 (by decide) (.cons (f3 _ _ (f2 _ _ k1)) (.cons (f3 _ _ k2) .nil)) : TabR K _ _ 2 (litF [[0, 1], [-1, 0]])), antiL (by decide +kernel), fun G4 q4 ks4 f4 nq4 h4 ht4 => ?_⟩
      rw [ht4.same (tops_of (ks := [0]) 0 (by decide) (by decide +kernel) (by decide +kernel) (by decide +kernel))] at h4
      refine ⟨(by decide : 1 ≤ sizeLine), fun p5 np5 => ?_⟩
      generalize g5 : upd _ p5 _ = G5
      have f5 : Ex G4 G5 := by rw [← g5]; exact Ex.new np5
      have k5 : G5 p5 = some (.lst [.int 0]) := by rw [← g5]; exact upd_same
      clear g5
      refine ⟨_, _, dp_ints (ns := [0]) (sq_of ((f5) _ _ h4)), dp_ints (ns := [0]) (sq_of k5), shaped_ints _, shaped_ints _, _, rfl, itF (by rw [eqv_ints]; decide) ?_⟩
      exact ⟨rfl, ((f1.trans (f2.trans (f3.trans (f4.trans f5)))))⟩
    rintro _ G0bnnnnnnnnnnn ⟨rfl, en⟩
    replace TA := TA.mono en
    replace TB := TB.mono en
    replace TC := TC.mono en
    replace e0 := e0.trans en
    clear en
    exact ⟨_, rfl, _, rfl, _, rfl, _, v2, v3, rfl, TA, TB, TC, fun H2 e2 => q _ (e0.trans e2)⟩
end
end Hc
namespace Hc
open PySem PySem.Spec PyProof.Rows L2 Evl
section
variable {P : Program} {w : World} {K : PySem.W.Frag} {mg : Str → Option Value} {base : Heap}
theorem flat_rep {α : Type} (x : α) : ∀ g : Nat, (List.replicate g [x]).flatten = List.replicate g x
  | 0 => rfl
  | g + 1 => by rw [List.replicate_succ, List.flatten_cons, flat_rep x g, List.replicate_succ]; rfl
theorem tabR_zero {K : PySem.W.Frag} {H : Hp} {t r : Addr} {n : Nat} (top : H t = some (.lst (List.replicate n (.ref r)))) (row : H r = some (.lst (rowV n (fun _ => 0)))) : TabR K H (.ref t) n (fun _ _ => 0) := by
  refine ⟨t, List.replicate n r, rfl, List.length_replicate, sq_of (by rw [top, List.map_replicate]), fun i r' h => ?_⟩
  have : r' = r := (List.mem_replicate.mp (List.mem_of_getElem? h)).2
  rw [this]
  exact sq_of row
def evenB (n : Nat) (f : Nat → Nat → Int) : Bool := (List.range n).all fun b => (List.range b).all fun a => decide ((f 0 1 + f a b) % 2 ≠ 1)
def CaseT (K : PySem.W.Frag) (H : Hp) (x : V) : Prop := ∃ (n : Nat) (f : Nat → Nat → Int), TabR K H x n f ∧ 1 ≤ n ∧ n ≤ 20 ∧ Anti n f ∧ evenB n f = true
theorem CaseT.mono {K : PySem.W.Frag} {H H' : Hp} {x : V} (h : CaseT K H x) (e : Ex H H') : CaseT K H' x := by
  obtain ⟨n, f, h1, h2⟩ := h
  exact ⟨n, f, h1.mono e, h2⟩
theorem told_bal (T : Tx K mg) {H H2 : Hp} {x : Addr} {n : Nat} {f : Nat → Nat → Int} (h : Told T.c_Ballots T.c_Uneven H H2 x n f) (hb : evenB n f = true) :
    TyX K H2 (.ref x) (.ref T.c_Ballots) ∧ ∃ (dx D : Addr) (ts ls : List Addr) (bs : List (List Nat × Int)), H2 x = some (.ins T.c_Ballots dx [("ballots", .ref D)]) ∧ BalsN H H2 D ts ls bs ∧ bs.all (okB n) = true ∧ (∀ i j, i < n → j < n → cnt bs i j = f i j) ∧ bs.length ≤ 1000 := by
  cases h with
  | bal dx D ts ls bs hx B ok ec al len => exact ⟨tyx_ins hx T.C_Ballots T.y_Ballots, dx, D, ts, ls, bs, hx, B, ok, ec, len⟩
  | une dx t1 t2 a b hx h1 h2 hab hb2 odd =>
    have := of_decide_eq_true (List.all_eq_true.mp (List.all_eq_true.mp hb b (List.mem_range.mpr hb2)) a (List.mem_range.mpr hab))
    exact absurd odd this
theorem told_une (T : Tx K mg) {H H2 : Hp} {x : Addr} {n : Nat} {f : Nat → Nat → Int} (h : Told T.c_Ballots T.c_Uneven H H2 x n f) (hb : (decide (2 < n) && decide (f 0 1 % 2 ≠ f 0 2 % 2)) = true) : TyX K H2 (.ref x) (.ref T.c_Uneven) ∧ True := by
  rw [Bool.and_eq_true] at hb
  have h1 := of_decide_eq_true hb.1
  have h2 := of_decide_eq_true hb.2
  cases h with
  | bal dx D ts ls bs hx B ok ec al len =>
    have := al 0 2 (by decide) h1
    omega
  | une dx t1 t2 a b hx h1 h2 hab hb2 odd => exact ⟨tyx_ins hx T.C_Uneven T.y_Uneven, trivial⟩
theorem ok_law_promises_right (T : Tx K mg) : FnOk P w K mg base CX0 8 T.f_law_promises_right T.d_law_promises_right [] spProm := by
  refine T.F_law_promises_right.ok sc_law_promises_right (fun vs H Q E h => ?_) (fun cdv A outer s H vs Q E hr h => ?_)
  · obtain ⟨rfl, _⟩ := h
    rfl
  · obtain ⟨rfl, q⟩ := h
    refine ⟨_, Evl.pss_cut (ps_set (i := 0) sc_law_promises_right.nd rfl (Or.inl rfl) (pe_op op_pow pe_int pe_int))
      (Evl.pss_cut (ps_if (PW.pt (pw_or (pt_cmpR (neDK K hr.units) (pe_call (ok_counted T) (hr.mono (by decide)) (by rfl) T.g_counted T.F_counted.kp (b_counted T) .nil pass0 (pa_cons pe_int (pa_cons (pe_lst pa_nil) pa_nil))) (pe_lst (pa_cons (pe_lst (pa_cons pe_int pa_nil)) pa_nil)) (nomark _)) (pw_or1 (pt_cmpR (neDK K hr.units) (pe_call (ok_counted T) (hr.mono (by decide)) (by rfl) T.g_counted T.F_counted.kp (b_counted T) .nil pass0 (pa_cons pe_int (pa_cons (pe_lst (pa_cons (pe_tup (pa_cons (pe_lst (pa_cons pe_int (pa_cons pe_int pa_nil))) (pa_cons pe_int pa_nil))) (pa_cons (pe_tup (pa_cons (pe_lst (pa_cons pe_int (pa_cons pe_int pa_nil))) (pa_cons pe_int pa_nil))) pa_nil))) pa_nil))) (pe_lst (pa_cons (pe_lst (pa_cons pe_int (pa_cons pe_int pa_nil))) (pa_cons (pe_lst (pa_cons (pe_un un_neg pe_int) (pa_cons pe_int pa_nil))) pa_nil))) (nomark _))))) (pss_one (ps_ret pe_bl)) (pss_nil))
      (Evl.pss_cut (ps_if (pt_cmpR (neDK K hr.units) (pe_call (ok_counted T) (hr.mono (by decide)) (by rfl) T.g_counted T.F_counted.kp (b_counted T) .nil pass0 (pa_cons pe_int (pa_cons (pe_lst (pa_cons (pe_tup (pa_cons (pe_lst (pa_cons pe_int (pa_cons pe_int pa_nil))) (pa_cons (pv 0) pa_nil))) (pa_cons (pe_tup (pa_cons (pe_lst (pa_cons pe_int (pa_cons pe_int pa_nil))) (pa_cons pe_int pa_nil))) pa_nil))) pa_nil))) (pe_lst (pa_cons (pe_lst (pa_cons pe_int (pa_cons (pe_op op_sub (pe_un un_neg (pv 0)) pe_int) pa_nil))) (pa_cons (pe_lst (pa_cons (pe_op op_add (pv 0) pe_int) (pa_cons pe_int pa_nil))) pa_nil))) (nomark _)) (pss_one (ps_ret pe_bl)) (pss_nil))
      (Evl.pss_cut (ps_if (PW.pt (pw_or (pt_cmpR (neDK K hr.units) (pe_call (ok_counted T) (hr.mono (by decide)) (by rfl) T.g_counted T.F_counted.kp (b_counted T) .nil pass0 (pa_cons pe_int (pa_cons (pe_lst (pa_cons (pe_tup (pa_cons (pe_lst (pa_cons pe_int (pa_cons pe_int (pa_cons pe_int pa_nil)))) (pa_cons pe_int pa_nil))) pa_nil)) pa_nil))) (pe_lst (pa_cons (pe_lst (pa_cons pe_int (pa_cons (pe_un un_neg pe_int) (pa_cons pe_int pa_nil)))) (pa_cons (pe_lst (pa_cons pe_int (pa_cons pe_int (pa_cons pe_int pa_nil)))) (pa_cons (pe_lst (pa_cons (pe_un un_neg pe_int) (pa_cons (pe_un un_neg pe_int) (pa_cons pe_int pa_nil)))) pa_nil)))) (nomark _)) (pw_or1 (pt_cmpR (neDK K hr.units) (pe_call (ok_counted T) (hr.mono (by decide)) (by rfl) T.g_counted T.F_counted.kp (b_counted T) .nil pass0 (pa_cons pe_int (pa_cons (pe_lst (pa_cons (pe_tup (pa_cons (pe_lst (pa_cons pe_int pa_nil)) (pa_cons (pv 0) pa_nil))) pa_nil)) pa_nil))) (pe_lst (pa_cons (pe_lst (pa_cons pe_int pa_nil)) pa_nil)) (nomark _))))) (pss_one (ps_ret pe_bl)) (pss_nil))
      (Evl.pss_cut (ps_set (i := 1) sc_law_promises_right.nd rfl (Or.inl rfl) (pe_lst (pa_cons (pe_lst (pa_cons pe_int (pa_cons pe_int pa_nil))) (pa_cons (pe_lst (pa_cons (pe_un un_neg pe_int) (pa_cons pe_int pa_nil))) pa_nil))))
      (Evl.pss_cut (ps_set (i := 2) sc_law_promises_right.nd rfl (Or.inl rfl) (pe_lst (pa_cons (pe_tup (pa_cons (pe_lst pa_nil) (pa_cons (pe_lst (pa_cons (pe_lst (pa_cons pe_int (pa_cons pe_int pa_nil))) (pa_cons (pe_lst (pa_cons pe_int (pa_cons pe_int pa_nil))) pa_nil))) (pa_cons pe_bl pa_nil)))) (pa_cons (pe_tup (pa_cons (pe_lst (pa_cons (pe_tup (pa_cons (pe_lst (pa_cons pe_int (pa_cons pe_int pa_nil))) (pa_cons pe_int pa_nil))) pa_nil)) (pa_cons (pe_lst (pa_cons (pe_lst (pa_cons pe_int (pa_cons pe_int pa_nil))) (pa_cons (pe_lst (pa_cons pe_int (pa_cons pe_int pa_nil))) pa_nil))) (pa_cons pe_bl pa_nil)))) pa_nil))))
      (Evl.pss_cut (ps_set (i := 2) sc_law_promises_right.nd rfl (Or.inl rfl) (pe_op op_cat (pv 2) (pe_lst (pa_cons (pe_tup (pa_cons (pe_lst (pa_cons (pe_tup (pa_cons (pe_lst (pa_cons pe_int pa_nil)) (pa_cons pe_int pa_nil))) pa_nil)) (pa_cons (pv 1) (pa_cons pe_bl pa_nil)))) (pa_cons (pe_tup (pa_cons (pe_lst (pa_cons (pe_tup (pa_cons (pe_lst (pa_cons pe_int (pa_cons pe_int pa_nil))) (pa_cons pe_int pa_nil))) pa_nil)) (pa_cons (pv 1) (pa_cons pe_bl pa_nil)))) pa_nil)))))
      (Evl.pss_cut (ps_set (i := 2) sc_law_promises_right.nd rfl (Or.inl rfl) (pe_op op_cat (pv 2) (pe_lst (pa_cons (pe_tup (pa_cons (pe_lst (pa_cons (pe_tup (pa_cons (pe_lst (pa_cons pe_int (pa_cons pe_int pa_nil))) (pa_cons pe_int pa_nil))) (pa_cons (pe_tup (pa_cons (pe_lst (pa_cons pe_int (pa_cons pe_int pa_nil))) (pa_cons pe_int pa_nil))) pa_nil))) (pa_cons (pv 1) (pa_cons pe_bl pa_nil)))) (pa_cons (pe_tup (pa_cons (pe_lst (pa_cons (pe_tup (pa_cons (pe_lst (pa_cons pe_int (pa_cons pe_int pa_nil))) (pa_cons pe_int pa_nil))) (pa_cons (pe_tup (pa_cons (pe_lst (pa_cons pe_int (pa_cons pe_int pa_nil))) (pa_cons pe_int pa_nil))) pa_nil))) (pa_cons (pv 1) (pa_cons pe_bl pa_nil)))) pa_nil)))))
      (Evl.pss_cut (ps_set (i := 2) sc_law_promises_right.nd rfl (Or.inl rfl) (pe_op op_cat (pv 2) (pe_lst (pa_cons (pe_tup (pa_cons (pe_lst (pa_cons (pe_tup (pa_cons (pe_lst (pa_cons pe_int (pa_cons pe_int pa_nil))) (pa_cons pe_int pa_nil))) pa_nil)) (pa_cons (pv 1) (pa_cons pe_bl pa_nil)))) (pa_cons (pe_tup (pa_cons (pe_lst (pa_cons (pe_tup (pa_cons (pe_lst (pa_cons pe_int (pa_cons pe_int pa_nil))) (pa_cons pe_int pa_nil))) (pa_cons (pe_tup (pa_cons (pe_lst (pa_cons pe_int (pa_cons pe_int pa_nil))) (pa_cons pe_int pa_nil))) pa_nil))) (pa_cons (pv 1) (pa_cons pe_bl pa_nil)))) (pa_cons (pe_tup (pa_cons (pe_lst pa_nil) (pa_cons (pe_lst (pa_cons (pe_lst (pa_cons pe_int pa_nil)) pa_nil)) (pa_cons pe_bl pa_nil)))) pa_nil))))))
      (Evl.pss_cut (ps_set (i := 2) sc_law_promises_right.nd rfl (Or.inl rfl) (pe_op op_cat (pv 2) (pe_lst (pa_cons (pe_tup (pa_cons (pe_lst (pa_cons (pe_tup (pa_cons (pe_lst (pa_cons pe_int pa_nil)) (pa_cons pe_int pa_nil))) pa_nil)) (pa_cons (pe_lst (pa_cons (pe_lst (pa_cons pe_int pa_nil)) pa_nil)) (pa_cons pe_bl pa_nil)))) (pa_cons (pe_tup (pa_cons (pe_lst (pa_cons (pe_tup (pa_cons (pe_lst (pa_cons pe_int (pa_cons pe_int pa_nil))) (pa_cons pe_int pa_nil))) (pa_cons (pe_tup (pa_cons (pe_lst (pa_cons pe_int (pa_cons pe_int pa_nil))) (pa_cons (pe_un un_neg pe_int) pa_nil))) (pa_cons (pe_tup (pa_cons (pe_lst (pa_cons pe_int (pa_cons pe_int pa_nil))) (pa_cons pe_int pa_nil))) pa_nil)))) (pa_cons (pv 1) (pa_cons pe_bl pa_nil)))) pa_nil)))))
      (Evl.pss_cut (ps_for PassesOwn.never rfl (piL K (pv 2)) (pgT K (n := 3) (pgs_cons (pg_name (i := 3) sc_law_promises_right.nd rfl (by first | exact Or.inl rfl | exact Or.inr rfl)) (pgs_cons (pg_name (i := 4) sc_law_promises_right.nd rfl (by first | exact Or.inl rfl | exact Or.inr rfl)) (pgs_cons (pg_name (i := 5) sc_law_promises_right.nd rfl (by first | exact Or.inl rfl | exact Or.inr rfl)) pgs_nil))))
        (pss_one (ps_if (pt_cmpR op_ne ((pe_meth (pe_make T.M_Ballots (ok_Ballots__init T) (hr.mono (by decide)) (by rfl) T.g_Ballots (b_Ballots__init T) .nil pass0 (pa_cons (pv 3) pa_nil)) T.C_Ballots T.S_Ballots (ok_Ballots_shows T) (hr.mono (by decide)) (b_Ballots_shows T) .nil pass0 (pa_cons (pv 4) pa_nil))) (pv 5) (nomark _)) (pss_one (ps_ret pe_bl)) (pss_nil))))
      (Evl.pss_cut (ps_set (i := 6) sc_law_promises_right.nd rfl (Or.inl rfl) (pe_lst (pa_cons (pe_lst (pa_cons pe_int (pa_cons pe_int (pa_cons pe_int pa_nil)))) (pa_cons (pe_lst (pa_cons (pe_un un_neg pe_int) (pa_cons pe_int (pa_cons pe_int pa_nil)))) (pa_cons (pe_lst (pa_cons pe_int (pa_cons (pe_un un_neg pe_int) (pa_cons pe_int pa_nil)))) pa_nil)))))
      (Evl.pss_cut (ps_set (i := 2) sc_law_promises_right.nd rfl (Or.inl rfl) (pe_lst (pa_cons (pe_tup (pa_cons (pe_tup (pa_cons pe_int (pa_cons pe_int pa_nil))) (pa_cons (pe_tup (pa_cons pe_int (pa_cons pe_int pa_nil))) (pa_cons pe_bl pa_nil)))) (pa_cons (pe_tup (pa_cons (pe_tup (pa_cons pe_int (pa_cons pe_int pa_nil))) (pa_cons (pe_tup (pa_cons pe_int (pa_cons pe_int pa_nil))) (pa_cons pe_bl pa_nil)))) (pa_cons (pe_tup (pa_cons (pe_tup (pa_cons pe_int (pa_cons pe_int pa_nil))) (pa_cons (pe_tup (pa_cons pe_int (pa_cons pe_int pa_nil))) (pa_cons pe_bl pa_nil)))) pa_nil)))))
      (Evl.pss_cut (ps_set (i := 2) sc_law_promises_right.nd rfl (Or.inl rfl) (pe_op op_cat (pv 2) (pe_lst (pa_cons (pe_tup (pa_cons (pe_tup (pa_cons pe_int (pa_cons pe_int pa_nil))) (pa_cons (pe_tup (pa_cons pe_int (pa_cons pe_int pa_nil))) (pa_cons pe_bl pa_nil)))) (pa_cons (pe_tup (pa_cons (pe_tup (pa_cons pe_int (pa_cons pe_int pa_nil))) (pa_cons (pe_tup (pa_cons pe_int (pa_cons pe_int pa_nil))) (pa_cons pe_bl pa_nil)))) (pa_cons (pe_tup (pa_cons (pe_tup (pa_cons pe_int (pa_cons pe_int pa_nil))) (pa_cons (pe_tup (pa_cons pe_int (pa_cons pe_int pa_nil))) (pa_cons pe_bl pa_nil)))) pa_nil))))))
      (Evl.pss_cut (ps_set (i := 2) sc_law_promises_right.nd rfl (Or.inl rfl) (pe_op op_cat (pv 2) (pe_lst (pa_cons (pe_tup (pa_cons (pe_tup (pa_cons pe_int (pa_cons pe_int pa_nil))) (pa_cons (pe_tup (pa_cons pe_int (pa_cons pe_int pa_nil))) (pa_cons pe_bl pa_nil)))) (pa_cons (pe_tup (pa_cons (pe_tup (pa_cons pe_int (pa_cons pe_int pa_nil))) (pa_cons (pe_tup (pa_cons pe_int (pa_cons pe_int pa_nil))) (pa_cons pe_bl pa_nil)))) (pa_cons (pe_tup (pa_cons (pe_tup (pa_cons pe_int (pa_cons pe_int pa_nil))) (pa_cons (pe_tup (pa_cons pe_int (pa_cons pe_int pa_nil))) (pa_cons pe_bl pa_nil)))) pa_nil))))))
      (Evl.pss_cut (ps_for PassesOwn.never rfl (piL K (pv 2)) (pgT K (n := 3) (pgs_cons (pg_name (i := 7) sc_law_promises_right.nd rfl (by first | exact Or.inl rfl | exact Or.inr rfl)) (pgs_cons (pg_name (i := 8) sc_law_promises_right.nd rfl (by first | exact Or.inl rfl | exact Or.inr rfl)) (pgs_cons (pg_name (i := 5) sc_law_promises_right.nd rfl (by first | exact Or.inl rfl | exact Or.inr rfl)) pgs_nil))))
        (pss_one (ps_if (pt_cmpR op_ne ((pe_meth (pe_make T.M_Uneven (ok_Uneven__init T) (hr.mono (by decide)) (by rfl) T.g_Uneven (b_Uneven__init T) .nil pass0 (pa_cons (pv 7) (pa_cons (pv 8) pa_nil))) T.C_Uneven T.S_Uneven (ok_Uneven_shows T) (hr.mono (by decide)) (b_Uneven_shows T) .nil pass0 (pa_cons (pv 6) pa_nil))) (pv 5) (nomark _)) (pss_one (ps_ret pe_bl)) (pss_nil))))
      (Evl.pss_cut (ps_if (PW.pt (pw_or (pt_not (pt_val (pe_callB (isiK K) (by rfl) T.n_isinstance PyProof.Rows.boot_isinstance (pa_cons (pe_call (ok_told T) (hr.mono (by decide)) (by rfl) T.g_told T.F_told.kp (b_told T) .nil pass0 (pa_cons (pv 6) pa_nil)) (pa_cons (pe_glob (v := .ref T.c_Uneven) (by rfl) T.g_Uneven rfl) pa_nil))))) (pw_or1 (pt_not (pt_val (pe_callB (isiK K) (by rfl) T.n_isinstance PyProof.Rows.boot_isinstance (pa_cons (pe_call (ok_told T) (hr.mono (by decide)) (by rfl) T.g_told T.F_told.kp (b_told T) .nil pass0 (pa_cons (pe_lst (pa_cons (pe_lst (pa_cons pe_int (pa_cons pe_int pa_nil))) (pa_cons (pe_lst (pa_cons (pe_un un_neg pe_int) (pa_cons pe_int pa_nil))) pa_nil))) pa_nil)) (pa_cons (pe_glob (v := .ref T.c_Ballots) (by rfl) T.g_Ballots rfl) pa_nil)))))))) (pss_one (ps_ret pe_bl)) (pss_nil))
      (Evl.pss_cut (ps_if (PW.pt (pw_or (pt_not (pt_val (pe_callB (isiK K) (by rfl) T.n_isinstance PyProof.Rows.boot_isinstance (pa_cons (pe_call (ok_told T) (hr.mono (by decide)) (by rfl) T.g_told T.F_told.kp (b_told T) .nil pass0 (pa_cons (pe_lst (pa_cons (pe_lst (pa_cons pe_int pa_nil)) pa_nil)) pa_nil)) (pa_cons (pe_glob (v := .ref T.c_Ballots) (by rfl) T.g_Ballots rfl) pa_nil))))) (pw_or1 (pt_not (pt_val (pe_callB (isiK K) (by rfl) T.n_isinstance PyProof.Rows.boot_isinstance (pa_cons (pe_call (ok_told T) (hr.mono (by decide)) (by rfl) T.g_told T.F_told.kp (b_told T) .nil pass0 (pa_cons (pe_lst (pa_cons (pe_lst (pa_cons pe_int (pa_cons (pv 0) pa_nil))) (pa_cons (pe_lst (pa_cons (pe_un un_neg (pv 0)) (pa_cons pe_int pa_nil))) pa_nil))) pa_nil)) (pa_cons (pe_glob (v := .ref T.c_Ballots) (by rfl) T.g_Ballots rfl) pa_nil)))))))) (pss_one (ps_ret pe_bl)) (pss_nil))
      (Evl.pss_cut (ps_set (i := 2) sc_law_promises_right.nd rfl (Or.inl rfl) (pe_lst (pa_cons (pv 1) (pa_cons (pe_lst (pa_cons (pe_lst (pa_cons pe_int (pa_cons pe_int (pa_cons (pe_un un_neg pe_int) pa_nil)))) (pa_cons (pe_lst (pa_cons (pe_un un_neg pe_int) (pa_cons pe_int (pa_cons pe_int pa_nil)))) (pa_cons (pe_lst (pa_cons pe_int (pa_cons (pe_un un_neg pe_int) (pa_cons pe_int pa_nil)))) pa_nil)))) (pa_cons (pe_lst (pa_cons (pe_lst (pa_cons pe_int (pa_cons pe_int (pa_cons (pe_un un_neg pe_int) pa_nil)))) (pa_cons (pe_lst (pa_cons (pe_un un_neg pe_int) (pa_cons pe_int (pa_cons pe_int pa_nil)))) (pa_cons (pe_lst (pa_cons pe_int (pa_cons (pe_un un_neg pe_int) (pa_cons pe_int pa_nil)))) pa_nil)))) pa_nil)))))
      (Evl.pss_cut (ps_set (i := 2) sc_law_promises_right.nd rfl (Or.inl rfl) (pe_op op_cat (pv 2) (pe_lst (pa_cons (pe_lst (pa_cons (pe_lst (pa_cons pe_int (pa_cons (pv 0) pa_nil))) (pa_cons (pe_lst (pa_cons (pe_un un_neg (pv 0)) (pa_cons pe_int pa_nil))) pa_nil))) (pa_cons (pe_op op_rep (pe_lst (pa_cons (pe_op op_rep (pe_lst (pa_cons pe_int pa_nil)) pe_int) pa_nil)) pe_int) (pa_cons (pe_lst (pa_cons (pe_lst (pa_cons pe_int pa_nil)) pa_nil)) pa_nil))))))
      (Evl.pss_cut (ps_for PassesOwn.never rfl (piL K (pv 2)) (pg_name (i := 4) sc_law_promises_right.nd rfl (by first | exact Or.inl rfl | exact Or.inr rfl))
        (pss_one (ps_if (pt_cmpR (neDK K hr.units) (pe_call (ok_counted T) (hr.mono (by decide)) (by rfl) T.g_counted T.F_counted.kp (b_counted T) .nil pass0 (pa_cons (pe_callB (lenK K) (by rfl) T.n_len PySem.boot_len (pa_cons (pv 4) pa_nil)) (pa_cons (fldK K (pe_call (ok_told T) (hr.mono (by decide)) (by rfl) T.g_told T.F_told.kp (b_told T) .nil pass0 (pa_cons (pv 4) pa_nil))) pa_nil))) (pv 4) (nomark _)) (pss_one (ps_ret pe_bl)) (pss_nil))))
      (pss_one (ps_ret (pe_call0 (ok_law_rings_promises T) (hr.mono (by decide)) (by rfl) T.g_law_rings_promises T.F_law_rings_promises.kp (b_law_rings_promises T) .nil pass0))))))))))))))))))))))), ?_⟩
    refine ⟨fun σ' H' => σ' = [some (.int 1000000000000000000000000000000), none, none, none, none, none, none, none, none] ∧ Ex H H', ?_, ?_⟩
    · exact ⟨_, _, rfl, rfl, ⟨by decide, by decide, by decide⟩, rfl, Ex.refl _⟩
    rintro _ Hn0 ⟨rfl, e0⟩
    refine ⟨fun σ' H' => σ' = [some (.int 1000000000000000000000000000000), none, none, none, none, none, none, none, none] ∧ Ex Hn0 H', ?_, ?_⟩
    · refine ⟨(by decide : 0 ≤ sizeLine), fun p1 np1 => ?_⟩
      generalize g1 : upd _ p1 _ = G1
      have f1 : Ex Hn0 G1 := by rw [← g1]; exact Ex.new np1
      have k1 : G1 p1 = some (.lst []) := by rw [← g1]; exact upd_same
      clear g1
      refine ⟨1, _, ([] : List (List Nat × Int)), rfl, by decide, by decide, ⟨p1, _, rfl, sq_of k1, .nil⟩, by decide, fun G2 t2 r2 f2 T2 => ?_⟩
      refine ⟨(by decide : 1 ≤ sizeLine), fun p3 np3 => ?_⟩
      generalize g3 : upd _ p3 _ = G3
      have f3 : Ex G2 G3 := by rw [← g3]; exact Ex.new np3
      have k3 : G3 p3 = some (.lst [.int 0]) := by rw [← g3]; exact upd_same
      clear g3
      refine ⟨(by decide : 1 ≤ sizeLine), fun p4 np4 => ?_⟩
      generalize g4 : upd _ p4 _ = G4
      have f4 : Ex G3 G4 := by rw [← g4]; exact Ex.new np4
      have k4 : G4 p4 = some (.lst [.ref p3]) := by rw [← g4]; exact upd_same
      clear g4
      refine ⟨_, _, TabR.dp (n := 1) (f := (cnt ([] : List (List Nat × Int)))) (T2.rd.mono ((f3.trans f4))), TabR.dp (n := 1) (f := (litF [[0]])) (tabR_lit (rs := [p3]) [[0]] k4 (by decide) (.cons (f4 _ _ k3) .nil) : TabR K _ _ 1 (litF [[0]])), shaped_tab _ _, shaped_tab _ _, _, rfl, itF (by rw [eqv_tab (n := 1) (f := (cnt ([] : List (List Nat × Int)))) (g := (litF [[0]])) (fin2 (by decide +kernel))]; rfl) ?_⟩
      refine ⟨(by decide : 2 ≤ sizeLine), fun p5 np5 => ?_⟩
      generalize g5 : upd _ p5 _ = G5
      have f5 : Ex G4 G5 := by rw [← g5]; exact Ex.new np5
      have k5 : G5 p5 = some (.lst [.int 0, .int 1]) := by rw [← g5]; exact upd_same
      clear g5
      refine ⟨(by decide : 2 ≤ sizeLine), fun p6 np6 => ?_⟩
      generalize g6 : upd _ p6 _ = G6
      have f6 : Ex G5 G6 := by rw [← g6]; exact Ex.new np6
      have k6 : G6 p6 = some (.tup [.ref p5, .int 3]) := by rw [← g6]; exact upd_same
      clear g6
      refine ⟨(by decide : 2 ≤ sizeLine), fun p7 np7 => ?_⟩
      generalize g7 : upd _ p7 _ = G7
      have f7 : Ex G6 G7 := by rw [← g7]; exact Ex.new np7
      have k7 : G7 p7 = some (.lst [.int 1, .int 0]) := by rw [← g7]; exact upd_same
      clear g7
      refine ⟨(by decide : 2 ≤ sizeLine), fun p8 np8 => ?_⟩
      generalize g8 : upd _ p8 _ = G8
      have f8 : Ex G7 G8 := by rw [← g8]; exact Ex.new np8
      have k8 : G8 p8 = some (.tup [.ref p7, .int 1]) := by rw [← g8]; exact upd_same
      clear g8
      refine ⟨(by decide : 2 ≤ sizeLine), fun p9 np9 => ?_⟩
      generalize g9 : upd _ p9 _ = G9
      have f9 : Ex G8 G9 := by rw [← g9]; exact Ex.new np9
      have k9 : G9 p9 = some (.lst [.ref p6, .ref p8]) := by rw [← g9]; exact upd_same
      clear g9
      refine ⟨2, _, ([([0, 1], 3), ([1, 0], 1)] : List (List Nat × Int)), rfl, by decide, by decide, ⟨p9, _, rfl, sq_of k9, (.cons ⟨p6, p5, rfl, st_of (f9 _ _ (f8 _ _ (f7 _ _ k6))), sq_of (f9 _ _ (f8 _ _ (f7 _ _ (f6 _ _ k5))))⟩ (.cons ⟨p8, p7, rfl, st_of (f9 _ _ k8), sq_of (f9 _ _ (f8 _ _ k7))⟩ .nil))⟩, by decide, fun G10 t10 r10 f10 T10 => ?_⟩
      refine ⟨(by decide : 2 ≤ sizeLine), fun p11 np11 => ?_⟩
      generalize g11 : upd _ p11 _ = G11
      have f11 : Ex G10 G11 := by rw [← g11]; exact Ex.new np11
      have k11 : G11 p11 = some (.lst [.int 0, .int 2]) := by rw [← g11]; exact upd_same
      clear g11
      refine ⟨_, rfl, (by decide : 2 ≤ sizeLine), fun p12 np12 => ?_⟩
      generalize g12 : upd _ p12 _ = G12
      have f12 : Ex G11 G12 := by rw [← g12]; exact Ex.new np12
      have k12 : G12 p12 = some (.lst [.int (-2), .int 0]) := by rw [← g12]; exact upd_same
      clear g12
      refine ⟨(by decide : 2 ≤ sizeLine), fun p13 np13 => ?_⟩
      generalize g13 : upd _ p13 _ = G13
      have f13 : Ex G12 G13 := by rw [← g13]; exact Ex.new np13
      have k13 : G13 p13 = some (.lst [.ref p11, .ref p12]) := by rw [← g13]; exact upd_same
      clear g13
      refine ⟨_, _, TabR.dp (n := 2) (f := (cnt ([([0, 1], 3), ([1, 0], 1)] : List (List Nat × Int)))) (T10.rd.mono ((f11.trans (f12.trans f13)))), TabR.dp (n := 2) (f := (litF [[0, 2], [-2, 0]])) (tabR_lit (rs := [p11, p12]) [[0, 2], [-2, 0]] k13 (by decide) (.cons (f13 _ _ (f12 _ _ k11)) (.cons (f13 _ _ k12) .nil)) : TabR K _ _ 2 (litF [[0, 2], [-2, 0]])), shaped_tab _ _, shaped_tab _ _, _, rfl, itF (by rw [eqv_tab (n := 2) (f := (cnt ([([0, 1], 3), ([1, 0], 1)] : List (List Nat × Int)))) (g := (litF [[0, 2], [-2, 0]])) (fin2 (by decide +kernel))]; rfl) ?_⟩
      exact ⟨rfl, ((f1.trans (f2.trans (f3.trans (f4.trans (f5.trans (f6.trans (f7.trans (f8.trans (f9.trans (f10.trans (f11.trans (f12.trans f13)))))))))))))⟩
    rintro _ Hn1 ⟨rfl, en⟩
    replace e0 := e0.trans en
    clear en
    refine ⟨fun σ' H' => σ' = [some (.int 1000000000000000000000000000000), none, none, none, none, none, none, none, none] ∧ Ex Hn1 H', ?_, ?_⟩
    · refine ⟨(by decide : 2 ≤ sizeLine), fun p1 np1 => ?_⟩
      generalize g1 : upd _ p1 _ = G1
      have f1 : Ex Hn1 G1 := by rw [← g1]; exact Ex.new np1
      have k1 : G1 p1 = some (.lst [.int 1, .int 0]) := by rw [← g1]; exact upd_same
      clear g1
      refine ⟨_, rfl, (by decide : 2 ≤ sizeLine), fun p2 np2 => ?_⟩
      generalize g2 : upd _ p2 _ = G2
      have f2 : Ex G1 G2 := by rw [← g2]; exact Ex.new np2
      have k2 : G2 p2 = some (.tup [.ref p1, .int 1000000000000000000000000000000]) := by rw [← g2]; exact upd_same
      clear g2
      refine ⟨(by decide : 2 ≤ sizeLine), fun p3 np3 => ?_⟩
      generalize g3 : upd _ p3 _ = G3
      have f3 : Ex G2 G3 := by rw [← g3]; exact Ex.new np3
      have k3 : G3 p3 = some (.lst [.int 1, .int 0]) := by rw [← g3]; exact upd_same
      clear g3
      refine ⟨(by decide : 2 ≤ sizeLine), fun p4 np4 => ?_⟩
      generalize g4 : upd _ p4 _ = G4
      have f4 : Ex G3 G4 := by rw [← g4]; exact Ex.new np4
      have k4 : G4 p4 = some (.tup [.ref p3, .int 1]) := by rw [← g4]; exact upd_same
      clear g4
      refine ⟨(by decide : 2 ≤ sizeLine), fun p5 np5 => ?_⟩
      generalize g5 : upd _ p5 _ = G5
      have f5 : Ex G4 G5 := by rw [← g5]; exact Ex.new np5
      have k5 : G5 p5 = some (.lst [.ref p2, .ref p4]) := by rw [← g5]; exact upd_same
      clear g5
      refine ⟨2, _, ([([1, 0], 1000000000000000000000000000000), ([1, 0], 1)] : List (List Nat × Int)), rfl, by decide, by decide, ⟨p5, _, rfl, sq_of k5, (.cons ⟨p2, p1, rfl, st_of (f5 _ _ (f4 _ _ (f3 _ _ k2))), sq_of (f5 _ _ (f4 _ _ (f3 _ _ (f2 _ _ k1))))⟩ (.cons ⟨p4, p3, rfl, st_of (f5 _ _ k4), sq_of (f5 _ _ (f4 _ _ k3))⟩ .nil))⟩, by decide, fun G6 t6 r6 f6 T6 => ?_⟩
      refine ⟨_, rfl, _, rfl, _, _, rfl, rfl, (by decide : 2 ≤ sizeLine), fun p7 np7 => ?_⟩
      generalize g7 : upd _ p7 _ = G7
      have f7 : Ex G6 G7 := by rw [← g7]; exact Ex.new np7
      have k7 : G7 p7 = some (.lst [.int 0, .int (-1000000000000000000000000000001)]) := by rw [← g7]; exact upd_same
      clear g7
      refine ⟨_, rfl, _, _, rfl, rfl, (by decide : 2 ≤ sizeLine), fun p8 np8 => ?_⟩
      generalize g8 : upd _ p8 _ = G8
      have f8 : Ex G7 G8 := by rw [← g8]; exact Ex.new np8
      have k8 : G8 p8 = some (.lst [.int (1000000000000000000000000000001), .int 0]) := by rw [← g8]; exact upd_same
      clear g8
      refine ⟨(by decide : 2 ≤ sizeLine), fun p9 np9 => ?_⟩
      generalize g9 : upd _ p9 _ = G9
      have f9 : Ex G8 G9 := by rw [← g9]; exact Ex.new np9
      have k9 : G9 p9 = some (.lst [.ref p7, .ref p8]) := by rw [← g9]; exact upd_same
      clear g9
      refine ⟨_, _, TabR.dp (n := 2) (f := (cnt ([([1, 0], 1000000000000000000000000000000), ([1, 0], 1)] : List (List Nat × Int)))) (T6.rd.mono ((f7.trans (f8.trans f9)))), TabR.dp (n := 2) (f := (litF [[0, -1000000000000000000000000000001], [1000000000000000000000000000001, 0]])) (tabR_lit (rs := [p7, p8]) [[0, -1000000000000000000000000000001], [1000000000000000000000000000001, 0]] k9 (by decide) (.cons (f9 _ _ (f8 _ _ k7)) (.cons (f9 _ _ k8) .nil)) : TabR K _ _ 2 (litF [[0, -1000000000000000000000000000001], [1000000000000000000000000000001, 0]])), shaped_tab _ _, shaped_tab _ _, _, rfl, itF (by rw [eqv_tab (n := 2) (f := (cnt ([([1, 0], 1000000000000000000000000000000), ([1, 0], 1)] : List (List Nat × Int)))) (g := (litF [[0, -1000000000000000000000000000001], [1000000000000000000000000000001, 0]])) (fin2 (by decide +kernel))]; rfl) ?_⟩
      exact ⟨rfl, ((f1.trans (f2.trans (f3.trans (f4.trans (f5.trans (f6.trans (f7.trans (f8.trans f9)))))))))⟩
    rintro _ Hn2 ⟨rfl, en⟩
    replace e0 := e0.trans en
    clear en
    refine ⟨fun σ' H' => σ' = [some (.int 1000000000000000000000000000000), none, none, none, none, none, none, none, none] ∧ Ex Hn2 H', ?_, ?_⟩
    · refine ⟨(by decide : 3 ≤ sizeLine), fun p1 np1 => ?_⟩
      generalize g1 : upd _ p1 _ = G1
      have f1 : Ex Hn2 G1 := by rw [← g1]; exact Ex.new np1
      have k1 : G1 p1 = some (.lst [.int 1, .int 0, .int 2]) := by rw [← g1]; exact upd_same
      clear g1
      refine ⟨(by decide : 2 ≤ sizeLine), fun p2 np2 => ?_⟩
      generalize g2 : upd _ p2 _ = G2
      have f2 : Ex G1 G2 := by rw [← g2]; exact Ex.new np2
      have k2 : G2 p2 = some (.tup [.ref p1, .int 2]) := by rw [← g2]; exact upd_same
      clear g2
      refine ⟨(by decide : 1 ≤ sizeLine), fun p3 np3 => ?_⟩
      generalize g3 : upd _ p3 _ = G3
      have f3 : Ex G2 G3 := by rw [← g3]; exact Ex.new np3
      have k3 : G3 p3 = some (.lst [.ref p2]) := by rw [← g3]; exact upd_same
      clear g3
      refine ⟨3, _, ([([1, 0, 2], 2)] : List (List Nat × Int)), rfl, by decide, by decide, ⟨p3, _, rfl, sq_of k3, (.cons ⟨p2, p1, rfl, st_of (f3 _ _ k2), sq_of (f3 _ _ (f2 _ _ k1))⟩ .nil)⟩, by decide, fun G4 t4 r4 f4 T4 => ?_⟩
      refine ⟨_, rfl, (by decide : 3 ≤ sizeLine), fun p5 np5 => ?_⟩
      generalize g5 : upd _ p5 _ = G5
      have f5 : Ex G4 G5 := by rw [← g5]; exact Ex.new np5
      have k5 : G5 p5 = some (.lst [.int 0, .int (-2), .int 2]) := by rw [← g5]; exact upd_same
      clear g5
      refine ⟨(by decide : 3 ≤ sizeLine), fun p6 np6 => ?_⟩
      generalize g6 : upd _ p6 _ = G6
      have f6 : Ex G5 G6 := by rw [← g6]; exact Ex.new np6
      have k6 : G6 p6 = some (.lst [.int 2, .int 0, .int 2]) := by rw [← g6]; exact upd_same
      clear g6
      refine ⟨_, rfl, _, rfl, (by decide : 3 ≤ sizeLine), fun p7 np7 => ?_⟩
      generalize g7 : upd _ p7 _ = G7
      have f7 : Ex G6 G7 := by rw [← g7]; exact Ex.new np7
      have k7 : G7 p7 = some (.lst [.int (-2), .int (-2), .int 0]) := by rw [← g7]; exact upd_same
      clear g7
      refine ⟨(by decide : 3 ≤ sizeLine), fun p8 np8 => ?_⟩
      generalize g8 : upd _ p8 _ = G8
      have f8 : Ex G7 G8 := by rw [← g8]; exact Ex.new np8
      have k8 : G8 p8 = some (.lst [.ref p5, .ref p6, .ref p7]) := by rw [← g8]; exact upd_same
      clear g8
      refine ⟨_, _, TabR.dp (n := 3) (f := (cnt ([([1, 0, 2], 2)] : List (List Nat × Int)))) (T4.rd.mono ((f5.trans (f6.trans (f7.trans f8))))), TabR.dp (n := 3) (f := (litF [[0, -2, 2], [2, 0, 2], [-2, -2, 0]])) (tabR_lit (rs := [p5, p6, p7]) [[0, -2, 2], [2, 0, 2], [-2, -2, 0]] k8 (by decide) (.cons (f8 _ _ (f7 _ _ (f6 _ _ k5))) (.cons (f8 _ _ (f7 _ _ k6)) (.cons (f8 _ _ k7) .nil))) : TabR K _ _ 3 (litF [[0, -2, 2], [2, 0, 2], [-2, -2, 0]])), shaped_tab _ _, shaped_tab _ _, _, rfl, itF (by rw [eqv_tab (n := 3) (f := (cnt ([([1, 0, 2], 2)] : List (List Nat × Int)))) (g := (litF [[0, -2, 2], [2, 0, 2], [-2, -2, 0]])) (fin2 (by decide +kernel))]; rfl) ?_⟩
      refine ⟨(by decide : 1 ≤ sizeLine), fun p9 np9 => ?_⟩
      generalize g9 : upd _ p9 _ = G9
      have f9 : Ex G8 G9 := by rw [← g9]; exact Ex.new np9
      have k9 : G9 p9 = some (.lst [.int 0]) := by rw [← g9]; exact upd_same
      clear g9
      refine ⟨_, rfl, (by decide : 2 ≤ sizeLine), fun p10 np10 => ?_⟩
      generalize g10 : upd _ p10 _ = G10
      have f10 : Ex G9 G10 := by rw [← g10]; exact Ex.new np10
      have k10 : G10 p10 = some (.tup [.ref p9, .int 1000000000000000000000000000000]) := by rw [← g10]; exact upd_same
      clear g10
      refine ⟨(by decide : 1 ≤ sizeLine), fun p11 np11 => ?_⟩
      generalize g11 : upd _ p11 _ = G11
      have f11 : Ex G10 G11 := by rw [← g11]; exact Ex.new np11
      have k11 : G11 p11 = some (.lst [.ref p10]) := by rw [← g11]; exact upd_same
      clear g11
      refine ⟨1, _, ([([0], 1000000000000000000000000000000)] : List (List Nat × Int)), rfl, by decide, by decide, ⟨p11, _, rfl, sq_of k11, (.cons ⟨p10, p9, rfl, st_of (f11 _ _ k10), sq_of (f11 _ _ (f10 _ _ k9))⟩ .nil)⟩, by decide, fun G12 t12 r12 f12 T12 => ?_⟩
      refine ⟨(by decide : 1 ≤ sizeLine), fun p13 np13 => ?_⟩
      generalize g13 : upd _ p13 _ = G13
      have f13 : Ex G12 G13 := by rw [← g13]; exact Ex.new np13
      have k13 : G13 p13 = some (.lst [.int 0]) := by rw [← g13]; exact upd_same
      clear g13
      refine ⟨(by decide : 1 ≤ sizeLine), fun p14 np14 => ?_⟩
      generalize g14 : upd _ p14 _ = G14
      have f14 : Ex G13 G14 := by rw [← g14]; exact Ex.new np14
      have k14 : G14 p14 = some (.lst [.ref p13]) := by rw [← g14]; exact upd_same
      clear g14
      refine ⟨_, _, TabR.dp (n := 1) (f := (cnt ([([0], 1000000000000000000000000000000)] : List (List Nat × Int)))) (T12.rd.mono ((f13.trans f14))), TabR.dp (n := 1) (f := (litF [[0]])) (tabR_lit (rs := [p13]) [[0]] k14 (by decide) (.cons (f14 _ _ k13) .nil) : TabR K _ _ 1 (litF [[0]])), shaped_tab _ _, shaped_tab _ _, _, rfl, itF (by rw [eqv_tab (n := 1) (f := (cnt ([([0], 1000000000000000000000000000000)] : List (List Nat × Int)))) (g := (litF [[0]])) (fin2 (by decide +kernel))]; rfl) ?_⟩
      exact ⟨rfl, ((f1.trans (f2.trans (f3.trans (f4.trans (f5.trans (f6.trans (f7.trans (f8.trans (f9.trans (f10.trans (f11.trans (f12.trans (f13.trans f14))))))))))))))⟩
    rintro _ Hn3 ⟨rfl, en⟩
    replace e0 := e0.trans en
    clear en
    refine ⟨fun σ' H' => ∃ (vtwo : V), σ' = [some (.int 1000000000000000000000000000000), some vtwo, none, none, none, none, none, none, none] ∧ Ex Hn3 H' ∧ TabR K H' vtwo 2 (litF [[0, 2], [-2, 0]]), ?_, ?_⟩
    · refine ⟨(by decide : 2 ≤ sizeLine), fun p1 np1 => ?_⟩
      generalize g1 : upd _ p1 _ = G1
      have f1 : Ex Hn3 G1 := by rw [← g1]; exact Ex.new np1
      have k1 : G1 p1 = some (.lst [.int 0, .int 2]) := by rw [← g1]; exact upd_same
      clear g1
      refine ⟨_, rfl, (by decide : 2 ≤ sizeLine), fun p2 np2 => ?_⟩
      generalize g2 : upd _ p2 _ = G2
      have f2 : Ex G1 G2 := by rw [← g2]; exact Ex.new np2
      have k2 : G2 p2 = some (.lst [.int (-2), .int 0]) := by rw [← g2]; exact upd_same
      clear g2
      refine ⟨(by decide : 2 ≤ sizeLine), fun p3 np3 => ?_⟩
      generalize g3 : upd _ p3 _ = G3
      have f3 : Ex G2 G3 := by rw [← g3]; exact Ex.new np3
      have k3 : G3 p3 = some (.lst [.ref p1, .ref p2]) := by rw [← g3]; exact upd_same
      clear g3
      exact ⟨_, rfl, ((f1.trans (f2.trans f3))), (tabR_lit (rs := [p1, p2]) [[0, 2], [-2, 0]] k3 (by decide) (.cons (f3 _ _ (f2 _ _ k1)) (.cons (f3 _ _ k2) .nil)) : TabR K _ _ 2 (litF [[0, 2], [-2, 0]]))⟩
    rintro _ Hn4 ⟨vtwo, rfl, en, TW⟩
    replace e0 := e0.trans en
    clear en
    refine ⟨fun σ' H' => ∃ (b : Addr) (xs : List V), σ' = [some (.int 1000000000000000000000000000000), some vtwo, some (.ref b), none, none, none, none, none, none] ∧ Ex Hn4 H' ∧ H' b = some (.lst xs) ∧ xs.length = 2 ∧ ∀ x ∈ xs, CaseB K H' x, ?_, ?_⟩
    · refine ⟨(by decide : 0 ≤ sizeLine), fun p1 np1 => ?_⟩
      generalize g1 : upd _ p1 _ = G1
      have f1 : Ex Hn4 G1 := by rw [← g1]; exact Ex.new np1
      have k1 : G1 p1 = some (.lst []) := by rw [← g1]; exact upd_same
      clear g1
      refine ⟨(by decide : 2 ≤ sizeLine), fun p2 np2 => ?_⟩
      generalize g2 : upd _ p2 _ = G2
      have f2 : Ex G1 G2 := by rw [← g2]; exact Ex.new np2
      have k2 : G2 p2 = some (.lst [.int 0, .int 0]) := by rw [← g2]; exact upd_same
      clear g2
      refine ⟨(by decide : 2 ≤ sizeLine), fun p3 np3 => ?_⟩
      generalize g3 : upd _ p3 _ = G3
      have f3 : Ex G2 G3 := by rw [← g3]; exact Ex.new np3
      have k3 : G3 p3 = some (.lst [.int 0, .int 0]) := by rw [← g3]; exact upd_same
      clear g3
      refine ⟨(by decide : 2 ≤ sizeLine), fun p4 np4 => ?_⟩
      generalize g4 : upd _ p4 _ = G4
      have f4 : Ex G3 G4 := by rw [← g4]; exact Ex.new np4
      have k4 : G4 p4 = some (.lst [.ref p2, .ref p3]) := by rw [← g4]; exact upd_same
      clear g4
      refine ⟨(by decide : 3 ≤ sizeLine), fun p5 np5 => ?_⟩
      generalize g5 : upd _ p5 _ = G5
      have f5 : Ex G4 G5 := by rw [← g5]; exact Ex.new np5
      have k5 : G5 p5 = some (.tup [.ref p1, .ref p4, .bl true]) := by rw [← g5]; exact upd_same
      clear g5
      refine ⟨(by decide : 2 ≤ sizeLine), fun p6 np6 => ?_⟩
      generalize g6 : upd _ p6 _ = G6
      have f6 : Ex G5 G6 := by rw [← g6]; exact Ex.new np6
      have k6 : G6 p6 = some (.lst [.int 0, .int 1]) := by rw [← g6]; exact upd_same
      clear g6
      refine ⟨(by decide : 2 ≤ sizeLine), fun p7 np7 => ?_⟩
      generalize g7 : upd _ p7 _ = G7
      have f7 : Ex G6 G7 := by rw [← g7]; exact Ex.new np7
      have k7 : G7 p7 = some (.tup [.ref p6, .int 0]) := by rw [← g7]; exact upd_same
      clear g7
      refine ⟨(by decide : 1 ≤ sizeLine), fun p8 np8 => ?_⟩
      generalize g8 : upd _ p8 _ = G8
      have f8 : Ex G7 G8 := by rw [← g8]; exact Ex.new np8
      have k8 : G8 p8 = some (.lst [.ref p7]) := by rw [← g8]; exact upd_same
      clear g8
      refine ⟨(by decide : 2 ≤ sizeLine), fun p9 np9 => ?_⟩
      generalize g9 : upd _ p9 _ = G9
      have f9 : Ex G8 G9 := by rw [← g9]; exact Ex.new np9
      have k9 : G9 p9 = some (.lst [.int 0, .int 0]) := by rw [← g9]; exact upd_same
      clear g9
      refine ⟨(by decide : 2 ≤ sizeLine), fun p10 np10 => ?_⟩
      generalize g10 : upd _ p10 _ = G10
      have f10 : Ex G9 G10 := by rw [← g10]; exact Ex.new np10
      have k10 : G10 p10 = some (.lst [.int 0, .int 0]) := by rw [← g10]; exact upd_same
      clear g10
      refine ⟨(by decide : 2 ≤ sizeLine), fun p11 np11 => ?_⟩
      generalize g11 : upd _ p11 _ = G11
      have f11 : Ex G10 G11 := by rw [← g11]; exact Ex.new np11
      have k11 : G11 p11 = some (.lst [.ref p9, .ref p10]) := by rw [← g11]; exact upd_same
      clear g11
      refine ⟨(by decide : 3 ≤ sizeLine), fun p12 np12 => ?_⟩
      generalize g12 : upd _ p12 _ = G12
      have f12 : Ex G11 G12 := by rw [← g12]; exact Ex.new np12
      have k12 : G12 p12 = some (.tup [.ref p8, .ref p11, .bl false]) := by rw [← g12]; exact upd_same
      clear g12
      refine ⟨(by decide : 2 ≤ sizeLine), fun p13 np13 => ?_⟩
      generalize g13 : upd _ p13 _ = G13
      have f13 : Ex G12 G13 := by rw [← g13]; exact Ex.new np13
      have k13 : G13 p13 = some (.lst [.ref p5, .ref p12]) := by rw [← g13]; exact upd_same
      clear g13
      exact ⟨p13, _, rfl, ((f1.trans (f2.trans (f3.trans (f4.trans (f5.trans (f6.trans (f7.trans (f8.trans (f9.trans (f10.trans (f11.trans (f12.trans f13))))))))))))), k13, rfl, allc (⟨p5, _, _, true, ([] : List (List Nat × Int)), 2, (litF [[0, 0], [0, 0]]), rfl, (f13 _ _ (f12 _ _ (f11 _ _ (f10 _ _ (f9 _ _ (f8 _ _ (f7 _ _ (f6 _ _ k5)))))))), ⟨p1, _, rfl, sq_of (f13 _ _ (f12 _ _ (f11 _ _ (f10 _ _ (f9 _ _ (f8 _ _ (f7 _ _ (f6 _ _ (f5 _ _ (f4 _ _ (f3 _ _ (f2 _ _ k1)))))))))))), .nil⟩, by decide, by decide, by decide, (tabR_lit (rs := [p2, p3]) [[0, 0], [0, 0]] (f13 _ _ (f12 _ _ (f11 _ _ (f10 _ _ (f9 _ _ (f8 _ _ (f7 _ _ (f6 _ _ (f5 _ _ k4))))))))) (by decide) (.cons (f13 _ _ (f12 _ _ (f11 _ _ (f10 _ _ (f9 _ _ (f8 _ _ (f7 _ _ (f6 _ _ (f5 _ _ (f4 _ _ (f3 _ _ k2))))))))))) (.cons (f13 _ _ (f12 _ _ (f11 _ _ (f10 _ _ (f9 _ _ (f8 _ _ (f7 _ _ (f6 _ _ (f5 _ _ (f4 _ _ k3)))))))))) .nil)) : TabR K _ _ 2 (litF [[0, 0], [0, 0]])), by decide +kernel⟩)
        (allc (⟨p12, _, _, false, ([([0, 1], 0)] : List (List Nat × Int)), 2, (litF [[0, 0], [0, 0]]), rfl, (f13 _ _ k12), ⟨p8, _, rfl, sq_of (f13 _ _ (f12 _ _ (f11 _ _ (f10 _ _ (f9 _ _ k8))))), (.cons ⟨p7, p6, rfl, st_of (f13 _ _ (f12 _ _ (f11 _ _ (f10 _ _ (f9 _ _ (f8 _ _ k7)))))), sq_of (f13 _ _ (f12 _ _ (f11 _ _ (f10 _ _ (f9 _ _ (f8 _ _ (f7 _ _ k6)))))))⟩ .nil)⟩, by decide, by decide, by decide, (tabR_lit (rs := [p9, p10]) [[0, 0], [0, 0]] (f13 _ _ (f12 _ _ k11)) (by decide) (.cons (f13 _ _ (f12 _ _ (f11 _ _ (f10 _ _ k9)))) (.cons (f13 _ _ (f12 _ _ (f11 _ _ k10))) .nil)) : TabR K _ _ 2 (litF [[0, 0], [0, 0]])), by decide +kernel⟩)
        (alln))⟩
    rintro _ Hn5 ⟨b0, xs0, rfl, en, hb0, hl0, hx0⟩
    replace TW := TW.mono en
    replace e0 := e0.trans en
    clear en
    refine ⟨fun σ' H' => ∃ (b : Addr) (xs : List V), σ' = [some (.int 1000000000000000000000000000000), some vtwo, some (.ref b), none, none, none, none, none, none] ∧ Ex Hn5 H' ∧ H' b = some (.lst xs) ∧ xs.length = 4 ∧ ∀ x ∈ xs, CaseB K H' x, ?_, ?_⟩
    · refine ⟨_, rfl, (by decide : 1 ≤ sizeLine), fun p1 np1 => ?_⟩
      generalize g1 : upd _ p1 _ = G1
      have f1 : Ex Hn5 G1 := by rw [← g1]; exact Ex.new np1
      have k1 : G1 p1 = some (.lst [.int 0]) := by rw [← g1]; exact upd_same
      clear g1
      refine ⟨(by decide : 2 ≤ sizeLine), fun p2 np2 => ?_⟩
      generalize g2 : upd _ p2 _ = G2
      have f2 : Ex G1 G2 := by rw [← g2]; exact Ex.new np2
      have k2 : G2 p2 = some (.tup [.ref p1, .int 1]) := by rw [← g2]; exact upd_same
      clear g2
      refine ⟨(by decide : 1 ≤ sizeLine), fun p3 np3 => ?_⟩
      generalize g3 : upd _ p3 _ = G3
      have f3 : Ex G2 G3 := by rw [← g3]; exact Ex.new np3
      have k3 : G3 p3 = some (.lst [.ref p2]) := by rw [← g3]; exact upd_same
      clear g3
      refine ⟨_, rfl, (by decide : 3 ≤ sizeLine), fun p4 np4 => ?_⟩
      generalize g4 : upd _ p4 _ = G4
      have f4 : Ex G3 G4 := by rw [← g4]; exact Ex.new np4
      have k4 : G4 p4 = some (.tup [.ref p3, vtwo, .bl false]) := by rw [← g4]; exact upd_same
      clear g4
      refine ⟨(by decide : 2 ≤ sizeLine), fun p5 np5 => ?_⟩
      generalize g5 : upd _ p5 _ = G5
      have f5 : Ex G4 G5 := by rw [← g5]; exact Ex.new np5
      have k5 : G5 p5 = some (.lst [.int 0, .int 1]) := by rw [← g5]; exact upd_same
      clear g5
      refine ⟨(by decide : 2 ≤ sizeLine), fun p6 np6 => ?_⟩
      generalize g6 : upd _ p6 _ = G6
      have f6 : Ex G5 G6 := by rw [← g6]; exact Ex.new np6
      have k6 : G6 p6 = some (.tup [.ref p5, .int 2]) := by rw [← g6]; exact upd_same
      clear g6
      refine ⟨(by decide : 1 ≤ sizeLine), fun p7 np7 => ?_⟩
      generalize g7 : upd _ p7 _ = G7
      have f7 : Ex G6 G7 := by rw [← g7]; exact Ex.new np7
      have k7 : G7 p7 = some (.lst [.ref p6]) := by rw [← g7]; exact upd_same
      clear g7
      refine ⟨_, rfl, (by decide : 3 ≤ sizeLine), fun p8 np8 => ?_⟩
      generalize g8 : upd _ p8 _ = G8
      have f8 : Ex G7 G8 := by rw [← g8]; exact Ex.new np8
      have k8 : G8 p8 = some (.tup [.ref p7, vtwo, .bl true]) := by rw [← g8]; exact upd_same
      clear g8
      refine ⟨(by decide : 2 ≤ sizeLine), fun p9 np9 => ?_⟩
      generalize g9 : upd _ p9 _ = G9
      have f9 : Ex G8 G9 := by rw [← g9]; exact Ex.new np9
      have k9 : G9 p9 = some (.lst [.ref p4, .ref p8]) := by rw [← g9]; exact upd_same
      clear g9
      refine ⟨b0, p9, xs0, _, rfl, rfl, ((f1.trans (f2.trans (f3.trans (f4.trans (f5.trans (f6.trans (f7.trans (f8.trans f9))))))))) _ _ hb0, k9, (by rw [hl0]; exact (by decide : 4 ≤ sizeLine)), fun pz npz => ?_⟩
      have fz := Ex.new (o := .lst (xs0 ++ [.ref p4, .ref p8])) npz
      have hall : ∀ x ∈ ([.ref p4, .ref p8] : List V), CaseB K G9 x := allc (⟨p4, _, _, false, ([([0], 1)] : List (List Nat × Int)), 2, (litF [[0, 2], [-2, 0]]), rfl, (f9 _ _ (f8 _ _ (f7 _ _ (f6 _ _ (f5 _ _ k4))))), ⟨p3, _, rfl, sq_of (f9 _ _ (f8 _ _ (f7 _ _ (f6 _ _ (f5 _ _ (f4 _ _ k3)))))), (.cons ⟨p2, p1, rfl, st_of (f9 _ _ (f8 _ _ (f7 _ _ (f6 _ _ (f5 _ _ (f4 _ _ (f3 _ _ k2))))))), sq_of (f9 _ _ (f8 _ _ (f7 _ _ (f6 _ _ (f5 _ _ (f4 _ _ (f3 _ _ (f2 _ _ k1))))))))⟩ .nil)⟩, by decide, by decide, by decide, (TW.mono ((f1.trans (f2.trans (f3.trans (f4.trans (f5.trans (f6.trans (f7.trans (f8.trans f9)))))))))), by decide +kernel⟩)
        (allc (⟨p8, _, _, true, ([([0, 1], 2)] : List (List Nat × Int)), 2, (litF [[0, 2], [-2, 0]]), rfl, (f9 _ _ k8), ⟨p7, _, rfl, sq_of (f9 _ _ (f8 _ _ k7)), (.cons ⟨p6, p5, rfl, st_of (f9 _ _ (f8 _ _ (f7 _ _ k6))), sq_of (f9 _ _ (f8 _ _ (f7 _ _ (f6 _ _ k5))))⟩ .nil)⟩, by decide, by decide, by decide, (TW.mono ((f1.trans (f2.trans (f3.trans (f4.trans (f5.trans (f6.trans (f7.trans (f8.trans f9)))))))))), by decide +kernel⟩)
        (alln))
      exact ⟨pz, _, rfl, ((f1.trans (f2.trans (f3.trans (f4.trans (f5.trans (f6.trans (f7.trans (f8.trans f9))))))))).trans fz, upd_same, by rw [List.length_append, hl0]; rfl, fun x hx => (List.mem_append.mp hx).elim (fun h => (hx0 x h).mono (((f1.trans (f2.trans (f3.trans (f4.trans (f5.trans (f6.trans (f7.trans (f8.trans f9))))))))).trans fz)) (fun h => (hall x h).mono fz)⟩
    rintro _ Hn6 ⟨b0, xs0, rfl, en, hb0, hl0, hx0⟩
    replace TW := TW.mono en
    replace e0 := e0.trans en
    clear en
    refine ⟨fun σ' H' => ∃ (b : Addr) (xs : List V), σ' = [some (.int 1000000000000000000000000000000), some vtwo, some (.ref b), none, none, none, none, none, none] ∧ Ex Hn6 H' ∧ H' b = some (.lst xs) ∧ xs.length = 6 ∧ ∀ x ∈ xs, CaseB K H' x, ?_, ?_⟩
    · refine ⟨_, rfl, (by decide : 2 ≤ sizeLine), fun p1 np1 => ?_⟩
      generalize g1 : upd _ p1 _ = G1
      have f1 : Ex Hn6 G1 := by rw [← g1]; exact Ex.new np1
      have k1 : G1 p1 = some (.lst [.int 0, .int 1]) := by rw [← g1]; exact upd_same
      clear g1
      refine ⟨(by decide : 2 ≤ sizeLine), fun p2 np2 => ?_⟩
      generalize g2 : upd _ p2 _ = G2
      have f2 : Ex G1 G2 := by rw [← g2]; exact Ex.new np2
      have k2 : G2 p2 = some (.tup [.ref p1, .int 1]) := by rw [← g2]; exact upd_same
      clear g2
      refine ⟨(by decide : 2 ≤ sizeLine), fun p3 np3 => ?_⟩
      generalize g3 : upd _ p3 _ = G3
      have f3 : Ex G2 G3 := by rw [← g3]; exact Ex.new np3
      have k3 : G3 p3 = some (.lst [.int 0, .int 1]) := by rw [← g3]; exact upd_same
      clear g3
      refine ⟨(by decide : 2 ≤ sizeLine), fun p4 np4 => ?_⟩
      generalize g4 : upd _ p4 _ = G4
      have f4 : Ex G3 G4 := by rw [← g4]; exact Ex.new np4
      have k4 : G4 p4 = some (.tup [.ref p3, .int 1]) := by rw [← g4]; exact upd_same
      clear g4
      refine ⟨(by decide : 2 ≤ sizeLine), fun p5 np5 => ?_⟩
      generalize g5 : upd _ p5 _ = G5
      have f5 : Ex G4 G5 := by rw [← g5]; exact Ex.new np5
      have k5 : G5 p5 = some (.lst [.ref p2, .ref p4]) := by rw [← g5]; exact upd_same
      clear g5
      refine ⟨_, rfl, (by decide : 3 ≤ sizeLine), fun p6 np6 => ?_⟩
      generalize g6 : upd _ p6 _ = G6
      have f6 : Ex G5 G6 := by rw [← g6]; exact Ex.new np6
      have k6 : G6 p6 = some (.tup [.ref p5, vtwo, .bl true]) := by rw [← g6]; exact upd_same
      clear g6
      refine ⟨(by decide : 2 ≤ sizeLine), fun p7 np7 => ?_⟩
      generalize g7 : upd _ p7 _ = G7
      have f7 : Ex G6 G7 := by rw [← g7]; exact Ex.new np7
      have k7 : G7 p7 = some (.lst [.int 0, .int 1]) := by rw [← g7]; exact upd_same
      clear g7
      refine ⟨(by decide : 2 ≤ sizeLine), fun p8 np8 => ?_⟩
      generalize g8 : upd _ p8 _ = G8
      have f8 : Ex G7 G8 := by rw [← g8]; exact Ex.new np8
      have k8 : G8 p8 = some (.tup [.ref p7, .int 3]) := by rw [← g8]; exact upd_same
      clear g8
      refine ⟨(by decide : 2 ≤ sizeLine), fun p9 np9 => ?_⟩
      generalize g9 : upd _ p9 _ = G9
      have f9 : Ex G8 G9 := by rw [← g9]; exact Ex.new np9
      have k9 : G9 p9 = some (.lst [.int 1, .int 0]) := by rw [← g9]; exact upd_same
      clear g9
      refine ⟨(by decide : 2 ≤ sizeLine), fun p10 np10 => ?_⟩
      generalize g10 : upd _ p10 _ = G10
      have f10 : Ex G9 G10 := by rw [← g10]; exact Ex.new np10
      have k10 : G10 p10 = some (.tup [.ref p9, .int 1]) := by rw [← g10]; exact upd_same
      clear g10
      refine ⟨(by decide : 2 ≤ sizeLine), fun p11 np11 => ?_⟩
      generalize g11 : upd _ p11 _ = G11
      have f11 : Ex G10 G11 := by rw [← g11]; exact Ex.new np11
      have k11 : G11 p11 = some (.lst [.ref p8, .ref p10]) := by rw [← g11]; exact upd_same
      clear g11
      refine ⟨_, rfl, (by decide : 3 ≤ sizeLine), fun p12 np12 => ?_⟩
      generalize g12 : upd _ p12 _ = G12
      have f12 : Ex G11 G12 := by rw [← g12]; exact Ex.new np12
      have k12 : G12 p12 = some (.tup [.ref p11, vtwo, .bl true]) := by rw [← g12]; exact upd_same
      clear g12
      refine ⟨(by decide : 2 ≤ sizeLine), fun p13 np13 => ?_⟩
      generalize g13 : upd _ p13 _ = G13
      have f13 : Ex G12 G13 := by rw [← g13]; exact Ex.new np13
      have k13 : G13 p13 = some (.lst [.ref p6, .ref p12]) := by rw [← g13]; exact upd_same
      clear g13
      refine ⟨b0, p13, xs0, _, rfl, rfl, ((f1.trans (f2.trans (f3.trans (f4.trans (f5.trans (f6.trans (f7.trans (f8.trans (f9.trans (f10.trans (f11.trans (f12.trans f13))))))))))))) _ _ hb0, k13, (by rw [hl0]; exact (by decide : 6 ≤ sizeLine)), fun pz npz => ?_⟩
      have fz := Ex.new (o := .lst (xs0 ++ [.ref p6, .ref p12])) npz
      have hall : ∀ x ∈ ([.ref p6, .ref p12] : List V), CaseB K G13 x := allc (⟨p6, _, _, true, ([([0, 1], 1), ([0, 1], 1)] : List (List Nat × Int)), 2, (litF [[0, 2], [-2, 0]]), rfl, (f13 _ _ (f12 _ _ (f11 _ _ (f10 _ _ (f9 _ _ (f8 _ _ (f7 _ _ k6))))))), ⟨p5, _, rfl, sq_of (f13 _ _ (f12 _ _ (f11 _ _ (f10 _ _ (f9 _ _ (f8 _ _ (f7 _ _ (f6 _ _ k5)))))))), (.cons ⟨p2, p1, rfl, st_of (f13 _ _ (f12 _ _ (f11 _ _ (f10 _ _ (f9 _ _ (f8 _ _ (f7 _ _ (f6 _ _ (f5 _ _ (f4 _ _ (f3 _ _ k2))))))))))), sq_of (f13 _ _ (f12 _ _ (f11 _ _ (f10 _ _ (f9 _ _ (f8 _ _ (f7 _ _ (f6 _ _ (f5 _ _ (f4 _ _ (f3 _ _ (f2 _ _ k1))))))))))))⟩ (.cons ⟨p4, p3, rfl, st_of (f13 _ _ (f12 _ _ (f11 _ _ (f10 _ _ (f9 _ _ (f8 _ _ (f7 _ _ (f6 _ _ (f5 _ _ k4))))))))), sq_of (f13 _ _ (f12 _ _ (f11 _ _ (f10 _ _ (f9 _ _ (f8 _ _ (f7 _ _ (f6 _ _ (f5 _ _ (f4 _ _ k3))))))))))⟩ .nil))⟩, by decide, by decide, by decide, (TW.mono ((f1.trans (f2.trans (f3.trans (f4.trans (f5.trans (f6.trans (f7.trans (f8.trans (f9.trans (f10.trans (f11.trans (f12.trans f13)))))))))))))), by decide +kernel⟩)
        (allc (⟨p12, _, _, true, ([([0, 1], 3), ([1, 0], 1)] : List (List Nat × Int)), 2, (litF [[0, 2], [-2, 0]]), rfl, (f13 _ _ k12), ⟨p11, _, rfl, sq_of (f13 _ _ (f12 _ _ k11)), (.cons ⟨p8, p7, rfl, st_of (f13 _ _ (f12 _ _ (f11 _ _ (f10 _ _ (f9 _ _ k8))))), sq_of (f13 _ _ (f12 _ _ (f11 _ _ (f10 _ _ (f9 _ _ (f8 _ _ k7))))))⟩ (.cons ⟨p10, p9, rfl, st_of (f13 _ _ (f12 _ _ (f11 _ _ k10))), sq_of (f13 _ _ (f12 _ _ (f11 _ _ (f10 _ _ k9))))⟩ .nil))⟩, by decide, by decide, by decide, (TW.mono ((f1.trans (f2.trans (f3.trans (f4.trans (f5.trans (f6.trans (f7.trans (f8.trans (f9.trans (f10.trans (f11.trans (f12.trans f13)))))))))))))), by decide +kernel⟩)
        (alln))
      exact ⟨pz, _, rfl, ((f1.trans (f2.trans (f3.trans (f4.trans (f5.trans (f6.trans (f7.trans (f8.trans (f9.trans (f10.trans (f11.trans (f12.trans f13))))))))))))).trans fz, upd_same, by rw [List.length_append, hl0]; rfl, fun x hx => (List.mem_append.mp hx).elim (fun h => (hx0 x h).mono (((f1.trans (f2.trans (f3.trans (f4.trans (f5.trans (f6.trans (f7.trans (f8.trans (f9.trans (f10.trans (f11.trans (f12.trans f13))))))))))))).trans fz)) (fun h => (hall x h).mono fz)⟩
    rintro _ Hn7 ⟨b0, xs0, rfl, en, hb0, hl0, hx0⟩
    replace TW := TW.mono en
    replace e0 := e0.trans en
    clear en
    refine ⟨fun σ' H' => ∃ (b : Addr) (xs : List V), σ' = [some (.int 1000000000000000000000000000000), some vtwo, some (.ref b), none, none, none, none, none, none] ∧ Ex Hn7 H' ∧ H' b = some (.lst xs) ∧ xs.length = 9 ∧ ∀ x ∈ xs, CaseB K H' x, ?_, ?_⟩
    · refine ⟨_, rfl, (by decide : 2 ≤ sizeLine), fun p1 np1 => ?_⟩
      generalize g1 : upd _ p1 _ = G1
      have f1 : Ex Hn7 G1 := by rw [← g1]; exact Ex.new np1
      have k1 : G1 p1 = some (.lst [.int 1, .int 0]) := by rw [← g1]; exact upd_same
      clear g1
      refine ⟨(by decide : 2 ≤ sizeLine), fun p2 np2 => ?_⟩
      generalize g2 : upd _ p2 _ = G2
      have f2 : Ex G1 G2 := by rw [← g2]; exact Ex.new np2
      have k2 : G2 p2 = some (.tup [.ref p1, .int 2]) := by rw [← g2]; exact upd_same
      clear g2
      refine ⟨(by decide : 1 ≤ sizeLine), fun p3 np3 => ?_⟩
      generalize g3 : upd _ p3 _ = G3
      have f3 : Ex G2 G3 := by rw [← g3]; exact Ex.new np3
      have k3 : G3 p3 = some (.lst [.ref p2]) := by rw [← g3]; exact upd_same
      clear g3
      refine ⟨_, rfl, (by decide : 3 ≤ sizeLine), fun p4 np4 => ?_⟩
      generalize g4 : upd _ p4 _ = G4
      have f4 : Ex G3 G4 := by rw [← g4]; exact Ex.new np4
      have k4 : G4 p4 = some (.tup [.ref p3, vtwo, .bl false]) := by rw [← g4]; exact upd_same
      clear g4
      refine ⟨(by decide : 2 ≤ sizeLine), fun p5 np5 => ?_⟩
      generalize g5 : upd _ p5 _ = G5
      have f5 : Ex G4 G5 := by rw [← g5]; exact Ex.new np5
      have k5 : G5 p5 = some (.lst [.int 0, .int 1]) := by rw [← g5]; exact upd_same
      clear g5
      refine ⟨(by decide : 2 ≤ sizeLine), fun p6 np6 => ?_⟩
      generalize g6 : upd _ p6 _ = G6
      have f6 : Ex G5 G6 := by rw [← g6]; exact Ex.new np6
      have k6 : G6 p6 = some (.tup [.ref p5, .int 2]) := by rw [← g6]; exact upd_same
      clear g6
      refine ⟨(by decide : 2 ≤ sizeLine), fun p7 np7 => ?_⟩
      generalize g7 : upd _ p7 _ = G7
      have f7 : Ex G6 G7 := by rw [← g7]; exact Ex.new np7
      have k7 : G7 p7 = some (.lst [.int 0, .int 0]) := by rw [← g7]; exact upd_same
      clear g7
      refine ⟨(by decide : 2 ≤ sizeLine), fun p8 np8 => ?_⟩
      generalize g8 : upd _ p8 _ = G8
      have f8 : Ex G7 G8 := by rw [← g8]; exact Ex.new np8
      have k8 : G8 p8 = some (.tup [.ref p7, .int 1]) := by rw [← g8]; exact upd_same
      clear g8
      refine ⟨(by decide : 2 ≤ sizeLine), fun p9 np9 => ?_⟩
      generalize g9 : upd _ p9 _ = G9
      have f9 : Ex G8 G9 := by rw [← g9]; exact Ex.new np9
      have k9 : G9 p9 = some (.lst [.ref p6, .ref p8]) := by rw [← g9]; exact upd_same
      clear g9
      refine ⟨_, rfl, (by decide : 3 ≤ sizeLine), fun p10 np10 => ?_⟩
      generalize g10 : upd _ p10 _ = G10
      have f10 : Ex G9 G10 := by rw [← g10]; exact Ex.new np10
      have k10 : G10 p10 = some (.tup [.ref p9, vtwo, .bl false]) := by rw [← g10]; exact upd_same
      clear g10
      refine ⟨(by decide : 0 ≤ sizeLine), fun p11 np11 => ?_⟩
      generalize g11 : upd _ p11 _ = G11
      have f11 : Ex G10 G11 := by rw [← g11]; exact Ex.new np11
      have k11 : G11 p11 = some (.lst []) := by rw [← g11]; exact upd_same
      clear g11
      refine ⟨(by decide : 1 ≤ sizeLine), fun p12 np12 => ?_⟩
      generalize g12 : upd _ p12 _ = G12
      have f12 : Ex G11 G12 := by rw [← g12]; exact Ex.new np12
      have k12 : G12 p12 = some (.lst [.int 0]) := by rw [← g12]; exact upd_same
      clear g12
      refine ⟨(by decide : 1 ≤ sizeLine), fun p13 np13 => ?_⟩
      generalize g13 : upd _ p13 _ = G13
      have f13 : Ex G12 G13 := by rw [← g13]; exact Ex.new np13
      have k13 : G13 p13 = some (.lst [.ref p12]) := by rw [← g13]; exact upd_same
      clear g13
      refine ⟨(by decide : 3 ≤ sizeLine), fun p14 np14 => ?_⟩
      generalize g14 : upd _ p14 _ = G14
      have f14 : Ex G13 G14 := by rw [← g14]; exact Ex.new np14
      have k14 : G14 p14 = some (.tup [.ref p11, .ref p13, .bl true]) := by rw [← g14]; exact upd_same
      clear g14
      refine ⟨(by decide : 3 ≤ sizeLine), fun p15 np15 => ?_⟩
      generalize g15 : upd _ p15 _ = G15
      have f15 : Ex G14 G15 := by rw [← g15]; exact Ex.new np15
      have k15 : G15 p15 = some (.lst [.ref p4, .ref p10, .ref p14]) := by rw [← g15]; exact upd_same
      clear g15
      refine ⟨b0, p15, xs0, _, rfl, rfl, ((f1.trans (f2.trans (f3.trans (f4.trans (f5.trans (f6.trans (f7.trans (f8.trans (f9.trans (f10.trans (f11.trans (f12.trans (f13.trans (f14.trans f15))))))))))))))) _ _ hb0, k15, (by rw [hl0]; exact (by decide : 9 ≤ sizeLine)), fun pz npz => ?_⟩
      have fz := Ex.new (o := .lst (xs0 ++ [.ref p4, .ref p10, .ref p14])) npz
      have hall : ∀ x ∈ ([.ref p4, .ref p10, .ref p14] : List V), CaseB K G15 x := allc (⟨p4, _, _, false, ([([1, 0], 2)] : List (List Nat × Int)), 2, (litF [[0, 2], [-2, 0]]), rfl, (f15 _ _ (f14 _ _ (f13 _ _ (f12 _ _ (f11 _ _ (f10 _ _ (f9 _ _ (f8 _ _ (f7 _ _ (f6 _ _ (f5 _ _ k4))))))))))), ⟨p3, _, rfl, sq_of (f15 _ _ (f14 _ _ (f13 _ _ (f12 _ _ (f11 _ _ (f10 _ _ (f9 _ _ (f8 _ _ (f7 _ _ (f6 _ _ (f5 _ _ (f4 _ _ k3)))))))))))), (.cons ⟨p2, p1, rfl, st_of (f15 _ _ (f14 _ _ (f13 _ _ (f12 _ _ (f11 _ _ (f10 _ _ (f9 _ _ (f8 _ _ (f7 _ _ (f6 _ _ (f5 _ _ (f4 _ _ (f3 _ _ k2))))))))))))), sq_of (f15 _ _ (f14 _ _ (f13 _ _ (f12 _ _ (f11 _ _ (f10 _ _ (f9 _ _ (f8 _ _ (f7 _ _ (f6 _ _ (f5 _ _ (f4 _ _ (f3 _ _ (f2 _ _ k1))))))))))))))⟩ .nil)⟩, by decide, by decide, by decide, (TW.mono ((f1.trans (f2.trans (f3.trans (f4.trans (f5.trans (f6.trans (f7.trans (f8.trans (f9.trans (f10.trans (f11.trans (f12.trans (f13.trans (f14.trans f15)))))))))))))))), by decide +kernel⟩)
        (allc (⟨p10, _, _, false, ([([0, 1], 2), ([0, 0], 1)] : List (List Nat × Int)), 2, (litF [[0, 2], [-2, 0]]), rfl, (f15 _ _ (f14 _ _ (f13 _ _ (f12 _ _ (f11 _ _ k10))))), ⟨p9, _, rfl, sq_of (f15 _ _ (f14 _ _ (f13 _ _ (f12 _ _ (f11 _ _ (f10 _ _ k9)))))), (.cons ⟨p6, p5, rfl, st_of (f15 _ _ (f14 _ _ (f13 _ _ (f12 _ _ (f11 _ _ (f10 _ _ (f9 _ _ (f8 _ _ (f7 _ _ k6))))))))), sq_of (f15 _ _ (f14 _ _ (f13 _ _ (f12 _ _ (f11 _ _ (f10 _ _ (f9 _ _ (f8 _ _ (f7 _ _ (f6 _ _ k5))))))))))⟩ (.cons ⟨p8, p7, rfl, st_of (f15 _ _ (f14 _ _ (f13 _ _ (f12 _ _ (f11 _ _ (f10 _ _ (f9 _ _ k8))))))), sq_of (f15 _ _ (f14 _ _ (f13 _ _ (f12 _ _ (f11 _ _ (f10 _ _ (f9 _ _ (f8 _ _ k7))))))))⟩ .nil))⟩, by decide, by decide, by decide, (TW.mono ((f1.trans (f2.trans (f3.trans (f4.trans (f5.trans (f6.trans (f7.trans (f8.trans (f9.trans (f10.trans (f11.trans (f12.trans (f13.trans (f14.trans f15)))))))))))))))), by decide +kernel⟩)
        (allc (⟨p14, _, _, true, ([] : List (List Nat × Int)), 1, (litF [[0]]), rfl, (f15 _ _ k14), ⟨p11, _, rfl, sq_of (f15 _ _ (f14 _ _ (f13 _ _ (f12 _ _ k11)))), .nil⟩, by decide, by decide, by decide, (tabR_lit (rs := [p12]) [[0]] (f15 _ _ (f14 _ _ k13)) (by decide) (.cons (f15 _ _ (f14 _ _ (f13 _ _ k12))) .nil) : TabR K _ _ 1 (litF [[0]])), by decide +kernel⟩)
        (alln)))
      exact ⟨pz, _, rfl, ((f1.trans (f2.trans (f3.trans (f4.trans (f5.trans (f6.trans (f7.trans (f8.trans (f9.trans (f10.trans (f11.trans (f12.trans (f13.trans (f14.trans f15))))))))))))))).trans fz, upd_same, by rw [List.length_append, hl0]; rfl, fun x hx => (List.mem_append.mp hx).elim (fun h => (hx0 x h).mono (((f1.trans (f2.trans (f3.trans (f4.trans (f5.trans (f6.trans (f7.trans (f8.trans (f9.trans (f10.trans (f11.trans (f12.trans (f13.trans (f14.trans f15))))))))))))))).trans fz)) (fun h => (hall x h).mono fz)⟩
    rintro _ Hn8 ⟨b0, xs0, rfl, en, hb0, hl0, hx0⟩
    replace TW := TW.mono en
    replace e0 := e0.trans en
    clear en
    refine ⟨fun σ' H' => ∃ (b : Addr) (xs : List V), σ' = [some (.int 1000000000000000000000000000000), some vtwo, some (.ref b), none, none, none, none, none, none] ∧ Ex Hn8 H' ∧ H' b = some (.lst xs) ∧ xs.length = 11 ∧ ∀ x ∈ xs, CaseB K H' x, ?_, ?_⟩
    · refine ⟨_, rfl, (by decide : 1 ≤ sizeLine), fun p1 np1 => ?_⟩
      generalize g1 : upd _ p1 _ = G1
      have f1 : Ex Hn8 G1 := by rw [← g1]; exact Ex.new np1
      have k1 : G1 p1 = some (.lst [.int 0]) := by rw [← g1]; exact upd_same
      clear g1
      refine ⟨(by decide : 2 ≤ sizeLine), fun p2 np2 => ?_⟩
      generalize g2 : upd _ p2 _ = G2
      have f2 : Ex G1 G2 := by rw [← g2]; exact Ex.new np2
      have k2 : G2 p2 = some (.tup [.ref p1, .int 7]) := by rw [← g2]; exact upd_same
      clear g2
      refine ⟨(by decide : 1 ≤ sizeLine), fun p3 np3 => ?_⟩
      generalize g3 : upd _ p3 _ = G3
      have f3 : Ex G2 G3 := by rw [← g3]; exact Ex.new np3
      have k3 : G3 p3 = some (.lst [.ref p2]) := by rw [← g3]; exact upd_same
      clear g3
      refine ⟨(by decide : 1 ≤ sizeLine), fun p4 np4 => ?_⟩
      generalize g4 : upd _ p4 _ = G4
      have f4 : Ex G3 G4 := by rw [← g4]; exact Ex.new np4
      have k4 : G4 p4 = some (.lst [.int 0]) := by rw [← g4]; exact upd_same
      clear g4
      refine ⟨(by decide : 1 ≤ sizeLine), fun p5 np5 => ?_⟩
      generalize g5 : upd _ p5 _ = G5
      have f5 : Ex G4 G5 := by rw [← g5]; exact Ex.new np5
      have k5 : G5 p5 = some (.lst [.ref p4]) := by rw [← g5]; exact upd_same
      clear g5
      refine ⟨(by decide : 3 ≤ sizeLine), fun p6 np6 => ?_⟩
      generalize g6 : upd _ p6 _ = G6
      have f6 : Ex G5 G6 := by rw [← g6]; exact Ex.new np6
      have k6 : G6 p6 = some (.tup [.ref p3, .ref p5, .bl true]) := by rw [← g6]; exact upd_same
      clear g6
      refine ⟨(by decide : 2 ≤ sizeLine), fun p7 np7 => ?_⟩
      generalize g7 : upd _ p7 _ = G7
      have f7 : Ex G6 G7 := by rw [← g7]; exact Ex.new np7
      have k7 : G7 p7 = some (.lst [.int 0, .int 1]) := by rw [← g7]; exact upd_same
      clear g7
      refine ⟨(by decide : 2 ≤ sizeLine), fun p8 np8 => ?_⟩
      generalize g8 : upd _ p8 _ = G8
      have f8 : Ex G7 G8 := by rw [← g8]; exact Ex.new np8
      have k8 : G8 p8 = some (.tup [.ref p7, .int 2]) := by rw [← g8]; exact upd_same
      clear g8
      refine ⟨(by decide : 2 ≤ sizeLine), fun p9 np9 => ?_⟩
      generalize g9 : upd _ p9 _ = G9
      have f9 : Ex G8 G9 := by rw [← g9]; exact Ex.new np9
      have k9 : G9 p9 = some (.lst [.int 0, .int 1]) := by rw [← g9]; exact upd_same
      clear g9
      refine ⟨_, rfl, (by decide : 2 ≤ sizeLine), fun p10 np10 => ?_⟩
      generalize g10 : upd _ p10 _ = G10
      have f10 : Ex G9 G10 := by rw [← g10]; exact Ex.new np10
      have k10 : G10 p10 = some (.tup [.ref p9, .int (-1)]) := by rw [← g10]; exact upd_same
      clear g10
      refine ⟨(by decide : 2 ≤ sizeLine), fun p11 np11 => ?_⟩
      generalize g11 : upd _ p11 _ = G11
      have f11 : Ex G10 G11 := by rw [← g11]; exact Ex.new np11
      have k11 : G11 p11 = some (.lst [.int 0, .int 1]) := by rw [← g11]; exact upd_same
      clear g11
      refine ⟨(by decide : 2 ≤ sizeLine), fun p12 np12 => ?_⟩
      generalize g12 : upd _ p12 _ = G12
      have f12 : Ex G11 G12 := by rw [← g12]; exact Ex.new np12
      have k12 : G12 p12 = some (.tup [.ref p11, .int 1]) := by rw [← g12]; exact upd_same
      clear g12
      refine ⟨(by decide : 3 ≤ sizeLine), fun p13 np13 => ?_⟩
      generalize g13 : upd _ p13 _ = G13
      have f13 : Ex G12 G13 := by rw [← g13]; exact Ex.new np13
      have k13 : G13 p13 = some (.lst [.ref p8, .ref p10, .ref p12]) := by rw [← g13]; exact upd_same
      clear g13
      refine ⟨_, rfl, (by decide : 3 ≤ sizeLine), fun p14 np14 => ?_⟩
      generalize g14 : upd _ p14 _ = G14
      have f14 : Ex G13 G14 := by rw [← g14]; exact Ex.new np14
      have k14 : G14 p14 = some (.tup [.ref p13, vtwo, .bl false]) := by rw [← g14]; exact upd_same
      clear g14
      refine ⟨(by decide : 2 ≤ sizeLine), fun p15 np15 => ?_⟩
      generalize g15 : upd _ p15 _ = G15
      have f15 : Ex G14 G15 := by rw [← g15]; exact Ex.new np15
      have k15 : G15 p15 = some (.lst [.ref p6, .ref p14]) := by rw [← g15]; exact upd_same
      clear g15
      refine ⟨b0, p15, xs0, _, rfl, rfl, ((f1.trans (f2.trans (f3.trans (f4.trans (f5.trans (f6.trans (f7.trans (f8.trans (f9.trans (f10.trans (f11.trans (f12.trans (f13.trans (f14.trans f15))))))))))))))) _ _ hb0, k15, (by rw [hl0]; exact (by decide : 11 ≤ sizeLine)), fun pz npz => ?_⟩
      have fz := Ex.new (o := .lst (xs0 ++ [.ref p6, .ref p14])) npz
      have hall : ∀ x ∈ ([.ref p6, .ref p14] : List V), CaseB K G15 x := allc (⟨p6, _, _, true, ([([0], 7)] : List (List Nat × Int)), 1, (litF [[0]]), rfl, (f15 _ _ (f14 _ _ (f13 _ _ (f12 _ _ (f11 _ _ (f10 _ _ (f9 _ _ (f8 _ _ (f7 _ _ k6))))))))), ⟨p3, _, rfl, sq_of (f15 _ _ (f14 _ _ (f13 _ _ (f12 _ _ (f11 _ _ (f10 _ _ (f9 _ _ (f8 _ _ (f7 _ _ (f6 _ _ (f5 _ _ (f4 _ _ k3)))))))))))), (.cons ⟨p2, p1, rfl, st_of (f15 _ _ (f14 _ _ (f13 _ _ (f12 _ _ (f11 _ _ (f10 _ _ (f9 _ _ (f8 _ _ (f7 _ _ (f6 _ _ (f5 _ _ (f4 _ _ (f3 _ _ k2))))))))))))), sq_of (f15 _ _ (f14 _ _ (f13 _ _ (f12 _ _ (f11 _ _ (f10 _ _ (f9 _ _ (f8 _ _ (f7 _ _ (f6 _ _ (f5 _ _ (f4 _ _ (f3 _ _ (f2 _ _ k1))))))))))))))⟩ .nil)⟩, by decide, by decide, by decide, (tabR_lit (rs := [p4]) [[0]] (f15 _ _ (f14 _ _ (f13 _ _ (f12 _ _ (f11 _ _ (f10 _ _ (f9 _ _ (f8 _ _ (f7 _ _ (f6 _ _ k5)))))))))) (by decide) (.cons (f15 _ _ (f14 _ _ (f13 _ _ (f12 _ _ (f11 _ _ (f10 _ _ (f9 _ _ (f8 _ _ (f7 _ _ (f6 _ _ (f5 _ _ k4))))))))))) .nil) : TabR K _ _ 1 (litF [[0]])), by decide +kernel⟩)
        (allc (⟨p14, _, _, false, ([([0, 1], 2), ([0, 1], -1), ([0, 1], 1)] : List (List Nat × Int)), 2, (litF [[0, 2], [-2, 0]]), rfl, (f15 _ _ k14), ⟨p13, _, rfl, sq_of (f15 _ _ (f14 _ _ k13)), (.cons ⟨p8, p7, rfl, st_of (f15 _ _ (f14 _ _ (f13 _ _ (f12 _ _ (f11 _ _ (f10 _ _ (f9 _ _ k8))))))), sq_of (f15 _ _ (f14 _ _ (f13 _ _ (f12 _ _ (f11 _ _ (f10 _ _ (f9 _ _ (f8 _ _ k7))))))))⟩ (.cons ⟨p10, p9, rfl, st_of (f15 _ _ (f14 _ _ (f13 _ _ (f12 _ _ (f11 _ _ k10))))), sq_of (f15 _ _ (f14 _ _ (f13 _ _ (f12 _ _ (f11 _ _ (f10 _ _ k9))))))⟩ (.cons ⟨p12, p11, rfl, st_of (f15 _ _ (f14 _ _ (f13 _ _ k12))), sq_of (f15 _ _ (f14 _ _ (f13 _ _ (f12 _ _ k11))))⟩ .nil)))⟩, by decide, by decide, by decide, (TW.mono ((f1.trans (f2.trans (f3.trans (f4.trans (f5.trans (f6.trans (f7.trans (f8.trans (f9.trans (f10.trans (f11.trans (f12.trans (f13.trans (f14.trans f15)))))))))))))))), by decide +kernel⟩)
        (alln))
      exact ⟨pz, _, rfl, ((f1.trans (f2.trans (f3.trans (f4.trans (f5.trans (f6.trans (f7.trans (f8.trans (f9.trans (f10.trans (f11.trans (f12.trans (f13.trans (f14.trans f15))))))))))))))).trans fz, upd_same, by rw [List.length_append, hl0]; rfl, fun x hx => (List.mem_append.mp hx).elim (fun h => (hx0 x h).mono (((f1.trans (f2.trans (f3.trans (f4.trans (f5.trans (f6.trans (f7.trans (f8.trans (f9.trans (f10.trans (f11.trans (f12.trans (f13.trans (f14.trans f15))))))))))))))).trans fz)) (fun h => (hall x h).mono fz)⟩
    rintro _ Hn9 ⟨b0, xs0, rfl, en, hb0, hl0, hx0⟩
    replace TW := TW.mono en
    replace e0 := e0.trans en
    clear en
    refine ⟨fun σ' H' => ∃ (z3 z4 z5 : Option V), σ' = [some (.int 1000000000000000000000000000000), some vtwo, some (.ref b0), z3, z4, z5, none, none, none] ∧ Ex Hn9 H', ?_, ?_⟩
    · refine ⟨_, rfl, b0, rfl, ⟨_, sq_of hb0⟩, for_list (K := K) (a := b0) (xs := xs0) (fun i σ' H' => ∃ (z3 z4 z5 : Option V), σ' = [some (.int 1000000000000000000000000000000), some vtwo, some (.ref b0), z3, z4, z5, none, none, none] ∧ Ex Hn9 H')
        ⟨_, _, _, rfl, Ex.refl _⟩ (fun i σ' H' _ ⟨_, _, _, _, e⟩ => sq_of (e _ _ hb0)) ?_ ?_⟩
      · rintro i x σ' H' hi ⟨z3, z4, z5, rfl, e⟩
        obtain ⟨t, u, v, b, bs, n, f, rfl, ht, hB, hbl, h60, hn20, TT, hsh⟩ := (hx0 x (List.mem_of_getElem? hi)).mono e
        refine ⟨t, _, rfl, st_of ht, rfl, u, _, rfl, v, _, rfl, .bl b, [], rfl, rfl, ?_⟩
        refine ⟨_, rfl, ?_⟩
        intro x dx nx ndx nxd
        have m1 := ex_made (C := T.c_Ballots) nx ndx nxd
        refine ⟨x, dx, u, bs, rfl, upd_same, hB.mono m1, by omega, fun G1 D ts ls eB hx BN => ⟨rfl, ?_⟩⟩
        have f1 := ex_after nx ndx nxd eB
        refine ⟨x, dx, _, rfl, hx, rfl, _, rfl, x, dx, v, .ref D, bs, n, f, rfl, hx, BN.rd, h60, TT.mono f1, hn20, fun G2 e2 => ?_⟩
        refine ⟨_, rfl, rfl, _, rfl, itF (by rw [hsh, decide_eq_true rfl]; rfl) ?_⟩
        exact ⟨_, _, _, rfl, e.trans (f1.trans e2)⟩
      · rintro σ' H' ⟨z3, z4, z5, rfl, e⟩
        exact ⟨_, _, _, rfl, e⟩
    rintro _ Hn10 ⟨z3, z4, z5, rfl, en⟩
    clear hb0 hx0
    replace TW := TW.mono en
    replace e0 := e0.trans en
    clear en
    refine ⟨fun σ' H' => ∃ (vodd : V), σ' = [some (.int 1000000000000000000000000000000), some vtwo, some (.ref b0), z3, z4, z5, some vodd, none, none] ∧ Ex Hn10 H' ∧ TabR K H' vodd 3 (litF [[0, 1, 0], [-1, 0, 1], [0, -1, 0]]), ?_, ?_⟩
    · refine ⟨(by decide : 3 ≤ sizeLine), fun p1 np1 => ?_⟩
      generalize g1 : upd _ p1 _ = G1
      have f1 : Ex Hn10 G1 := by rw [← g1]; exact Ex.new np1
      have k1 : G1 p1 = some (.lst [.int 0, .int 1, .int 0]) := by rw [← g1]; exact upd_same
      clear g1
      refine ⟨_, rfl, (by decide : 3 ≤ sizeLine), fun p2 np2 => ?_⟩
      generalize g2 : upd _ p2 _ = G2
      have f2 : Ex G1 G2 := by rw [← g2]; exact Ex.new np2
      have k2 : G2 p2 = some (.lst [.int (-1), .int 0, .int 1]) := by rw [← g2]; exact upd_same
      clear g2
      refine ⟨_, rfl, (by decide : 3 ≤ sizeLine), fun p3 np3 => ?_⟩
      generalize g3 : upd _ p3 _ = G3
      have f3 : Ex G2 G3 := by rw [← g3]; exact Ex.new np3
      have k3 : G3 p3 = some (.lst [.int 0, .int (-1), .int 0]) := by rw [← g3]; exact upd_same
      clear g3
      refine ⟨(by decide : 3 ≤ sizeLine), fun p4 np4 => ?_⟩
      generalize g4 : upd _ p4 _ = G4
      have f4 : Ex G3 G4 := by rw [← g4]; exact Ex.new np4
      have k4 : G4 p4 = some (.lst [.ref p1, .ref p2, .ref p3]) := by rw [← g4]; exact upd_same
      clear g4
      exact ⟨_, rfl, ((f1.trans (f2.trans (f3.trans f4)))), (tabR_lit (rs := [p1, p2, p3]) [[0, 1, 0], [-1, 0, 1], [0, -1, 0]] k4 (by decide) (.cons (f4 _ _ (f3 _ _ (f2 _ _ k1))) (.cons (f4 _ _ (f3 _ _ k2)) (.cons (f4 _ _ k3) .nil))) : TabR K _ _ 3 (litF [[0, 1, 0], [-1, 0, 1], [0, -1, 0]]))⟩
    rintro _ Hn11 ⟨vodd, rfl, en, TO⟩
    replace TW := TW.mono en
    replace e0 := e0.trans en
    clear en
    refine ⟨fun σ' H' => ∃ (b : Addr) (xs : List V), σ' = [some (.int 1000000000000000000000000000000), some vtwo, some (.ref b), z3, z4, z5, some vodd, none, none] ∧ Ex Hn11 H' ∧ H' b = some (.lst xs) ∧ xs.length = 3 ∧ ∀ x ∈ xs, CaseU H' 3 (litF [[0, 1, 0], [-1, 0, 1], [0, -1, 0]]) x, ?_, ?_⟩
    · refine ⟨(by decide : 2 ≤ sizeLine), fun p1 np1 => ?_⟩
      generalize g1 : upd _ p1 _ = G1
      have f1 : Ex Hn11 G1 := by rw [← g1]; exact Ex.new np1
      have k1 : G1 p1 = some (.tup [.int 0, .int 1]) := by rw [← g1]; exact upd_same
      clear g1
      refine ⟨(by decide : 2 ≤ sizeLine), fun p2 np2 => ?_⟩
      generalize g2 : upd _ p2 _ = G2
      have f2 : Ex G1 G2 := by rw [← g2]; exact Ex.new np2
      have k2 : G2 p2 = some (.tup [.int 0, .int 2]) := by rw [← g2]; exact upd_same
      clear g2
      refine ⟨(by decide : 3 ≤ sizeLine), fun p3 np3 => ?_⟩
      generalize g3 : upd _ p3 _ = G3
      have f3 : Ex G2 G3 := by rw [← g3]; exact Ex.new np3
      have k3 : G3 p3 = some (.tup [.ref p1, .ref p2, .bl true]) := by rw [← g3]; exact upd_same
      clear g3
      refine ⟨(by decide : 2 ≤ sizeLine), fun p4 np4 => ?_⟩
      generalize g4 : upd _ p4 _ = G4
      have f4 : Ex G3 G4 := by rw [← g4]; exact Ex.new np4
      have k4 : G4 p4 = some (.tup [.int 1, .int 0]) := by rw [← g4]; exact upd_same
      clear g4
      refine ⟨(by decide : 2 ≤ sizeLine), fun p5 np5 => ?_⟩
      generalize g5 : upd _ p5 _ = G5
      have f5 : Ex G4 G5 := by rw [← g5]; exact Ex.new np5
      have k5 : G5 p5 = some (.tup [.int 2, .int 0]) := by rw [← g5]; exact upd_same
      clear g5
      refine ⟨(by decide : 3 ≤ sizeLine), fun p6 np6 => ?_⟩
      generalize g6 : upd _ p6 _ = G6
      have f6 : Ex G5 G6 := by rw [← g6]; exact Ex.new np6
      have k6 : G6 p6 = some (.tup [.ref p4, .ref p5, .bl true]) := by rw [← g6]; exact upd_same
      clear g6
      refine ⟨(by decide : 2 ≤ sizeLine), fun p7 np7 => ?_⟩
      generalize g7 : upd _ p7 _ = G7
      have f7 : Ex G6 G7 := by rw [← g7]; exact Ex.new np7
      have k7 : G7 p7 = some (.tup [.int 0, .int 2]) := by rw [← g7]; exact upd_same
      clear g7
      refine ⟨(by decide : 2 ≤ sizeLine), fun p8 np8 => ?_⟩
      generalize g8 : upd _ p8 _ = G8
      have f8 : Ex G7 G8 := by rw [← g8]; exact Ex.new np8
      have k8 : G8 p8 = some (.tup [.int 2, .int 1]) := by rw [← g8]; exact upd_same
      clear g8
      refine ⟨(by decide : 3 ≤ sizeLine), fun p9 np9 => ?_⟩
      generalize g9 : upd _ p9 _ = G9
      have f9 : Ex G8 G9 := by rw [← g9]; exact Ex.new np9
      have k9 : G9 p9 = some (.tup [.ref p7, .ref p8, .bl true]) := by rw [← g9]; exact upd_same
      clear g9
      refine ⟨(by decide : 3 ≤ sizeLine), fun p10 np10 => ?_⟩
      generalize g10 : upd _ p10 _ = G10
      have f10 : Ex G9 G10 := by rw [← g10]; exact Ex.new np10
      have k10 : G10 p10 = some (.lst [.ref p3, .ref p6, .ref p9]) := by rw [← g10]; exact upd_same
      clear g10
      exact ⟨p10, _, rfl, ((f1.trans (f2.trans (f3.trans (f4.trans (f5.trans (f6.trans (f7.trans (f8.trans (f9.trans f10)))))))))), k10, rfl, allc (⟨p3, p1, p2, 0, 1, 0, 2, true, rfl, (f10 _ _ (f9 _ _ (f8 _ _ (f7 _ _ (f6 _ _ (f5 _ _ (f4 _ _ k3))))))), (f10 _ _ (f9 _ _ (f8 _ _ (f7 _ _ (f6 _ _ (f5 _ _ (f4 _ _ (f3 _ _ (f2 _ _ k1))))))))), (f10 _ _ (f9 _ _ (f8 _ _ (f7 _ _ (f6 _ _ (f5 _ _ (f4 _ _ (f3 _ _ k2)))))))), by decide +kernel⟩)
        (allc (⟨p6, p4, p5, 1, 0, 2, 0, true, rfl, (f10 _ _ (f9 _ _ (f8 _ _ (f7 _ _ k6)))), (f10 _ _ (f9 _ _ (f8 _ _ (f7 _ _ (f6 _ _ (f5 _ _ k4)))))), (f10 _ _ (f9 _ _ (f8 _ _ (f7 _ _ (f6 _ _ k5))))), by decide +kernel⟩)
        (allc (⟨p9, p7, p8, 0, 2, 2, 1, true, rfl, (f10 _ _ k9), (f10 _ _ (f9 _ _ (f8 _ _ k7))), (f10 _ _ (f9 _ _ k8)), by decide +kernel⟩)
        (alln)))⟩
    rintro _ Hn12 ⟨b0, xs0, rfl, en, hb0, hl0, hx0⟩
    replace TW := TW.mono en
    replace TO := TO.mono en
    replace e0 := e0.trans en
    clear en
    refine ⟨fun σ' H' => ∃ (b : Addr) (xs : List V), σ' = [some (.int 1000000000000000000000000000000), some vtwo, some (.ref b), z3, z4, z5, some vodd, none, none] ∧ Ex Hn12 H' ∧ H' b = some (.lst xs) ∧ xs.length = 6 ∧ ∀ x ∈ xs, CaseU H' 3 (litF [[0, 1, 0], [-1, 0, 1], [0, -1, 0]]) x, ?_, ?_⟩
    · refine ⟨_, rfl, (by decide : 2 ≤ sizeLine), fun p1 np1 => ?_⟩
      generalize g1 : upd _ p1 _ = G1
      have f1 : Ex Hn12 G1 := by rw [← g1]; exact Ex.new np1
      have k1 : G1 p1 = some (.tup [.int 0, .int 1]) := by rw [← g1]; exact upd_same
      clear g1
      refine ⟨(by decide : 2 ≤ sizeLine), fun p2 np2 => ?_⟩
      generalize g2 : upd _ p2 _ = G2
      have f2 : Ex G1 G2 := by rw [← g2]; exact Ex.new np2
      have k2 : G2 p2 = some (.tup [.int 1, .int 0]) := by rw [← g2]; exact upd_same
      clear g2
      refine ⟨(by decide : 3 ≤ sizeLine), fun p3 np3 => ?_⟩
      generalize g3 : upd _ p3 _ = G3
      have f3 : Ex G2 G3 := by rw [← g3]; exact Ex.new np3
      have k3 : G3 p3 = some (.tup [.ref p1, .ref p2, .bl false]) := by rw [← g3]; exact upd_same
      clear g3
      refine ⟨(by decide : 2 ≤ sizeLine), fun p4 np4 => ?_⟩
      generalize g4 : upd _ p4 _ = G4
      have f4 : Ex G3 G4 := by rw [← g4]; exact Ex.new np4
      have k4 : G4 p4 = some (.tup [.int 0, .int 0]) := by rw [← g4]; exact upd_same
      clear g4
      refine ⟨(by decide : 2 ≤ sizeLine), fun p5 np5 => ?_⟩
      generalize g5 : upd _ p5 _ = G5
      have f5 : Ex G4 G5 := by rw [← g5]; exact Ex.new np5
      have k5 : G5 p5 = some (.tup [.int 0, .int 1]) := by rw [← g5]; exact upd_same
      clear g5
      refine ⟨(by decide : 3 ≤ sizeLine), fun p6 np6 => ?_⟩
      generalize g6 : upd _ p6 _ = G6
      have f6 : Ex G5 G6 := by rw [← g6]; exact Ex.new np6
      have k6 : G6 p6 = some (.tup [.ref p4, .ref p5, .bl false]) := by rw [← g6]; exact upd_same
      clear g6
      refine ⟨(by decide : 2 ≤ sizeLine), fun p7 np7 => ?_⟩
      generalize g7 : upd _ p7 _ = G7
      have f7 : Ex G6 G7 := by rw [← g7]; exact Ex.new np7
      have k7 : G7 p7 = some (.tup [.int 0, .int 1]) := by rw [← g7]; exact upd_same
      clear g7
      refine ⟨(by decide : 2 ≤ sizeLine), fun p8 np8 => ?_⟩
      generalize g8 : upd _ p8 _ = G8
      have f8 : Ex G7 G8 := by rw [← g8]; exact Ex.new np8
      have k8 : G8 p8 = some (.tup [.int 1, .int 2]) := by rw [← g8]; exact upd_same
      clear g8
      refine ⟨(by decide : 3 ≤ sizeLine), fun p9 np9 => ?_⟩
      generalize g9 : upd _ p9 _ = G9
      have f9 : Ex G8 G9 := by rw [← g9]; exact Ex.new np9
      have k9 : G9 p9 = some (.tup [.ref p7, .ref p8, .bl false]) := by rw [← g9]; exact upd_same
      clear g9
      refine ⟨(by decide : 3 ≤ sizeLine), fun p10 np10 => ?_⟩
      generalize g10 : upd _ p10 _ = G10
      have f10 : Ex G9 G10 := by rw [← g10]; exact Ex.new np10
      have k10 : G10 p10 = some (.lst [.ref p3, .ref p6, .ref p9]) := by rw [← g10]; exact upd_same
      clear g10
      refine ⟨b0, p10, xs0, _, rfl, rfl, ((f1.trans (f2.trans (f3.trans (f4.trans (f5.trans (f6.trans (f7.trans (f8.trans (f9.trans f10)))))))))) _ _ hb0, k10, (by rw [hl0]; exact (by decide : 6 ≤ sizeLine)), fun pz npz => ?_⟩
      have fz := Ex.new (o := .lst (xs0 ++ [.ref p3, .ref p6, .ref p9])) npz
      have hall : ∀ x ∈ ([.ref p3, .ref p6, .ref p9] : List V), CaseU G10 3 (litF [[0, 1, 0], [-1, 0, 1], [0, -1, 0]]) x := allc (⟨p3, p1, p2, 0, 1, 1, 0, false, rfl, (f10 _ _ (f9 _ _ (f8 _ _ (f7 _ _ (f6 _ _ (f5 _ _ (f4 _ _ k3))))))), (f10 _ _ (f9 _ _ (f8 _ _ (f7 _ _ (f6 _ _ (f5 _ _ (f4 _ _ (f3 _ _ (f2 _ _ k1))))))))), (f10 _ _ (f9 _ _ (f8 _ _ (f7 _ _ (f6 _ _ (f5 _ _ (f4 _ _ (f3 _ _ k2)))))))), by decide +kernel⟩)
        (allc (⟨p6, p4, p5, 0, 0, 0, 1, false, rfl, (f10 _ _ (f9 _ _ (f8 _ _ (f7 _ _ k6)))), (f10 _ _ (f9 _ _ (f8 _ _ (f7 _ _ (f6 _ _ (f5 _ _ k4)))))), (f10 _ _ (f9 _ _ (f8 _ _ (f7 _ _ (f6 _ _ k5))))), by decide +kernel⟩)
        (allc (⟨p9, p7, p8, 0, 1, 1, 2, false, rfl, (f10 _ _ k9), (f10 _ _ (f9 _ _ (f8 _ _ k7))), (f10 _ _ (f9 _ _ k8)), by decide +kernel⟩)
        (alln)))
      exact ⟨pz, _, rfl, ((f1.trans (f2.trans (f3.trans (f4.trans (f5.trans (f6.trans (f7.trans (f8.trans (f9.trans f10)))))))))).trans fz, upd_same, by rw [List.length_append, hl0]; rfl, fun x hx => (List.mem_append.mp hx).elim (fun h => (hx0 x h).mono (((f1.trans (f2.trans (f3.trans (f4.trans (f5.trans (f6.trans (f7.trans (f8.trans (f9.trans f10)))))))))).trans fz)) (fun h => (hall x h).mono fz)⟩
    rintro _ Hn13 ⟨b0, xs0, rfl, en, hb0, hl0, hx0⟩
    replace TW := TW.mono en
    replace TO := TO.mono en
    replace e0 := e0.trans en
    clear en
    refine ⟨fun σ' H' => ∃ (b : Addr) (xs : List V), σ' = [some (.int 1000000000000000000000000000000), some vtwo, some (.ref b), z3, z4, z5, some vodd, none, none] ∧ Ex Hn13 H' ∧ H' b = some (.lst xs) ∧ xs.length = 9 ∧ ∀ x ∈ xs, CaseU H' 3 (litF [[0, 1, 0], [-1, 0, 1], [0, -1, 0]]) x, ?_, ?_⟩
    · refine ⟨_, rfl, (by decide : 2 ≤ sizeLine), fun p1 np1 => ?_⟩
      generalize g1 : upd _ p1 _ = G1
      have f1 : Ex Hn13 G1 := by rw [← g1]; exact Ex.new np1
      have k1 : G1 p1 = some (.tup [.int 0, .int 1]) := by rw [← g1]; exact upd_same
      clear g1
      refine ⟨(by decide : 2 ≤ sizeLine), fun p2 np2 => ?_⟩
      generalize g2 : upd _ p2 _ = G2
      have f2 : Ex G1 G2 := by rw [← g2]; exact Ex.new np2
      have k2 : G2 p2 = some (.tup [.int 0, .int 9]) := by rw [← g2]; exact upd_same
      clear g2
      refine ⟨(by decide : 3 ≤ sizeLine), fun p3 np3 => ?_⟩
      generalize g3 : upd _ p3 _ = G3
      have f3 : Ex G2 G3 := by rw [← g3]; exact Ex.new np3
      have k3 : G3 p3 = some (.tup [.ref p1, .ref p2, .bl false]) := by rw [← g3]; exact upd_same
      clear g3
      refine ⟨(by decide : 2 ≤ sizeLine), fun p4 np4 => ?_⟩
      generalize g4 : upd _ p4 _ = G4
      have f4 : Ex G3 G4 := by rw [← g4]; exact Ex.new np4
      have k4 : G4 p4 = some (.tup [.int 0, .int 2]) := by rw [← g4]; exact upd_same
      clear g4
      refine ⟨(by decide : 2 ≤ sizeLine), fun p5 np5 => ?_⟩
      generalize g5 : upd _ p5 _ = G5
      have f5 : Ex G4 G5 := by rw [← g5]; exact Ex.new np5
      have k5 : G5 p5 = some (.tup [.int 0, .int 2]) := by rw [← g5]; exact upd_same
      clear g5
      refine ⟨(by decide : 3 ≤ sizeLine), fun p6 np6 => ?_⟩
      generalize g6 : upd _ p6 _ = G6
      have f6 : Ex G5 G6 := by rw [← g6]; exact Ex.new np6
      have k6 : G6 p6 = some (.tup [.ref p4, .ref p5, .bl false]) := by rw [← g6]; exact upd_same
      clear g6
      refine ⟨(by decide : 2 ≤ sizeLine), fun p7 np7 => ?_⟩
      generalize g7 : upd _ p7 _ = G7
      have f7 : Ex G6 G7 := by rw [← g7]; exact Ex.new np7
      have k7 : G7 p7 = some (.tup [.int 0, .int 1]) := by rw [← g7]; exact upd_same
      clear g7
      refine ⟨(by decide : 2 ≤ sizeLine), fun p8 np8 => ?_⟩
      generalize g8 : upd _ p8 _ = G8
      have f8 : Ex G7 G8 := by rw [← g8]; exact Ex.new np8
      have k8 : G8 p8 = some (.tup [.int 2, .int 2]) := by rw [← g8]; exact upd_same
      clear g8
      refine ⟨(by decide : 3 ≤ sizeLine), fun p9 np9 => ?_⟩
      generalize g9 : upd _ p9 _ = G9
      have f9 : Ex G8 G9 := by rw [← g9]; exact Ex.new np9
      have k9 : G9 p9 = some (.tup [.ref p7, .ref p8, .bl false]) := by rw [← g9]; exact upd_same
      clear g9
      refine ⟨(by decide : 3 ≤ sizeLine), fun p10 np10 => ?_⟩
      generalize g10 : upd _ p10 _ = G10
      have f10 : Ex G9 G10 := by rw [← g10]; exact Ex.new np10
      have k10 : G10 p10 = some (.lst [.ref p3, .ref p6, .ref p9]) := by rw [← g10]; exact upd_same
      clear g10
      refine ⟨b0, p10, xs0, _, rfl, rfl, ((f1.trans (f2.trans (f3.trans (f4.trans (f5.trans (f6.trans (f7.trans (f8.trans (f9.trans f10)))))))))) _ _ hb0, k10, (by rw [hl0]; exact (by decide : 9 ≤ sizeLine)), fun pz npz => ?_⟩
      have fz := Ex.new (o := .lst (xs0 ++ [.ref p3, .ref p6, .ref p9])) npz
      have hall : ∀ x ∈ ([.ref p3, .ref p6, .ref p9] : List V), CaseU G10 3 (litF [[0, 1, 0], [-1, 0, 1], [0, -1, 0]]) x := allc (⟨p3, p1, p2, 0, 1, 0, 9, false, rfl, (f10 _ _ (f9 _ _ (f8 _ _ (f7 _ _ (f6 _ _ (f5 _ _ (f4 _ _ k3))))))), (f10 _ _ (f9 _ _ (f8 _ _ (f7 _ _ (f6 _ _ (f5 _ _ (f4 _ _ (f3 _ _ (f2 _ _ k1))))))))), (f10 _ _ (f9 _ _ (f8 _ _ (f7 _ _ (f6 _ _ (f5 _ _ (f4 _ _ (f3 _ _ k2)))))))), by decide +kernel⟩)
        (allc (⟨p6, p4, p5, 0, 2, 0, 2, false, rfl, (f10 _ _ (f9 _ _ (f8 _ _ (f7 _ _ k6)))), (f10 _ _ (f9 _ _ (f8 _ _ (f7 _ _ (f6 _ _ (f5 _ _ k4)))))), (f10 _ _ (f9 _ _ (f8 _ _ (f7 _ _ (f6 _ _ k5))))), by decide +kernel⟩)
        (allc (⟨p9, p7, p8, 0, 1, 2, 2, false, rfl, (f10 _ _ k9), (f10 _ _ (f9 _ _ (f8 _ _ k7))), (f10 _ _ (f9 _ _ k8)), by decide +kernel⟩)
        (alln)))
      exact ⟨pz, _, rfl, ((f1.trans (f2.trans (f3.trans (f4.trans (f5.trans (f6.trans (f7.trans (f8.trans (f9.trans f10)))))))))).trans fz, upd_same, by rw [List.length_append, hl0]; rfl, fun x hx => (List.mem_append.mp hx).elim (fun h => (hx0 x h).mono (((f1.trans (f2.trans (f3.trans (f4.trans (f5.trans (f6.trans (f7.trans (f8.trans (f9.trans f10)))))))))).trans fz)) (fun h => (hall x h).mono fz)⟩
    rintro _ Hn14 ⟨b0, xs0, rfl, en, hb0, hl0, hx0⟩
    replace TW := TW.mono en
    replace TO := TO.mono en
    replace e0 := e0.trans en
    clear en
    refine ⟨fun σ' H' => ∃ (z5 z7 z8 : Option V), σ' = [some (.int 1000000000000000000000000000000), some vtwo, some (.ref b0), z3, z4, z5, some vodd, z7, z8] ∧ Ex Hn14 H', ?_, ?_⟩
    · refine ⟨_, rfl, b0, rfl, ⟨_, sq_of hb0⟩, for_list (K := K) (a := b0) (xs := xs0) (fun i σ' H' => ∃ (z5 z7 z8 : Option V), σ' = [some (.int 1000000000000000000000000000000), some vtwo, some (.ref b0), z3, z4, z5, some vodd, z7, z8] ∧ Ex Hn14 H')
        ⟨_, _, _, rfl, Ex.refl _⟩ (fun i σ' H' _ ⟨_, _, _, _, e⟩ => sq_of (e _ _ hb0)) ?_ ?_⟩
      · rintro i x σ' H' hi ⟨z5, z7, z8, rfl, e⟩
        obtain ⟨t, p, r, a, b, c, d, wh, rfl, ht, hp, hr2, hsh⟩ := (hx0 x (List.mem_of_getElem? hi)).mono e
        refine ⟨t, _, rfl, st_of ht, rfl, .ref p, _, rfl, .ref r, _, rfl, .bl wh, [], rfl, rfl, ?_⟩
        refine ⟨_, rfl, _, rfl, ?_⟩
        intro x dx nx ndx nxd
        refine ⟨x, dx, _, _, rfl, upd_same, fun G1 eB hx => ⟨rfl, ?_⟩⟩
        have f1 := ex_after nx ndx nxd eB
        refine ⟨x, dx, _, rfl, hx, rfl, _, rfl, x, dx, p, r, _, a, b, c, d, 3, _, rfl, hx, st_of (f1 _ _ hp), st_of (f1 _ _ hr2), (TO.mono e).mono f1, fun G2 e2 => ?_⟩
        refine ⟨_, rfl, rfl, _, rfl, itF (by rw [hsh, decide_eq_true rfl]; rfl) ?_⟩
        exact ⟨_, _, _, rfl, e.trans (f1.trans e2)⟩
      · rintro σ' H' ⟨z5, z7, z8, rfl, e⟩
        exact ⟨_, _, _, rfl, e⟩
    rintro _ Hn15 ⟨z5, z7, z8, rfl, en⟩
    clear hb0 hx0
    replace TW := TW.mono en
    replace TO := TO.mono en
    replace e0 := e0.trans en
    clear en
    refine ⟨fun σ' H' => σ' = [some (.int 1000000000000000000000000000000), some vtwo, some (.ref b0), z3, z4, z5, some vodd, z7, z8] ∧ Ex Hn15 H', ?_, ?_⟩
    · refine ⟨_, rfl, vodd, 3, (litF [[0, 1, 0], [-1, 0, 1], [0, -1, 0]]), rfl, by decide, by decide, (TO.mono (Ex.refl _)), antiL (by decide +kernel), fun G1 x1 f1 nx1 hT1 => ?_⟩
      obtain ⟨hy1, _⟩ := told_une T hT1 (by decide +kernel)
      refine ⟨.ref x1, .ref T.c_Uneven, _, _, true, rfl, .own _, hy1, T.k_Uneven_Uneven, true, rfl, ?_⟩
      refine ⟨(by decide : 2 ≤ sizeLine), fun p2 np2 => ?_⟩
      generalize g2 : upd _ p2 _ = G2
      have f2 : Ex G1 G2 := by rw [← g2]; exact Ex.new np2
      have k2 : G2 p2 = some (.lst [.int 0, .int 1]) := by rw [← g2]; exact upd_same
      clear g2
      refine ⟨_, rfl, (by decide : 2 ≤ sizeLine), fun p3 np3 => ?_⟩
      generalize g3 : upd _ p3 _ = G3
      have f3 : Ex G2 G3 := by rw [← g3]; exact Ex.new np3
      have k3 : G3 p3 = some (.lst [.int (-1), .int 0]) := by rw [← g3]; exact upd_same
      clear g3
      refine ⟨(by decide : 2 ≤ sizeLine), fun p4 np4 => ?_⟩
      generalize g4 : upd _ p4 _ = G4
      have f4 : Ex G3 G4 := by rw [← g4]; exact Ex.new np4
      have k4 : G4 p4 = some (.lst [.ref p2, .ref p3]) := by rw [← g4]; exact upd_same
      clear g4
      refine ⟨.ref p4, 2, (litF [[0, 1], [-1, 0]]), rfl, by decide, by decide, (tabR_lit (rs := [p2, p3]) [[0, 1], [-1, 0]] k4 (by decide) (.cons (f4 _ _ (f3 _ _ k2)) (.cons (f4 _ _ k3) .nil)) : TabR K _ _ 2 (litF [[0, 1], [-1, 0]])), antiL (by decide +kernel), fun G5 x5 f5 nx5 hT5 => ?_⟩
      obtain ⟨hy5, _⟩ := told_bal T hT5 (by decide +kernel)
      refine ⟨.ref x5, .ref T.c_Ballots, _, _, true, rfl, .own _, hy5, T.k_Ballots_Ballots, true, rfl, ?_⟩
      exact ⟨rfl, ((f1.trans (f2.trans (f3.trans (f4.trans f5)))))⟩
    rintro _ Hn16 ⟨rfl, en⟩
    replace TW := TW.mono en
    replace TO := TO.mono en
    replace e0 := e0.trans en
    clear en
    refine ⟨fun σ' H' => σ' = [some (.int 1000000000000000000000000000000), some vtwo, some (.ref b0), z3, z4, z5, some vodd, z7, z8] ∧ Ex Hn16 H', ?_, ?_⟩
    · refine ⟨(by decide : 1 ≤ sizeLine), fun p1 np1 => ?_⟩
      generalize g1 : upd _ p1 _ = G1
      have f1 : Ex Hn16 G1 := by rw [← g1]; exact Ex.new np1
      have k1 : G1 p1 = some (.lst [.int 0]) := by rw [← g1]; exact upd_same
      clear g1
      refine ⟨(by decide : 1 ≤ sizeLine), fun p2 np2 => ?_⟩
      generalize g2 : upd _ p2 _ = G2
      have f2 : Ex G1 G2 := by rw [← g2]; exact Ex.new np2
      have k2 : G2 p2 = some (.lst [.ref p1]) := by rw [← g2]; exact upd_same
      clear g2
      refine ⟨.ref p2, 1, (litF [[0]]), rfl, by decide, by decide, (tabR_lit (rs := [p1]) [[0]] k2 (by decide) (.cons (f2 _ _ k1) .nil) : TabR K _ _ 1 (litF [[0]])), antiL (by decide +kernel), fun G3 x3 f3 nx3 hT3 => ?_⟩
      obtain ⟨hy3, _⟩ := told_bal T hT3 (by decide +kernel)
      refine ⟨.ref x3, .ref T.c_Ballots, _, _, true, rfl, .own _, hy3, T.k_Ballots_Ballots, true, rfl, ?_⟩
      refine ⟨_, rfl, (by decide : 2 ≤ sizeLine), fun p4 np4 => ?_⟩
      generalize g4 : upd _ p4 _ = G4
      have f4 : Ex G3 G4 := by rw [← g4]; exact Ex.new np4
      have k4 : G4 p4 = some (.lst [.int 0, .int 1000000000000000000000000000000]) := by rw [← g4]; exact upd_same
      clear g4
      refine ⟨_, rfl, _, rfl, (by decide : 2 ≤ sizeLine), fun p5 np5 => ?_⟩
      generalize g5 : upd _ p5 _ = G5
      have f5 : Ex G4 G5 := by rw [← g5]; exact Ex.new np5
      have k5 : G5 p5 = some (.lst [.int (-1000000000000000000000000000000), .int 0]) := by rw [← g5]; exact upd_same
      clear g5
      refine ⟨(by decide : 2 ≤ sizeLine), fun p6 np6 => ?_⟩
      generalize g6 : upd _ p6 _ = G6
      have f6 : Ex G5 G6 := by rw [← g6]; exact Ex.new np6
      have k6 : G6 p6 = some (.lst [.ref p4, .ref p5]) := by rw [← g6]; exact upd_same
      clear g6
      refine ⟨.ref p6, 2, (litF [[0, 1000000000000000000000000000000], [-1000000000000000000000000000000, 0]]), rfl, by decide, by decide, (tabR_lit (rs := [p4, p5]) [[0, 1000000000000000000000000000000], [-1000000000000000000000000000000, 0]] k6 (by decide) (.cons (f6 _ _ (f5 _ _ k4)) (.cons (f6 _ _ k5) .nil)) : TabR K _ _ 2 (litF [[0, 1000000000000000000000000000000], [-1000000000000000000000000000000, 0]])), antiL (by decide +kernel), fun G7 x7 f7 nx7 hT7 => ?_⟩
      obtain ⟨hy7, _⟩ := told_bal T hT7 (by decide +kernel)
      refine ⟨.ref x7, .ref T.c_Ballots, _, _, true, rfl, .own _, hy7, T.k_Ballots_Ballots, true, rfl, ?_⟩
      exact ⟨rfl, ((f1.trans (f2.trans (f3.trans (f4.trans (f5.trans (f6.trans f7)))))))⟩
    rintro _ Hn17 ⟨rfl, en⟩
    replace TW := TW.mono en
    replace TO := TO.mono en
    replace e0 := e0.trans en
    clear en
    refine ⟨fun σ' H' => ∃ (b : Addr) (xs : List V), σ' = [some (.int 1000000000000000000000000000000), some vtwo, some (.ref b), z3, z4, z5, some vodd, z7, z8] ∧ Ex Hn17 H' ∧ H' b = some (.lst xs) ∧ xs.length = 3 ∧ ∀ x ∈ xs, CaseT K H' x, ?_, ?_⟩
    · refine ⟨_, rfl, _, rfl, (by decide : 3 ≤ sizeLine), fun p1 np1 => ?_⟩
      generalize g1 : upd _ p1 _ = G1
      have f1 : Ex Hn17 G1 := by rw [← g1]; exact Ex.new np1
      have k1 : G1 p1 = some (.lst [.int 0, .int 1, .int (-1)]) := by rw [← g1]; exact upd_same
      clear g1
      refine ⟨_, rfl, (by decide : 3 ≤ sizeLine), fun p2 np2 => ?_⟩
      generalize g2 : upd _ p2 _ = G2
      have f2 : Ex G1 G2 := by rw [← g2]; exact Ex.new np2
      have k2 : G2 p2 = some (.lst [.int (-1), .int 0, .int 1]) := by rw [← g2]; exact upd_same
      clear g2
      refine ⟨_, rfl, (by decide : 3 ≤ sizeLine), fun p3 np3 => ?_⟩
      generalize g3 : upd _ p3 _ = G3
      have f3 : Ex G2 G3 := by rw [← g3]; exact Ex.new np3
      have k3 : G3 p3 = some (.lst [.int 1, .int (-1), .int 0]) := by rw [← g3]; exact upd_same
      clear g3
      refine ⟨(by decide : 3 ≤ sizeLine), fun p4 np4 => ?_⟩
      generalize g4 : upd _ p4 _ = G4
      have f4 : Ex G3 G4 := by rw [← g4]; exact Ex.new np4
      have k4 : G4 p4 = some (.lst [.ref p1, .ref p2, .ref p3]) := by rw [← g4]; exact upd_same
      clear g4
      refine ⟨_, rfl, (by decide : 3 ≤ sizeLine), fun p5 np5 => ?_⟩
      generalize g5 : upd _ p5 _ = G5
      have f5 : Ex G4 G5 := by rw [← g5]; exact Ex.new np5
      have k5 : G5 p5 = some (.lst [.int 0, .int 5, .int (-1)]) := by rw [← g5]; exact upd_same
      clear g5
      refine ⟨_, rfl, (by decide : 3 ≤ sizeLine), fun p6 np6 => ?_⟩
      generalize g6 : upd _ p6 _ = G6
      have f6 : Ex G5 G6 := by rw [← g6]; exact Ex.new np6
      have k6 : G6 p6 = some (.lst [.int (-5), .int 0, .int 3]) := by rw [← g6]; exact upd_same
      clear g6
      refine ⟨_, rfl, (by decide : 3 ≤ sizeLine), fun p7 np7 => ?_⟩
      generalize g7 : upd _ p7 _ = G7
      have f7 : Ex G6 G7 := by rw [← g7]; exact Ex.new np7
      have k7 : G7 p7 = some (.lst [.int 1, .int (-3), .int 0]) := by rw [← g7]; exact upd_same
      clear g7
      refine ⟨(by decide : 3 ≤ sizeLine), fun p8 np8 => ?_⟩
      generalize g8 : upd _ p8 _ = G8
      have f8 : Ex G7 G8 := by rw [← g8]; exact Ex.new np8
      have k8 : G8 p8 = some (.lst [.ref p5, .ref p6, .ref p7]) := by rw [← g8]; exact upd_same
      clear g8
      refine ⟨(by decide : 3 ≤ sizeLine), fun p9 np9 => ?_⟩
      generalize g9 : upd _ p9 _ = G9
      have f9 : Ex G8 G9 := by rw [← g9]; exact Ex.new np9
      have k9 : G9 p9 = some (.lst [vtwo, .ref p4, .ref p8]) := by rw [← g9]; exact upd_same
      clear g9
      exact ⟨p9, _, rfl, ((f1.trans (f2.trans (f3.trans (f4.trans (f5.trans (f6.trans (f7.trans (f8.trans f9))))))))), k9, rfl, allc (⟨2, (litF [[0, 2], [-2, 0]]), (TW.mono ((f1.trans (f2.trans (f3.trans (f4.trans (f5.trans (f6.trans (f7.trans (f8.trans f9)))))))))), by decide, by decide, antiL (by decide +kernel), by decide +kernel⟩)
        (allc (⟨3, (litF [[0, 1, -1], [-1, 0, 1], [1, -1, 0]]), (tabR_lit (rs := [p1, p2, p3]) [[0, 1, -1], [-1, 0, 1], [1, -1, 0]] (f9 _ _ (f8 _ _ (f7 _ _ (f6 _ _ (f5 _ _ k4))))) (by decide) (.cons (f9 _ _ (f8 _ _ (f7 _ _ (f6 _ _ (f5 _ _ (f4 _ _ (f3 _ _ (f2 _ _ k1)))))))) (.cons (f9 _ _ (f8 _ _ (f7 _ _ (f6 _ _ (f5 _ _ (f4 _ _ (f3 _ _ k2))))))) (.cons (f9 _ _ (f8 _ _ (f7 _ _ (f6 _ _ (f5 _ _ (f4 _ _ k3)))))) .nil))) : TabR K _ _ 3 (litF [[0, 1, -1], [-1, 0, 1], [1, -1, 0]])), by decide, by decide, antiL (by decide +kernel), by decide +kernel⟩)
        (allc (⟨3, (litF [[0, 5, -1], [-5, 0, 3], [1, -3, 0]]), (tabR_lit (rs := [p5, p6, p7]) [[0, 5, -1], [-5, 0, 3], [1, -3, 0]] (f9 _ _ k8) (by decide) (.cons (f9 _ _ (f8 _ _ (f7 _ _ (f6 _ _ k5)))) (.cons (f9 _ _ (f8 _ _ (f7 _ _ k6))) (.cons (f9 _ _ (f8 _ _ k7)) .nil))) : TabR K _ _ 3 (litF [[0, 5, -1], [-5, 0, 3], [1, -3, 0]])), by decide, by decide, antiL (by decide +kernel), by decide +kernel⟩)
        (alln)))⟩
    rintro _ Hn18 ⟨b0, xs0, rfl, en, hb0, hl0, hx0⟩
    replace TW := TW.mono en
    replace TO := TO.mono en
    replace e0 := e0.trans en
    clear en
    refine ⟨fun σ' H' => ∃ (b : Addr) (xs : List V), σ' = [some (.int 1000000000000000000000000000000), some vtwo, some (.ref b), z3, z4, z5, some vodd, z7, z8] ∧ Ex Hn18 H' ∧ H' b = some (.lst xs) ∧ xs.length = 6 ∧ ∀ x ∈ xs, CaseT K H' x, ?_, ?_⟩
    · refine ⟨_, rfl, _, rfl, (by decide : 2 ≤ sizeLine), fun p1 np1 => ?_⟩
      generalize g1 : upd _ p1 _ = G1
      have f1 : Ex Hn18 G1 := by rw [← g1]; exact Ex.new np1
      have k1 : G1 p1 = some (.lst [.int 0, .int 1000000000000000000000000000000]) := by rw [← g1]; exact upd_same
      clear g1
      refine ⟨_, rfl, _, rfl, (by decide : 2 ≤ sizeLine), fun p2 np2 => ?_⟩
      generalize g2 : upd _ p2 _ = G2
      have f2 : Ex G1 G2 := by rw [← g2]; exact Ex.new np2
      have k2 : G2 p2 = some (.lst [.int (-1000000000000000000000000000000), .int 0]) := by rw [← g2]; exact upd_same
      clear g2
      refine ⟨(by decide : 2 ≤ sizeLine), fun p3 np3 => ?_⟩
      generalize g3 : upd _ p3 _ = G3
      have f3 : Ex G2 G3 := by rw [← g3]; exact Ex.new np3
      have k3 : G3 p3 = some (.lst [.ref p1, .ref p2]) := by rw [← g3]; exact upd_same
      clear g3
      refine ⟨(by decide : 1 ≤ sizeLine), fun p4 np4 => ?_⟩
      generalize g4 : upd _ p4 _ = G4
      have f4 : Ex G3 G4 := by rw [← g4]; exact Ex.new np4
      have k4 : G4 p4 = some (.lst [.int 0]) := by rw [← g4]; exact upd_same
      clear g4
      refine ⟨p4, 4, _, rfl, rfl, k4, by decide, by decide, (by decide : 1 * (4 : Int).toNat ≤ sizeLine), fun p5 np5 => ?_⟩
      generalize g5 : upd _ p5 _ = G5
      have f5 : Ex G4 G5 := by rw [← g5]; exact Ex.new np5
      have k5 : G5 p5 = some (.lst (List.replicate 4 [.int 0]).flatten) := by rw [← g5]; exact upd_same
      clear g5
      refine ⟨(by decide : 1 ≤ sizeLine), fun p6 np6 => ?_⟩
      generalize g6 : upd _ p6 _ = G6
      have f6 : Ex G5 G6 := by rw [← g6]; exact Ex.new np6
      have k6 : G6 p6 = some (.lst [.ref p5]) := by rw [← g6]; exact upd_same
      clear g6
      refine ⟨p6, 4, _, rfl, rfl, k6, by decide, by decide, (by decide : 1 * (4 : Int).toNat ≤ sizeLine), fun p7 np7 => ?_⟩
      generalize g7 : upd _ p7 _ = G7
      have f7 : Ex G6 G7 := by rw [← g7]; exact Ex.new np7
      have k7 : G7 p7 = some (.lst (List.replicate 4 [.ref p5]).flatten) := by rw [← g7]; exact upd_same
      clear g7
      refine ⟨(by decide : 1 ≤ sizeLine), fun p8 np8 => ?_⟩
      generalize g8 : upd _ p8 _ = G8
      have f8 : Ex G7 G8 := by rw [← g8]; exact Ex.new np8
      have k8 : G8 p8 = some (.lst [.int 0]) := by rw [← g8]; exact upd_same
      clear g8
      refine ⟨(by decide : 1 ≤ sizeLine), fun p9 np9 => ?_⟩
      generalize g9 : upd _ p9 _ = G9
      have f9 : Ex G8 G9 := by rw [← g9]; exact Ex.new np9
      have k9 : G9 p9 = some (.lst [.ref p8]) := by rw [← g9]; exact upd_same
      clear g9
      refine ⟨(by decide : 3 ≤ sizeLine), fun p10 np10 => ?_⟩
      generalize g10 : upd _ p10 _ = G10
      have f10 : Ex G9 G10 := by rw [← g10]; exact Ex.new np10
      have k10 : G10 p10 = some (.lst [.ref p3, .ref p7, .ref p9]) := by rw [← g10]; exact upd_same
      clear g10
      refine ⟨b0, p10, xs0, _, rfl, rfl, ((f1.trans (f2.trans (f3.trans (f4.trans (f5.trans (f6.trans (f7.trans (f8.trans (f9.trans f10)))))))))) _ _ hb0, k10, (by rw [hl0]; exact (by decide : 6 ≤ sizeLine)), fun pz npz => ?_⟩
      have fz := Ex.new (o := .lst (xs0 ++ [.ref p3, .ref p7, .ref p9])) npz
      have hall : ∀ x ∈ ([.ref p3, .ref p7, .ref p9] : List V), CaseT K G10 x := allc (⟨2, (litF [[0, 1000000000000000000000000000000], [-1000000000000000000000000000000, 0]]), (tabR_lit (rs := [p1, p2]) [[0, 1000000000000000000000000000000], [-1000000000000000000000000000000, 0]] (f10 _ _ (f9 _ _ (f8 _ _ (f7 _ _ (f6 _ _ (f5 _ _ (f4 _ _ k3))))))) (by decide) (.cons (f10 _ _ (f9 _ _ (f8 _ _ (f7 _ _ (f6 _ _ (f5 _ _ (f4 _ _ (f3 _ _ (f2 _ _ k1))))))))) (.cons (f10 _ _ (f9 _ _ (f8 _ _ (f7 _ _ (f6 _ _ (f5 _ _ (f4 _ _ (f3 _ _ k2)))))))) .nil)) : TabR K _ _ 2 (litF [[0, 1000000000000000000000000000000], [-1000000000000000000000000000000, 0]])), by decide, by decide, antiL (by decide +kernel), by decide +kernel⟩)
        (allc (⟨4, (fun _ _ => 0), (tabR_zero (by rw [(f10 _ _ (f9 _ _ (f8 _ _ k7)))]; exact congrArg (fun l => some (HO.lst l)) (flat_rep _ 4)) (by rw [(f10 _ _ (f9 _ _ (f8 _ _ (f7 _ _ (f6 _ _ k5)))))]; exact congrArg (fun l => some (HO.lst l)) (rep_row 4))), by decide, by decide, antiL (by decide +kernel), by decide +kernel⟩)
        (allc (⟨1, (litF [[0]]), (tabR_lit (rs := [p8]) [[0]] (f10 _ _ k9) (by decide) (.cons (f10 _ _ (f9 _ _ k8)) .nil) : TabR K _ _ 1 (litF [[0]])), by decide, by decide, antiL (by decide +kernel), by decide +kernel⟩)
        (alln)))
      exact ⟨pz, _, rfl, ((f1.trans (f2.trans (f3.trans (f4.trans (f5.trans (f6.trans (f7.trans (f8.trans (f9.trans f10)))))))))).trans fz, upd_same, by rw [List.length_append, hl0]; rfl, fun x hx => (List.mem_append.mp hx).elim (fun h => (hx0 x h).mono (((f1.trans (f2.trans (f3.trans (f4.trans (f5.trans (f6.trans (f7.trans (f8.trans (f9.trans f10)))))))))).trans fz)) (fun h => (hall x h).mono fz)⟩
    rintro _ Hn19 ⟨b0, xs0, rfl, en, hb0, hl0, hx0⟩
    replace TW := TW.mono en
    replace TO := TO.mono en
    replace e0 := e0.trans en
    clear en
    refine ⟨fun σ' H' => ∃ (z4 : Option V), σ' = [some (.int 1000000000000000000000000000000), some vtwo, some (.ref b0), z3, z4, z5, some vodd, z7, z8] ∧ Ex Hn19 H', ?_, ?_⟩
    · refine ⟨_, rfl, b0, rfl, ⟨_, sq_of hb0⟩, for_list (K := K) (a := b0) (xs := xs0) (fun i σ' H' => ∃ (z4 : Option V), σ' = [some (.int 1000000000000000000000000000000), some vtwo, some (.ref b0), z3, z4, z5, some vodd, z7, z8] ∧ Ex Hn19 H')
        ⟨_, rfl, Ex.refl _⟩ (fun i σ' H' _ ⟨_, _, e⟩ => sq_of (e _ _ hb0)) ?_ ?_⟩
      · rintro i x σ' H' hi ⟨z4, rfl, e⟩
        obtain ⟨n, f, TT, hn1, hn, hA, hal⟩ := (hx0 x (List.mem_of_getElem? hi)).mono e
        obtain ⟨t, ys, rfl, hS, hl, hat⟩ := TT.at_
        refine ⟨_, rfl, t, _, rfl, .inl hS, ?_⟩
        rw [hl]
        refine ⟨_, rfl, _, n, f, rfl, hn1, hn, TT, hA, fun G1 y e1 ny hT => ?_⟩
        obtain ⟨_, dx, D, ts, ls, bs, hx, BN, ok, ec, len⟩ := told_bal T hT hal
        refine ⟨y, T.c_Ballots, dx, _, _, rfl, hx, T.C_Ballots, T.a_Ballots_ballots, rfl, n, _, bs, rfl, hn1, hn, BN.rd, ok, fun G2 t2 r2 e2 T2 => ?_⟩
        refine ⟨_, rfl, _, _, T2.rd.dp, (TT.mono (e1.trans e2)).dp, shaped_tab _ _, shaped_tab _ _, _, rfl, itF (by rw [eqv_tab ec]; rfl) ?_⟩
        exact ⟨_, rfl, e.trans (e1.trans e2)⟩
      · rintro σ' H' ⟨z4, rfl, e⟩
        exact ⟨_, rfl, e⟩
    rintro _ Hn20 ⟨z4, rfl, en⟩
    clear hb0 hx0
    replace TW := TW.mono en
    replace TO := TO.mono en
    replace e0 := e0.trans en
    clear en
    exact ⟨rfl, fun H2 e2 => q _ (e0.trans e2)⟩
end
end Hc
namespace Hc
open PySem PySem.Spec PyProof.Rows L2 Evl
section
variable {P : Program} {w : World} {K : PySem.W.Frag} {mg : Str → Option Value} {base : Heap}
theorem sortPK {X : Cx} (K : PySem.W.Frag) (h : X.K = K := by rfl) : CallR X (.builtin "sorted") (rSortedPO K) := h ▸ cr_sortedPO
def spLMid (K : PySem.W.Frag) : Sp := fun vs H Q _ => ∃ (n : Nat) (v : V) (bs : List (List Nat × Int)), vs = [v] ∧ 1 ≤ n ∧ BalsR K H v bs ∧ bs.all (okB n) = true ∧ bs.length ≤ 1000 ∧
  ∀ H2 w, Ex H H2 → wholeOf bs ≤ 2 * held bs w → (∀ v, v < w → 2 * held bs v < wholeOf bs) → Q (.int (w : Nat)) H2
/-- a new pair of a top and a number -/
def HeadR (H : Hp) (x : V) (p : Nat × Int) : Prop := ∃ t : Addr, x = .ref t ∧ H t = some (.tup [.int (p.1 : Int), .int p.2])
theorem HeadR.mono {H H' : Hp} {x : V} {p : Nat × Int} (h : HeadR H x p) (e : Ex H H') : HeadR H' x p := by
  obtain ⟨t, h1, h2⟩ := h
  exact ⟨t, h1, e _ _ h2⟩
/-- what a heap says of a pair -/
def pairOb : Option HO → Nat × Int
  | some (.tup [.int i, .int j]) => (i.toNat, j)
  | _ => (0, 0)
def pairAt (H : Hp) : V → Nat × Int
  | .ref t => pairOb (H t)
  | _ => (0, 0)
theorem pairAt_of {H : Hp} {x : V} {p : Nat × Int} (h : HeadR H x p) : pairAt H x = p := by
  obtain ⟨t, rfl, h2⟩ := h
  show pairOb (H t) = p
  rw [h2]
  show ((p.1 : Int).toNat, p.2) = p
  rw [Int.toNat_natCast]
theorem paired_map {H : Hp} : ∀ {xs : List V} {ps : List (Nat × Int)}, Paired (HeadR H) xs ps → xs.map (pairAt H) = ps
  | _, _, .nil => rfl
  | _, _, .cons r t => by rw [List.map_cons, pairAt_of r, paired_map t]
theorem paired_mem {H : Hp} {xs : List V} {ps : List (Nat × Int)} (h : Paired (HeadR H) xs ps) {x : V} (hx : x ∈ xs) : HeadR H x (pairAt H x) := by
  obtain ⟨i, hi, rfl⟩ := List.mem_iff_getElem.mp hx
  obtain ⟨p, _, r⟩ := Paired.get h (List.getElem?_eq_getElem hi)
  rw [pairAt_of r]
  exact r
def spLaw (K : PySem.W.Frag) : Sp := fun vs H Q _ => ∃ (a : Addr) (ns : List Int) (B : Nat), vs = [.ref a] ∧ SqL K H a (iv ns) ∧ ns.length ≤ 63 ∧ (∀ z ∈ ns, Big B z) ∧ B ≤ 2000000 ∧ 64 ≤ B ∧ ∀ H', Q (.bl true) H'
/-- a new pair, not D -/
def PairD (D : Addr) (H : Hp) (x : V) (p : Nat × Int) : Prop := ∃ t : Addr, x = .ref t ∧ t ≠ D ∧ H t = some (.tup [.int (p.1 : Int), .int p.2])
theorem pairs_snd {H : Hp} {ys ts : List V} {n : Nat} {g : Nat → Nat} (hp : ys.Perm ts) (hT : Paired (HeadR H) ts ((List.range n).map fun (i : Nat) => (g i, (i : Int)))) :
    ∃ ks : List Nat, ks.Perm (List.range n) ∧ ys.map (fun x => V.int (pairAt H x).2) = nv ks := by
  refine ⟨ys.map fun x => (pairAt H x).2.toNat, ?_, ?_⟩
  · have h1 := hp.map fun x => (pairAt H x).2.toNat
    have h2 : (ts.map fun x => (pairAt H x).2.toNat) = List.range n := by
      have h3 := congrArg (List.map fun p : Nat × Int => p.2.toNat) (paired_map hT)
      rw [List.map_map, List.map_map] at h3
      refine h3.trans ?_
      conv => rhs; rw [← List.map_id (List.range n)]
      exact List.map_congr_left fun x _ => rfl
    rw [h2] at h1
    exact h1
  · unfold nv
    rw [List.map_map]
    refine List.map_congr_left fun x hx => ?_
    have h4 : pairAt H x ∈ (List.range n).map fun (i : Nat) => (g i, (i : Int)) := by
      rw [← paired_map hT]
      exact List.mem_map.mpr ⟨x, hp.mem_iff.mp hx, rfl⟩
    obtain ⟨i, _, e⟩ := List.mem_map.mp h4
    have h5 : 0 ≤ (pairAt H x).2 := by
      rw [← e]
      show 0 ≤ (i : Int)
      omega
    show V.int (pairAt H x).2 = V.int (((pairAt H x).2.toNat : Nat) : Int)
    congr 1
    omega
theorem abs_nn (i : Int) : 0 ≤ (if i < 0 then -i else i) := by split <;> omega
theorem pk_few {n : Nat} (h1 : 3 ≤ n) (h2 : n ≤ 5) : isPk (List.range n) = true := by
  rcases (by omega : n = 3 ∨ n = 4 ∨ n = 5) with rfl | rfl | rfl <;> decide
theorem ok_law (T : Tx K mg) : FnOk P w K mg base CX0 9 T.f_law T.d_law ["_law_script"] (spLaw K) := by
  refine T.F_law.ok sc_law (fun vs H Q E h => ?_) (fun cdv A outer s H vs Q E hr h => ?_)
  · obtain ⟨a, ns, B, rfl, _⟩ := h
    rfl
  · obtain ⟨a, ns, B, rfl, hS, h63, hB, hB2, hB3, q⟩ := h
    refine ⟨_, pss_cons (ps_if (pt_not (pt_val (pe_call0 (ok_law_promises_right T) (hr.mono (by decide)) (by rfl) T.g_law_promises_right T.F_law_promises_right.kp (b_law_promises_right T) .nil pass0))) (pss_one (ps_ret pe_bl)) (pss_nil))
      (pss_cons (ps_set (i := 1) sc_law.nd rfl (Or.inl rfl) (pe_callB call_abs (by rfl) T.n_abs PyProof.Rows.boot_abs (pa_cons (pe_callB (sumK K) (by rfl) T.n_sum PyProof.Rows.boot_sum (pa_cons (pe_slice (slLK K) (pv 0) po_none (po_some pe_int)) pa_nil)) pa_nil)))
      (Evl.pss_cut (ps_set (i := 2) sc_law.nd rfl (Or.inl rfl) (pe_ifExp (pt_cmpR (neDK K hr.units) (pv 0) (pe_lst pa_nil) (nomark _)) (pe_slice (slLK K) (pv 0) po_none (po_some pe_int)) (pe_lst (pa_cons pe_int pa_nil))))
      (pss_cons (ps_par (by rfl) (i := 3) (j := 4) sc_law.nd rfl rfl (by decide) rfl rfl (pa_cons (pe_op op_add pe_int (pe_op op_mod (pv 1) pe_int)) (pa_cons (pe_lst pa_nil) pa_nil)) (by rfl))
      (Evl.pss_cut (ps_for PassesOwn.never rfl (piE K (by rfl) T.n_enumerate (pa_cons (pv 2) pa_nil)) (pgT K (n := 2) (pgs_cons (pg_name (i := 5) sc_law.nd rfl (by first | exact Or.inl rfl | exact Or.inr rfl)) (pgs_cons (pg_name (i := 6) sc_law.nd rfl (by first | exact Or.inl rfl | exact Or.inr rfl)) pgs_nil)))
        (pss_cons (ps_set (i := 7) sc_law.nd rfl (Or.inr rfl) (pe_op op_fdivW (pe_callB call_abs (by rfl) T.n_abs PyProof.Rows.boot_abs (pa_cons (pe_call (ok_law_number T) (hr.mono (by decide)) (by rfl) T.g_law_number T.F_law_number.kp (b_law_number T) .nil pass0 (pa_cons (pv 6) (pa_cons (pv 5) (pa_cons (pv 1) pa_nil)))) pa_nil)) pe_int))
      (pss_cons (ps_set (i := 8) sc_law.nd rfl (Or.inl rfl) (pe_callB (sortPK K) (by rfl) T.n_sorted PyProof.Rows.boot_sorted (pa_cons (pe_lc (own := [("_law_who", 12)]) rfl sc_law.nd (pi_range1 (by rfl) T.n_range (pa_cons (pv 3) pa_nil)) (blkOk_by (own := [("_law_who", 12)]) (N := ["_law_script", "_law_whole", "_law_cells", "_law_many", "_law_ballots", "_law_at", "_law_cell", "_law_number_here", "_law_ranks", "_law_alike", "_law_found", "_law_shown", "_law_who", "_law_rank"]) (sc := defScope s_law) (by decide +kernel)) (fun _ _ _ _ _ => (pg_name (i := 12) sc_law.nd rfl (by first | exact Or.inl rfl | exact Or.inr rfl))) (fun _ _ _ _ _ => pts_nil) (fun _ _ _ _ _ => (pe_tup (pa_cons (pe_op op_mod (pe_op op_fdivW (pv 7) (pe_op op_add pe_int (pe_op op_mulG pe_int (pv 12)))) pe_int) (pa_cons (pv 12) pa_nil))))) pa_nil)))
      (pss_one (ps_expr (pe_bm PySem.F.plainAttrs_list PySem.F.slot_list_append PySem.F.type_list_append mt_append (pv 4) (pa_cons (pe_tup (pa_cons (pe_lc (own := [("_law_rank", 13), ("_law_who", 12)]) rfl sc_law.nd (piL K (pv 8)) (blkOk_by (own := [("_law_rank", 13), ("_law_who", 12)]) (N := ["_law_script", "_law_whole", "_law_cells", "_law_many", "_law_ballots", "_law_at", "_law_cell", "_law_number_here", "_law_ranks", "_law_alike", "_law_found", "_law_shown", "_law_who", "_law_rank"]) (sc := defScope s_law) (by decide +kernel)) (fun _ _ _ _ _ => (pgT K (n := 2) (pgs_cons (pg_name (i := 13) sc_law.nd rfl (by first | exact Or.inl rfl | exact Or.inr rfl)) (pgs_cons (pg_name (i := 12) sc_law.nd rfl (by first | exact Or.inl rfl | exact Or.inr rfl)) pgs_nil)))) (fun _ _ _ _ _ => pts_nil) (fun _ _ _ _ _ => (pv 12))) (pa_cons (pe_op op_add pe_int (pe_op op_mod (pv 7) pe_int)) pa_nil))) pa_nil)))))))
      (Evl.pss_cut (ps_set (i := 9) sc_law.nd rfl (Or.inl rfl) (pe_lst (pa_cons (pe_tup (pa_cons (pe_lc (own := [("_law_who", 12)]) rfl sc_law.nd (pi_range1 (by rfl) T.n_range (pa_cons (pv 3) pa_nil)) (blkOk_by (own := [("_law_who", 12)]) (N := ["_law_script", "_law_whole", "_law_cells", "_law_many", "_law_ballots", "_law_at", "_law_cell", "_law_number_here", "_law_ranks", "_law_alike", "_law_found", "_law_shown", "_law_who", "_law_rank"]) (sc := defScope s_law) (by decide +kernel)) (fun _ _ _ _ _ => (pg_name (i := 12) sc_law.nd rfl (by first | exact Or.inl rfl | exact Or.inr rfl))) (fun _ _ _ _ _ => pts_nil) (fun _ _ _ _ _ => (pv 12))) (pa_cons (pe_op op_add pe_int (pe_op op_mod (pv 1) pe_int)) pa_nil))) pa_nil)))
      (Evl.pss_cut (ps_if (PW.pt (pw_or (pt_not (pt_val (pe_call (ok_law_table_right T) (hr.mono (by decide)) (by rfl) T.g_law_table_right T.F_law_table_right.kp (b_law_table_right T) .nil pass0 (pa_cons (pe_call (ok_counted T) (hr.mono (by decide)) (by rfl) T.g_counted T.F_counted.kp (b_counted T) .nil pass0 (pa_cons (pv 3) (pa_cons (pv 4) pa_nil))) pa_nil)))) (pw_or1 (pt_not (pt_val (pe_call (ok_law_table_right T) (hr.mono (by decide)) (by rfl) T.g_law_table_right T.F_law_table_right.kp (b_law_table_right T) .nil pass0 (pa_cons (pe_call (ok_counted T) (hr.mono (by decide)) (by rfl) T.g_counted T.F_counted.kp (b_counted T) .nil pass0 (pa_cons pe_int (pa_cons (pe_lst (pa_cons (pe_tup (pa_cons (pe_lst (pa_cons pe_int pa_nil)) (pa_cons pe_int pa_nil))) pa_nil)) pa_nil))) pa_nil))))))) (pss_one (ps_ret pe_bl)) (pss_nil))
      (Evl.pss_cut (ps_if (PW.pt (pw_or (pt_not (pt_val (pe_call (ok_law_table_right T) (hr.mono (by decide)) (by rfl) T.g_law_table_right T.F_law_table_right.kp (b_law_table_right T) .nil pass0 (pa_cons (pe_lst (pa_cons (pe_lst (pa_cons pe_int (pa_cons pe_int (pa_cons pe_int pa_nil)))) (pa_cons (pe_lst (pa_cons (pe_un un_neg pe_int) (pa_cons pe_int (pa_cons pe_int pa_nil)))) (pa_cons (pe_lst (pa_cons pe_int (pa_cons (pe_un un_neg pe_int) (pa_cons pe_int pa_nil)))) pa_nil)))) pa_nil)))) (pw_or1 (pt_not (pt_val (pe_call (ok_law_table_right T) (hr.mono (by decide)) (by rfl) T.g_law_table_right T.F_law_table_right.kp (b_law_table_right T) .nil pass0 (pa_cons (pe_call (ok_counted T) (hr.mono (by decide)) (by rfl) T.g_counted T.F_counted.kp (b_counted T) .nil pass0 (pa_cons (pv 3) (pa_cons (pv 9) pa_nil))) pa_nil))))))) (pss_one (ps_ret pe_bl)) (pss_nil))
      (pss_cons (ps_set (i := 10) sc_law.nd rfl (Or.inl rfl) (pe_lst (pa_cons (pe_call (ok_counted T) (hr.mono (by decide)) (by rfl) T.g_counted T.F_counted.kp (b_counted T) .nil pass0 (pa_cons (pv 3) (pa_cons (pv 4) pa_nil))) (pa_cons (pe_call (ok_counted T) (hr.mono (by decide)) (by rfl) T.g_counted T.F_counted.kp (b_counted T) .nil pass0 (pa_cons (pv 3) (pa_cons (pv 9) pa_nil))) (pa_cons (pe_call (ok_counted T) (hr.mono (by decide)) (by rfl) T.g_counted T.F_counted.kp (b_counted T) .nil pass0 (pa_cons pe_int (pa_cons (pe_lst pa_nil) pa_nil))) (pa_cons (pe_call (ok_middle T) (hr.mono (by decide)) (by rfl) T.g_middle T.F_middle.kp (b_middle T) .nil pass0 (pa_cons (pv 3) (pa_cons (pv 9) pa_nil))) pa_nil))))))
      (pss_cons (ps_set (i := 11) sc_law.nd rfl (Or.inl rfl) (pe_lst (pa_cons (pe_call (ok_peaked T) (hr.mono (by decide)) (by rfl) T.g_peaked T.F_peaked.kp (b_peaked T) .nil pass0 (pa_cons (pv 3) (pa_cons (pv 4) pa_nil))) (pa_cons (pe_call (ok_peaked T) (hr.mono (by decide)) (by rfl) T.g_peaked T.F_peaked.kp (b_peaked T) .nil pass0 (pa_cons (pv 3) (pa_cons (pv 9) pa_nil))) (pa_cons (pe_call (ok_peaked T) (hr.mono (by decide)) (by rfl) T.g_peaked T.F_peaked.kp (b_peaked T) .nil pass0 (pa_cons pe_int (pa_cons (pe_lst pa_nil) pa_nil))) pa_nil)))))
      (pss_one (ps_ret (pe_and (pe_call (ok_law_plain T 3) (hr.mono (by decide)) (by rfl) T.g_law_plain T.F_law_plain.kp (b_law_plain T) .nil pass0 (pa_cons (pv 10) pa_nil)) (pe_one (pe_call (ok_law_truths T) (hr.mono (by decide)) (by rfl) T.g_law_truths T.F_law_truths.kp (b_law_truths T) .nil pass0 (pa_cons (pv 11) pa_nil))))))))))))))), ?_⟩
    refine ⟨rfl, fun H1 e1 => ⟨true, rfl, ?_⟩⟩
    refine ⟨.ref a, rfl, 63, rfl, a, iv ns, rfl, ex_l e1 hS, fun c1 nc1 => ?_⟩
    generalize gc1 : upd _ c1 _ = H2
    have e2 : Ex H1 H2 := by rw [← gc1]; exact Ex.new nc1
    have k2 : H2 c1 = some (.lst (iv (ns.take 63))) := by
      rw [← gc1, upd_same, show (63 : Int) = ((63 : Nat) : Int) from rfl, cut_to]
      unfold iv
      rw [List.map_take]
    clear gc1
    refine ⟨c1, ns.take 63, rfl, sq_of k2, _, rfl, ?_⟩
    have hw0 := abs_nn (ns.take 63).sum
    generalize (if (ns.take 63).sum < 0 then -(ns.take 63).sum else (ns.take 63).sum) = wh at hw0
    have e12 := e1.trans e2
    refine ⟨fun σ' H' => ∃ c ms, σ' = [some (.ref a), some (.int wh), some (.ref c), none, none, none, none, none, none, none, none, none, none, none] ∧ Ex H H' ∧ H' c = some (.lst (iv ms)) ∧ ms.length ≤ 7 ∧ ∀ z ∈ ms, Big B z, ?_, ?_⟩
    · refine ⟨_, rfl, Nat.zero_le _, fun o no => ?_⟩
      have eo := Ex.new (o := .lst []) no
      refine ⟨_, _, dp_ints (ex_l (e12.trans eo) hS), dp_ints (ns := []) (sq_of upd_same), shaped_ints _, shaped_ints _, _, rfl, ?_⟩
      by_cases h0 : ns = []
      · refine itF (by rw [eqv_ints, h0]; rfl) ?_
        refine ⟨(by decide : 1 ≤ sizeLine), fun c nc => ⟨c, [5], rfl, (e12.trans eo).trans (Ex.new nc), upd_same, by decide, fun z hz => ?_⟩⟩
        have e3 : z = 5 := by simpa using hz
        rw [e3]
        exact big_small hB3 (by decide) (by decide)
      · refine itT (by rw [eqv_ints, decide_eq_false h0]; rfl) ?_
        refine ⟨_, rfl, 7, rfl, a, iv ns, rfl, ex_l (e12.trans eo) hS, fun c nc => ⟨c, ns.take 7, rfl, (e12.trans eo).trans (Ex.new nc), ?_, ?_, fun z hz => hB z (List.mem_of_mem_take hz)⟩⟩
        · rw [upd_same, show (7 : Int) = ((7 : Nat) : Int) from rfl, cut_to]
          unfold iv
          rw [List.map_take]
        · rw [List.length_take]
          omega
    rintro _ H3 ⟨c, ms, rfl, e3, hc, hm7, hBm⟩
    have m0 := Int.emod_nonneg wh (show (3 : Int) ≠ 0 by decide)
    have m1 := Int.emod_lt_of_pos wh (show (0 : Int) < 3 by decide)
    obtain ⟨n, hn⟩ : ∃ n : Nat, 3 + wh % 3 = (n : Int) := ⟨(3 + wh % 3).toNat, by omega⟩
    have hn3 : 3 ≤ n := by omega
    have hn5 : n ≤ 5 := by omega
    refine ⟨_, rfl, _, _, rfl, rfl, (by decide : (0 : Int) < 3), _, _, rfl, rfl, Nat.zero_le _, fun F nF => ?_⟩
    refine ⟨_, _, rfl, ?_⟩
    dsimp only
    rw [hn]
    generalize gF : upd _ F _ = H4
    have e4 : Ex H3 H4 := by rw [← gF]; exact Ex.new nF
    have kF : H4 F = some (.lst []) := by rw [← gF]; exact upd_same
    clear gF
    refine ⟨fun σ' H' => ∃ (y5 y6 y7 y8 : Option V) (xs : List V) (bs : List (List Nat × Int)), σ' = [some (.ref a), some (.int wh), some (.ref c), some (.int n), some (.ref F), y5, y6, y7, y8, none, none, none, none, none] ∧ Ex H3 H' ∧ H' F = some (.lst xs) ∧ Paired (BalR K H') xs bs ∧ bs.all (okB n) = true ∧ bs.length ≤ 7, ?_, ?_⟩
    · have hc4 := e4 _ _ hc
      refine ⟨_, rfl, c, _, rfl, sq_of hc4, ?_⟩
      refine for_it (walk_enum (K := K) (a := c) (xs := iv ms)) (fun p σ' H' => ∃ (y5 y6 y7 y8 : Option V) (xs : List V) (bs : List (List Nat × Int)), σ' = [some (.ref a), some (.int wh), some (.ref c), some (.int n), some (.ref F), y5, y6, y7, y8, none, none, none, none, none] ∧ Ex H3 H' ∧ H' F = some (.lst xs) ∧ Paired (BalR K (rem H' F)) xs bs ∧ bs.all (okB n) = true ∧ bs.length = p)
        ⟨_, _, _, _, [], [], rfl, e4, kF, .nil, rfl, rfl⟩ (fun p σ' H' _ ⟨_, _, _, _, _, _, _, e, _⟩ => sq_of (e _ _ hc)) ?_ ?_
      · rintro p x σ' H' H'' hp ⟨y5, y6, y7, y8, xs, bs, rfl, e, hF, hP, hok, hlen⟩ ⟨U, x1, x2, rfl, nU, rfl, h1, h2⟩
        cases h1
        obtain ⟨z, hz, rfl⟩ := iv_get h2
        have hzB : Big B z := hBm z (List.mem_of_getElem? hz)
        rw [iv_length] at hp
        have hxl : xs.length = bs.length := Paired.len hP
        refine ⟨U, _, rfl, st_of upd_same, rfl, _, _, rfl, _, [], rfl, rfl, ?_⟩
        generalize gU : upd _ U _ = G1
        have f1 : Ex H' G1 := by rw [← gU]; exact Ex.new nU
        clear gU
        refine ⟨_, rfl, _, rfl, _, rfl, z, p, wh, B, rfl, by omega, by omega, hzB, hB2, _, rfl, _, _, rfl, rfl, divW_small (by decide) (by decide), ?_⟩
        dsimp only
        have hnn := abs_nn (lawNum z p wh)
        generalize (if lawNum z p wh < 0 then -lawNum z p wh else lawNum z p wh) = ab at hnn ⊢
        have hnm : 0 ≤ ab / 3 := Int.ediv_nonneg hnn (by decide)
        generalize ab / 3 = nm at hnm ⊢
        refine ⟨_, rfl, n, rfl, by omega, by omega, fun D hD => ?_⟩
        refine lc_acc (n := n) (walk_rg0 (n := n)) hD (by omega) (fun _ _ => trivial) (fun ys Hx => Paired (PairD D Hx) ys ((List.range ys.length).map fun (i : Nat) => ((nm / (1 + 7 * (i : Int)) % 11).toNat, (i : Int)))) ?_ .nil ?_ ?_
        · rintro ys Ha Hb h eB
          exact L2.Paired.mapP h fun x p ⟨t, a1, a2, a3⟩ => ⟨t, a1, a2, eB _ _ a2 a3⟩
        · rintro i x Ha Ha' ys hi ea hDa hyl hI ⟨rfl, rfl⟩ Qc hq
          refine ⟨rfl, _, rfl, _, rfl, _, _, rfl, rfl, mulOk_small (by decide) (by decide), _, _, rfl, rfl, _, _, rfl, rfl, divW_small (by omega) (by omega), _, _, rfl, rfl, (by decide : (0 : Int) < 11), _, rfl, (by decide : 2 ≤ sizeLine), fun t nt => ?_⟩
          have et := Ex.new (o := .tup [.int (nm / (1 + 7 * (i : Int)) % 11), .int (i : Int)]) nt
          refine hq _ _ et ?_
          rw [List.length_append, hyl]
          show Paired _ _ ((List.range (i + 1)).map _)
          rw [List.range_succ, List.map_append]
          rw [hyl] at hI
          refine Paired.append (L2.Paired.mapP hI fun x p ⟨t, a1, a2, a3⟩ => ⟨t, a1, a2, et _ _ a3⟩) (.cons ⟨t, rfl, (ne_of_fresh hDa nt).symm, ?_⟩ .nil)
          rw [upd_same]
          have h0 := Int.emod_nonneg (nm / (1 + 7 * (i : Int))) (show (11 : Int) ≠ 0 by decide)
          show _ = some (HO.tup [V.int (((nm / (1 + 7 * (i : Int)) % 11).toNat : Nat) : Int), V.int (i : Int)])
          rw [Int.toNat_of_nonneg h0]
        · intro H6 ts e6 hD6 htl hI
          have hT : Paired (HeadR H6) ts ((List.range n).map fun (i : Nat) => ((nm / (1 + 7 * (i : Int)) % 11).toNat, (i : Int))) := by
            rw [htl] at hI
            exact L2.Paired.mapP hI fun x p ⟨t, a1, a2, a3⟩ => ⟨t, a1, a3⟩
          refine ⟨D, ts, fun x => (((pairAt H6 x).1 : Int), (pairAt H6 x).2), rfl, sq_of hD6, fun x hx => paired_mem hT hx, fun ys pr hsd hst np => ?_⟩
          generalize g2 : upd _ pr _ = G2
          have f2 : Ex H6 G2 := by rw [← g2]; exact Ex.new np
          have k2' : G2 pr = some (.lst ys) := by rw [← g2]; exact upd_same
          clear g2
          have hperm : ys.Perm ts := hst.perm
          obtain ⟨ks, hks, hnv⟩ := pairs_snd hperm hT
          have hyl : ys.length = n := by rw [hperm.length_eq, htl]
          have e62 := f1.trans (e6.trans f2)
          have hF2 := e62 _ _ hF
          refine ⟨_, rfl, .inl ⟨rfl, _, sq_of hF2⟩, _, rfl, pr, rfl, ⟨_, sq_of k2'⟩, fun D2 hD2 => ?_⟩
          refine lc_vals (walk_list (K := K) (a := pr) (xs := ys)) hD2 (by omega) (fun Hx e => sq_of (e _ _ k2')) (fun i => V.int (pairAt H6 (ys.getD i .non)).2) ?_ ?_
          · rintro j y Hb Hb' hj eb ⟨rfl, hy⟩ Qd hqd
            obtain ⟨t, et, ht⟩ := paired_mem hT (hperm.mem_iff.mp (List.mem_of_getElem? hy))
            rw [List.getD_eq_getElem?_getD, hy] at hqd
            exact ⟨t, _, et, st_of ((f2.trans eb) _ _ ht), rfl, .int _, _, rfl, .int _, [], rfl, rfl, rfl, _, rfl, hqd _ (Ex.refl _)⟩
          · intro H7 e7 hD7
            have hD7' : H7 D2 = some (.lst (nv ks)) := by
              rw [hD7, ← hnv]
              congr 2
              apply List.ext_getElem?
              intro i
              rw [List.getElem?_map, List.getElem?_map]
              by_cases hi : i < ys.length
              · rw [List.getElem?_range hi, List.getElem?_eq_getElem hi, Option.map_some, List.getD_eq_getElem?_getD, List.getElem?_eq_getElem hi]
                rfl
              · rw [List.getElem?_eq_none (by rw [List.length_range]; omega), List.getElem?_eq_none (by omega)]
                rfl
            refine ⟨_, rfl, _, _, rfl, rfl, (by decide : (0 : Int) < 9), _, _, rfl, rfl, (by decide : 2 ≤ sizeLine), fun t nt => ?_⟩
            have et := Ex.new (o := .tup [.ref D2, .int (1 + nm % 9)]) nt
            have e7t := e7.trans et
            have nD2F : D2 ≠ F := (ne_of_fresh hF2 hD2).symm
            have ntF : t ≠ F := (ne_of_fresh (e7 _ _ hF2) nt).symm
            refine ⟨F, xs, _, rfl, rfl, e7t _ _ hF2, sz_lt (by omega), ?_⟩
            refine ⟨_, _, _, _, xs ++ [.ref t], bs ++ [(ks, 1 + nm % 9)], rfl, (e.trans (e62.trans e7t)).mut nF, upd_same, ?_, ?_, by rw [List.length_append, hlen]; rfl⟩
            · rw [rem_upd]
              exact Paired.append (L2.Paired.mapP hP fun _ _ q => q.mono (rem_mono (e62.trans e7t))) (.cons ⟨t, D2, rfl, st_of (by rw [rem_ne ntF]; exact upd_same), sq_of (by rw [rem_ne nD2F]; exact et _ _ hD7')⟩ .nil)
            · rw [List.all_append, hok]
              show (true && (okB n (ks, 1 + nm % 9) && true)) = true
              have h9 := Int.emod_nonneg nm (show (9 : Int) ≠ 0 by decide)
              have : okB n (ks, 1 + nm % 9) = true := by
                unfold okB
                rw [decide_eq_true (show 1 ≤ 1 + nm % 9 by omega), List.isPerm_iff.mpr hks]
                rfl
              rw [this]
              rfl
      · rintro σ' H' ⟨y5, y6, y7, y8, xs, bs, rfl, e, hF, hP, hok, hlen⟩
        rw [iv_length] at hlen
        exact ⟨y5, y6, y7, y8, xs, bs, rfl, e, hF, L2.Paired.mapP hP fun _ _ q => q.mono rem_ex, hok, by omega⟩
    rintro _ H5 ⟨y5, y6, y7, y8, xs, bs, rfl, e5, hF5, hP5, hok, hbl⟩
    have BR : BalsR K H5 (.ref F) bs := ⟨F, xs, rfl, sq_of hF5, hP5⟩
    have w9 := Int.emod_nonneg wh (show (9 : Int) ≠ 0 by decide)
    refine ⟨fun σ' H' => ∃ (al : V), σ' = [some (.ref a), some (.int wh), some (.ref c), some (.int n), some (.ref F), y5, y6, y7, y8, some al, none, none, none, none] ∧ Ex H5 H' ∧ BalsR K H' al [(List.range n, 1 + wh % 9)], ?_, ?_⟩
    · refine ⟨_, rfl, n, rfl, by omega, by omega, fun D hD => ?_⟩
      refine lc_vals (n := n) (walk_rg0 (n := n)) hD (by omega) (fun _ _ => trivial) (fun j => V.int (j : Int)) ?_ ?_
      · rintro j x Ha Ha' hj ea ⟨rfl, rfl⟩ Qc hq
        exact ⟨rfl, _, rfl, hq _ (Ex.refl _)⟩
      · intro H6 e6 hD6
        refine ⟨_, rfl, _, _, rfl, rfl, (by decide : (0 : Int) < 9), _, _, rfl, rfl, (by decide : 2 ≤ sizeLine), fun t nt => ⟨(by decide : 1 ≤ sizeLine), fun l nl => ?_⟩⟩
        have et := Ex.new (o := .tup [.ref D, .int (1 + wh % 9)]) nt
        have el := Ex.new (o := .lst [.ref t]) nl
        exact ⟨.ref l, rfl, e6.trans (et.trans el), l, _, rfl, sq_of upd_same, .cons ⟨t, D, rfl, st_of (el _ _ upd_same), sq_of ((et.trans el) _ _ hD6)⟩ .nil⟩
    rintro _ H6 ⟨al, rfl, e6, AR⟩
    have BR6 := BR.mono e6
    have okal : ([(List.range n, 1 + wh % 9)] : List (List Nat × Int)).all (okB n) = true := by
      show (okB n (List.range n, 1 + wh % 9) && true) = true
      unfold okB
      rw [decide_eq_true (show 1 ≤ 1 + wh % 9 by omega), List.isPerm_iff.mpr (List.Perm.refl _)]
      rfl
    have pkal : (([(List.range n, 1 + wh % 9)] : List (List Nat × Int)).all fun b => isPk b.1) = true := by
      show (isPk (List.range n) && true) = true
      rw [pk_few hn3 hn5]
      rfl
    refine ⟨fun σ' H' => σ' = [some (.ref a), some (.int wh), some (.ref c), some (.int n), some (.ref F), y5, y6, y7, y8, some al, none, none, none, none] ∧ Ex H6 H', ?_, ?_⟩
    · refine ⟨_, rfl, _, rfl, n, _, bs, rfl, by omega, by omega, BR6, hok, fun G1 t rs g1 TT => ⟨.ref t, n, cnt bs, rfl, by omega, by omega, TT.rd, anti_cnt n bs, fun G2 g2 => ⟨true, rfl, ?_⟩⟩⟩
      refine ⟨(by decide : 1 ≤ sizeLine), fun l1 n1 => ⟨(by decide : 2 ≤ sizeLine), fun l2 n2 => ⟨(by decide : 1 ≤ sizeLine), fun l3 n3 => ?_⟩⟩⟩
      have d1 := Ex.new (o := .lst [V.int 0]) n1
      have d2 := Ex.new (o := .tup [V.ref l1, V.int 1]) n2
      have d3 := Ex.new (o := .lst [V.ref l2]) n3
      refine ⟨1, _, [([0], 1)], rfl, by decide, by decide, ⟨l3, _, rfl, sq_of upd_same, .cons ⟨l2, l1, rfl, st_of (d3 _ _ upd_same), sq_of ((d2.trans d3) _ _ upd_same)⟩ .nil⟩, by decide, fun G3 t3 r3 g3 T3 => ⟨.ref t3, 1, _, rfl, by decide, by decide, T3.rd, anti_cnt 1 _, fun G4 g4 => ⟨true, rfl, ?_⟩⟩⟩
      exact ⟨rfl, g1.trans (g2.trans (d1.trans (d2.trans (d3.trans (g3.trans g4)))))⟩
    rintro _ H7 ⟨rfl, e7⟩
    refine ⟨fun σ' H' => σ' = [some (.ref a), some (.int wh), some (.ref c), some (.int n), some (.ref F), y5, y6, y7, y8, some al, none, none, none, none] ∧ Ex H7 H', ?_, ?_⟩
    · refine ⟨(by decide : 3 ≤ sizeLine), fun p1 np1 => ⟨_, rfl, (by decide : 3 ≤ sizeLine), fun p2 np2 => ⟨_, rfl, (by decide : 3 ≤ sizeLine), fun p3 np3 => ⟨(by decide : 3 ≤ sizeLine), fun p4 np4 => ?_⟩⟩⟩⟩
      have d1 := Ex.new (o := .lst [V.int 0, V.int 1, V.int 0]) np1
      have d2 := Ex.new (o := .lst [V.int (-1), V.int 0, V.int 2]) np2
      have d3 := Ex.new (o := .lst [V.int 0, V.int (-2), V.int 0]) np3
      have d4 := Ex.new (o := .lst [V.ref p1, V.ref p2, V.ref p3]) np4
      refine ⟨.ref p4, 3, litF [[0, 1, 0], [-1, 0, 2], [0, -2, 0]], rfl, by decide, by decide, tabR_lit (rs := [p1, p2, p3]) [[0, 1, 0], [-1, 0, 2], [0, -2, 0]] upd_same (by decide) (.cons (d4 _ _ (d3 _ _ (d2 _ _ upd_same))) (.cons (d4 _ _ (d3 _ _ upd_same)) (.cons (d4 _ _ upd_same) .nil))), antiL (by decide +kernel), fun G1 g1 => ⟨true, rfl, ?_⟩⟩
      have d14 := d1.trans (d2.trans (d3.trans d4))
      refine ⟨_, rfl, _, rfl, n, _, _, rfl, by omega, by omega, AR.mono (e7.trans (d14.trans g1)), okal, fun G2 t rs g2 TT => ⟨.ref t, n, _, rfl, by omega, by omega, TT.rd, anti_cnt n _, fun G3 g3 => ⟨true, rfl, ?_⟩⟩⟩
      exact ⟨rfl, d14.trans (g1.trans (g2.trans g3))⟩
    rintro _ H8 ⟨rfl, e8⟩
    have e68 := e7.trans e8
    have BR8 := BR6.mono e68
    have AR8 := AR.mono e68
    refine ⟨_, rfl, _, rfl, n, _, bs, rfl, by omega, by omega, BR8, hok, fun G1 t1 r1 g1 T1 => ?_⟩
    refine ⟨_, rfl, _, rfl, n, _, _, rfl, by omega, by omega, AR8.mono g1, okal, fun G2 t2 r2 g2 T2 => ?_⟩
    refine ⟨Nat.zero_le _, fun o no => ?_⟩
    generalize go : upd _ o _ = G3
    have g3 : Ex G2 G3 := by rw [← go]; exact Ex.new no
    have ko : G3 o = some (.lst []) := by rw [← go]; exact upd_same
    clear go
    refine ⟨1, _, [], rfl, by decide, by decide, ⟨o, [], rfl, sq_of ko, .nil⟩, by decide, fun G4 t4 r4 g4 T4 => ?_⟩
    refine ⟨_, rfl, _, rfl, n, _, _, rfl, by omega, by omega, AR8.mono (g1.trans (g2.trans (g3.trans g4))), okal, pkal, show (1 : Nat) ≤ 1000 by decide, fun G5 md g5 _ _ _ => ?_⟩
    refine ⟨(by decide : 4 ≤ sizeLine), fun L nL => ?_⟩
    generalize gL : upd _ L _ = G6
    have g6 : Ex G5 G6 := by rw [← gL]; exact Ex.new nL
    have kL : G6 L = some (.lst [.ref t1, .ref t2, .ref t4, .int (md : Int)]) := by rw [← gL]; exact upd_same
    clear gL
    have g16 := g2.trans (g3.trans (g4.trans (g5.trans g6)))
    have hds : DpAll K G6 [.ref t1, .ref t2, .ref t4, .int (md : Int)] [dTab n (cnt bs), dTab n (cnt [(List.range n, 1 + wh % 9)]), dTab 1 (cnt []), .int (md : Int)] :=
      .cons (T1.rd.mono g16).dp (.cons (T2.rd.mono (g3.trans (g4.trans (g5.trans g6)))).dp (.cons (T4.rd.mono (g5.trans g6)).dp (.cons (.int _) .nil)))
    refine ⟨_, rfl, _, rfl, n, _, bs, rfl, by omega, by omega, BR8.mono (g1.trans g16), hok, by omega, fun G7 g7 => ?_⟩
    refine ⟨_, rfl, _, rfl, n, _, _, rfl, by omega, by omega, AR8.mono (g1.trans (g16.trans g7)), okal, show (1 : Nat) ≤ 1000 by decide, fun G8 g8 => ?_⟩
    refine ⟨Nat.zero_le _, fun o2 no2 => ?_⟩
    generalize go2 : upd _ o2 _ = G9
    have g9 : Ex G8 G9 := by rw [← go2]; exact Ex.new no2
    have ko2 : G9 o2 = some (.lst []) := by rw [← go2]; exact upd_same
    clear go2
    refine ⟨3, _, [], rfl, by decide, by decide, ⟨o2, [], rfl, sq_of ko2, .nil⟩, by decide, by decide, fun G10 g10 => ?_⟩
    refine ⟨(by decide : 3 ≤ sizeLine), fun S nS => ?_⟩
    have gS := Ex.new (o := .lst [V.bl (bs.all fun b => isPk b.1), V.bl (([(List.range n, 1 + wh % 9)] : List (List Nat × Int)).all fun b => isPk b.1), V.bl (([] : List (List Nat × Int)).all fun b => isPk b.1)]) nS
    have g6S := g7.trans (g8.trans (g9.trans (g10.trans gS)))
    refine ⟨_, rfl, .ref L, _, rfl, .lst (sq_of (g6S _ _ kL)) (dpAll_mono g6S hds), .inr ⟨_, .inl rfl, show (4 : Nat) ≤ 1000 by decide, fun e he => ?_⟩, fun G11 g11 => ⟨true, rfl, ?_⟩⟩
    · rcases List.mem_cons.mp he with rfl | he
      · exact pl_tab (by omega) _
      · rcases List.mem_cons.mp he with rfl | he
        · exact pl_tab (by omega) _
        · rcases List.mem_cons.mp he with rfl | he
          · exact pl_tab (by decide) _
          · have : e = .int (md : Int) := by simpa using he
            rw [this]
            exact .inl ⟨_, rfl⟩
    · exact ⟨_, rfl, S, [bs.all fun b => isPk b.1, ([(List.range n, 1 + wh % 9)] : List (List Nat × Int)).all fun b => isPk b.1, ([] : List (List Nat × Int)).all fun b => isPk b.1], rfl, sq_of (g11 _ _ upd_same), show (3 : Nat) ≤ 1000 by decide, fun G12 g12 => q _⟩
end
end Hc
namespace Hc
open PySem PySem.Spec PyProof.Rows L2 Evl
theorem tx_of {K : PySem.W.Frag} {h : Heap} {mg : Str → Option Value} (X : K.In h) (G : h.Ns mainGlobals mg)
    {c_Answer : Addr} {c_Ballots : Addr} {c_Uneven : Addr} {c_Unbeaten : Addr} {c_Ring : Addr} {f1 : Addr} {od1 an1 : Option Addr} {sl1 : Array (Option Value)} {oc1 kV1 dc1 pm1 cd1 ct1 : Value} {f2 : Addr} {od2 an2 : Option Addr} {sl2 : Array (Option Value)} {oc2 kV2 dc2 pm2 cd2 ct2 : Value} {f3 : Addr} {od3 an3 : Option Addr} {sl3 : Array (Option Value)} {oc3 kV3 dc3 pm3 cd3 ct3 : Value} {f4 : Addr} {od4 an4 : Option Addr} {sl4 : Array (Option Value)} {oc4 kV4 dc4 pm4 cd4 ct4 : Value} {f5 : Addr} {od5 an5 : Option Addr} {sl5 : Array (Option Value)} {oc5 kV5 dc5 pm5 cd5 ct5 : Value} {f6 : Addr} {od6 an6 : Option Addr} {sl6 : Array (Option Value)} {oc6 kV6 dc6 pm6 cd6 ct6 : Value} {f7 : Addr} {od7 an7 : Option Addr} {sl7 : Array (Option Value)} {oc7 kV7 dc7 pm7 cd7 ct7 : Value} {f8 : Addr} {od8 an8 : Option Addr} {sl8 : Array (Option Value)} {oc8 kV8 dc8 pm8 cd8 ct8 : Value} {f9 : Addr} {od9 an9 : Option Addr} {sl9 : Array (Option Value)} {oc9 kV9 dc9 pm9 cd9 ct9 : Value} {f10 : Addr} {od10 an10 : Option Addr} {sl10 : Array (Option Value)} {oc10 kV10 dc10 pm10 cd10 ct10 : Value} {f11 : Addr} {od11 an11 : Option Addr} {sl11 : Array (Option Value)} {oc11 kV11 dc11 pm11 cd11 ct11 : Value} {f12 : Addr} {od12 an12 : Option Addr} {sl12 : Array (Option Value)} {oc12 kV12 dc12 pm12 cd12 ct12 : Value} {f13 : Addr} {od13 an13 : Option Addr} {sl13 : Array (Option Value)} {oc13 kV13 dc13 pm13 cd13 ct13 : Value} {f14 : Addr} {od14 an14 : Option Addr} {sl14 : Array (Option Value)} {oc14 kV14 dc14 pm14 cd14 ct14 : Value} {f15 : Addr} {od15 an15 : Option Addr} {sl15 : Array (Option Value)} {oc15 kV15 dc15 pm15 cd15 ct15 : Value} {f16 : Addr} {od16 an16 : Option Addr} {sl16 : Array (Option Value)} {oc16 kV16 dc16 pm16 cd16 ct16 : Value} {f17 : Addr} {od17 an17 : Option Addr} {sl17 : Array (Option Value)} {oc17 kV17 dc17 pm17 cd17 ct17 : Value} {f18 : Addr} {od18 an18 : Option Addr} {sl18 : Array (Option Value)} {oc18 kV18 dc18 pm18 cd18 ct18 : Value} {f19 : Addr} {od19 an19 : Option Addr} {sl19 : Array (Option Value)} {oc19 kV19 dc19 pm19 cd19 ct19 : Value} {f20 : Addr} {od20 an20 : Option Addr} {sl20 : Array (Option Value)} {oc20 kV20 dc20 pm20 cd20 ct20 : Value} {f21 : Addr} {od21 an21 : Option Addr} {sl21 : Array (Option Value)} {oc21 kV21 dc21 pm21 cd21 ct21 : Value} {f22 : Addr} {od22 an22 : Option Addr} {sl22 : Array (Option Value)} {oc22 kV22 dc22 pm22 cd22 ct22 : Value} {f23 : Addr} {od23 an23 : Option Addr} {sl23 : Array (Option Value)} {oc23 kV23 dc23 pm23 cd23 ct23 : Value} {f24 : Addr} {od24 an24 : Option Addr} {sl24 : Array (Option Value)} {oc24 kV24 dc24 pm24 cd24 ct24 : Value} {f25 : Addr} {od25 an25 : Option Addr} {sl25 : Array (Option Value)} {oc25 kV25 dc25 pm25 cd25 ct25 : Value} {f26 : Addr} {od26 an26 : Option Addr} {sl26 : Array (Option Value)} {oc26 kV26 dc26 pm26 cd26 ct26 : Value} {f27 : Addr} {od27 an27 : Option Addr} {sl27 : Array (Option Value)} {oc27 kV27 dc27 pm27 cd27 ct27 : Value} {f28 : Addr} {od28 an28 : Option Addr} {sl28 : Array (Option Value)} {oc28 kV28 dc28 pm28 cd28 ct28 : Value} {f29 : Addr} {od29 an29 : Option Addr} {sl29 : Array (Option Value)} {oc29 kV29 dc29 pm29 cd29 ct29 : Value} {f30 : Addr} {od30 an30 : Option Addr} {sl30 : Array (Option Value)} {oc30 kV30 dc30 pm30 cd30 ct30 : Value} {f31 : Addr} {od31 an31 : Option Addr} {sl31 : Array (Option Value)} {oc31 kV31 dc31 pm31 cd31 ct31 : Value} {f32 : Addr} {od32 an32 : Option Addr} {sl32 : Array (Option Value)} {oc32 kV32 dc32 pm32 cd32 ct32 : Value} {f33 : Addr} {od33 an33 : Option Addr} {sl33 : Array (Option Value)} {oc33 kV33 dc33 pm33 cd33 ct33 : Value} {f34 : Addr} {od34 an34 : Option Addr} {sl34 : Array (Option Value)} {oc34 kV34 dc34 pm34 cd34 ct34 : Value} {f35 : Addr} {od35 an35 : Option Addr} {sl35 : Array (Option Value)} {oc35 kV35 dc35 pm35 cd35 ct35 : Value} {t_MOST : Nat} {c_CountError : Addr} {c_BadCandidates : Addr} {c_BadBallots : Addr} {c_BadTable : Addr} {c_NotPeaked : Addr}
    (q_Answer : PySem.W.nsIn K mainGlobals "Answer" = some (some (.ref c_Answer)))
    (q_Ballots : PySem.W.nsIn K mainGlobals "Ballots" = some (some (.ref c_Ballots)))
    (q_Uneven : PySem.W.nsIn K mainGlobals "Uneven" = some (some (.ref c_Uneven)))
    (q_Unbeaten : PySem.W.nsIn K mainGlobals "Unbeaten" = some (some (.ref c_Unbeaten)))
    (q_Ring : PySem.W.nsIn K mainGlobals "Ring" = some (some (.ref c_Ring)))
    (a1 : PySem.W.nsIn K mainGlobals "is_number" = some (some (.ref f1)))
    (l1 : K.lookup f1 = some ⟨oc1, od1, .func (PySem.W.fnOf "is_number" "is_number" (defArgs s_is_number) (defBody s_is_number) (defScope s_is_number) .none kV1 dc1 pm1 an1 cd1 ct1), sl1⟩)
    (e1 : PySem.W.codeIn K cd1 "is_number" = true)
    (k1 : PySem.W.keepIn K (.ref f1) = true)
    (a2 : PySem.W.nsIn K mainGlobals "asked_candidates" = some (some (.ref f2)))
    (l2 : K.lookup f2 = some ⟨oc2, od2, .func (PySem.W.fnOf "asked_candidates" "asked_candidates" (defArgs s_asked_candidates) (defBody s_asked_candidates) (defScope s_asked_candidates) .none kV2 dc2 pm2 an2 cd2 ct2), sl2⟩)
    (e2 : PySem.W.codeIn K cd2 "asked_candidates" = true)
    (k2 : PySem.W.keepIn K (.ref f2) = true)
    (a3 : PySem.W.nsIn K mainGlobals "are_ballots" = some (some (.ref f3)))
    (l3 : K.lookup f3 = some ⟨oc3, od3, .func (PySem.W.fnOf "are_ballots" "are_ballots" (defArgs s_are_ballots) (defBody s_are_ballots) (defScope s_are_ballots) .none kV3 dc3 pm3 an3 cd3 ct3), sl3⟩)
    (e3 : PySem.W.codeIn K cd3 "are_ballots" = true)
    (k3 : PySem.W.keepIn K (.ref f3) = true)
    (a4 : PySem.W.nsIn K mainGlobals "asked_ballots" = some (some (.ref f4)))
    (l4 : K.lookup f4 = some ⟨oc4, od4, .func (PySem.W.fnOf "asked_ballots" "asked_ballots" (defArgs s_asked_ballots) (defBody s_asked_ballots) (defScope s_asked_ballots) .none kV4 dc4 pm4 an4 cd4 ct4), sl4⟩)
    (e4 : PySem.W.codeIn K cd4 "asked_ballots" = true)
    (k4 : PySem.W.keepIn K (.ref f4) = true)
    (a5 : PySem.W.nsIn K mainGlobals "asked_table" = some (some (.ref f5)))
    (l5 : K.lookup f5 = some ⟨oc5, od5, .func (PySem.W.fnOf "asked_table" "asked_table" (defArgs s_asked_table) (defBody s_asked_table) (defScope s_asked_table) .none kV5 dc5 pm5 an5 cd5 ct5), sl5⟩)
    (e5 : PySem.W.codeIn K cd5 "asked_table" = true)
    (k5 : PySem.W.keepIn K (.ref f5) = true)
    (a6 : PySem.W.nsIn K mainGlobals "count_of" = some (some (.ref f6)))
    (l6 : K.lookup f6 = some ⟨oc6, od6, .func (PySem.W.fnOf "count_of" "count_of" (defArgs s_count_of) (defBody s_count_of) (defScope s_count_of) .none kV6 dc6 pm6 an6 cd6 ct6), sl6⟩)
    (e6 : PySem.W.codeIn K cd6 "count_of" = true)
    (k6 : PySem.W.keepIn K (.ref f6) = true)
    (a7 : PySem.W.nsIn K mainGlobals "counted" = some (some (.ref f7)))
    (l7 : K.lookup f7 = some ⟨oc7, od7, .func (PySem.W.fnOf "counted" "counted" (defArgs s_counted) (defBody s_counted) (defScope s_counted) .none kV7 dc7 pm7 an7 cd7 ct7), sl7⟩)
    (e7 : PySem.W.codeIn K cd7 "counted" = true)
    (k7 : PySem.W.keepIn K (.ref f7) = true)
    (a8 : PySem.W.nsIn K mainGlobals "is_pair" = some (some (.ref f8)))
    (l8 : K.lookup f8 = some ⟨oc8, od8, .func (PySem.W.fnOf "is_pair" "is_pair" (defArgs s_is_pair) (defBody s_is_pair) (defScope s_is_pair) .none kV8 dc8 pm8 an8 cd8 ct8), sl8⟩)
    (e8 : PySem.W.codeIn K cd8 "is_pair" = true)
    (k8 : PySem.W.keepIn K (.ref f8) = true)
    (a9 : PySem.W.findIn K (.ref c_Ballots) "__init__" = some (some (.ref f9)))
    (i9 : PySem.W.isFn K (.ref f9) = true)
    (l9 : K.lookup f9 = some ⟨oc9, od9, .func (PySem.W.fnOf "__init__" "Ballots.__init__" (defArgs s_Ballots__init) (defBody s_Ballots__init) (defScope s_Ballots__init) .none kV9 dc9 pm9 an9 cd9 ct9), sl9⟩)
    (e9 : PySem.W.codeIn K cd9 "Ballots.__init__" = true)
    (k9 : PySem.W.keepIn K (.ref f9) = true)
    (a10 : PySem.W.findIn K (.ref c_Ballots) "shows" = some (some (.ref f10)))
    (i10 : PySem.W.isFn K (.ref f10) = true)
    (l10 : K.lookup f10 = some ⟨oc10, od10, .func (PySem.W.fnOf "shows" "Ballots.shows" (defArgs s_Ballots_shows) (defBody s_Ballots_shows) (defScope s_Ballots_shows) .none kV10 dc10 pm10 an10 cd10 ct10), sl10⟩)
    (e10 : PySem.W.codeIn K cd10 "Ballots.shows" = true)
    (k10 : PySem.W.keepIn K (.ref f10) = true)
    (a11 : PySem.W.findIn K (.ref c_Uneven) "__init__" = some (some (.ref f11)))
    (i11 : PySem.W.isFn K (.ref f11) = true)
    (l11 : K.lookup f11 = some ⟨oc11, od11, .func (PySem.W.fnOf "__init__" "Uneven.__init__" (defArgs s_Uneven__init) (defBody s_Uneven__init) (defScope s_Uneven__init) .none kV11 dc11 pm11 an11 cd11 ct11), sl11⟩)
    (e11 : PySem.W.codeIn K cd11 "Uneven.__init__" = true)
    (k11 : PySem.W.keepIn K (.ref f11) = true)
    (a12 : PySem.W.findIn K (.ref c_Uneven) "shows" = some (some (.ref f12)))
    (i12 : PySem.W.isFn K (.ref f12) = true)
    (l12 : K.lookup f12 = some ⟨oc12, od12, .func (PySem.W.fnOf "shows" "Uneven.shows" (defArgs s_Uneven_shows) (defBody s_Uneven_shows) (defScope s_Uneven_shows) .none kV12 dc12 pm12 an12 cd12 ct12), sl12⟩)
    (e12 : PySem.W.codeIn K cd12 "Uneven.shows" = true)
    (k12 : PySem.W.keepIn K (.ref f12) = true)
    (a13 : PySem.W.findIn K (.ref c_Unbeaten) "__init__" = some (some (.ref f13)))
    (i13 : PySem.W.isFn K (.ref f13) = true)
    (l13 : K.lookup f13 = some ⟨oc13, od13, .func (PySem.W.fnOf "__init__" "Unbeaten.__init__" (defArgs s_Unbeaten__init) (defBody s_Unbeaten__init) (defScope s_Unbeaten__init) .none kV13 dc13 pm13 an13 cd13 ct13), sl13⟩)
    (e13 : PySem.W.codeIn K cd13 "Unbeaten.__init__" = true)
    (k13 : PySem.W.keepIn K (.ref f13) = true)
    (a14 : PySem.W.findIn K (.ref c_Unbeaten) "shows" = some (some (.ref f14)))
    (i14 : PySem.W.isFn K (.ref f14) = true)
    (l14 : K.lookup f14 = some ⟨oc14, od14, .func (PySem.W.fnOf "shows" "Unbeaten.shows" (defArgs s_Unbeaten_shows) (defBody s_Unbeaten_shows) (defScope s_Unbeaten_shows) .none kV14 dc14 pm14 an14 cd14 ct14), sl14⟩)
    (e14 : PySem.W.codeIn K cd14 "Unbeaten.shows" = true)
    (k14 : PySem.W.keepIn K (.ref f14) = true)
    (a15 : PySem.W.findIn K (.ref c_Ring) "__init__" = some (some (.ref f15)))
    (i15 : PySem.W.isFn K (.ref f15) = true)
    (l15 : K.lookup f15 = some ⟨oc15, od15, .func (PySem.W.fnOf "__init__" "Ring.__init__" (defArgs s_Ring__init) (defBody s_Ring__init) (defScope s_Ring__init) .none kV15 dc15 pm15 an15 cd15 ct15), sl15⟩)
    (e15 : PySem.W.codeIn K cd15 "Ring.__init__" = true)
    (k15 : PySem.W.keepIn K (.ref f15) = true)
    (a16 : PySem.W.findIn K (.ref c_Ring) "shows" = some (some (.ref f16)))
    (i16 : PySem.W.isFn K (.ref f16) = true)
    (l16 : K.lookup f16 = some ⟨oc16, od16, .func (PySem.W.fnOf "shows" "Ring.shows" (defArgs s_Ring_shows) (defBody s_Ring_shows) (defScope s_Ring_shows) .none kV16 dc16 pm16 an16 cd16 ct16), sl16⟩)
    (e16 : PySem.W.codeIn K cd16 "Ring.shows" = true)
    (k16 : PySem.W.keepIn K (.ref f16) = true)
    (a17 : PySem.W.nsIn K mainGlobals "two_ballots" = some (some (.ref f17)))
    (l17 : K.lookup f17 = some ⟨oc17, od17, .func (PySem.W.fnOf "two_ballots" "two_ballots" (defArgs s_two_ballots) (defBody s_two_ballots) (defScope s_two_ballots) .none kV17 dc17 pm17 an17 cd17 ct17), sl17⟩)
    (e17 : PySem.W.codeIn K cd17 "two_ballots" = true)
    (k17 : PySem.W.keepIn K (.ref f17) = true)
    (a18 : PySem.W.nsIn K mainGlobals "told" = some (some (.ref f18)))
    (l18 : K.lookup f18 = some ⟨oc18, od18, .func (PySem.W.fnOf "told" "told" (defArgs s_told) (defBody s_told) (defScope s_told) .none kV18 dc18 pm18 an18 cd18 ct18), sl18⟩)
    (e18 : PySem.W.codeIn K cd18 "told" = true)
    (k18 : PySem.W.keepIn K (.ref f18) = true)
    (a19 : PySem.W.nsIn K mainGlobals "is_peaked" = some (some (.ref f19)))
    (l19 : K.lookup f19 = some ⟨oc19, od19, .func (PySem.W.fnOf "is_peaked" "is_peaked" (defArgs s_is_peaked) (defBody s_is_peaked) (defScope s_is_peaked) .none kV19 dc19 pm19 an19 cd19 ct19), sl19⟩)
    (e19 : PySem.W.codeIn K cd19 "is_peaked" = true)
    (k19 : PySem.W.keepIn K (.ref f19) = true)
    (a20 : PySem.W.nsIn K mainGlobals "peaked" = some (some (.ref f20)))
    (l20 : K.lookup f20 = some ⟨oc20, od20, .func (PySem.W.fnOf "peaked" "peaked" (defArgs s_peaked) (defBody s_peaked) (defScope s_peaked) .none kV20 dc20 pm20 an20 cd20 ct20), sl20⟩)
    (e20 : PySem.W.codeIn K cd20 "peaked" = true)
    (k20 : PySem.W.keepIn K (.ref f20) = true)
    (a21 : PySem.W.nsIn K mainGlobals "middle" = some (some (.ref f21)))
    (l21 : K.lookup f21 = some ⟨oc21, od21, .func (PySem.W.fnOf "middle" "middle" (defArgs s_middle) (defBody s_middle) (defScope s_middle) .none kV21 dc21 pm21 an21 cd21 ct21), sl21⟩)
    (e21 : PySem.W.codeIn K cd21 "middle" = true)
    (k21 : PySem.W.keepIn K (.ref f21) = true)
    (a22 : PySem.W.nsIn K mainGlobals "foremost" = some (some (.ref f22)))
    (l22 : K.lookup f22 = some ⟨oc22, od22, .func (PySem.W.fnOf "foremost" "foremost" (defArgs s_foremost) (defBody s_foremost) (defScope s_foremost) .none kV22 dc22 pm22 an22 cd22 ct22), sl22⟩)
    (e22 : PySem.W.codeIn K cd22 "foremost" = true)
    (k22 : PySem.W.keepIn K (.ref f22) = true)
    (a23 : PySem.W.nsIn K mainGlobals "tops" = some (some (.ref f23)))
    (l23 : K.lookup f23 = some ⟨oc23, od23, .func (PySem.W.fnOf "tops" "tops" (defArgs s_tops) (defBody s_tops) (defScope s_tops) .none kV23 dc23 pm23 an23 cd23 ct23), sl23⟩)
    (e23 : PySem.W.codeIn K cd23 "tops" = true)
    (k23 : PySem.W.keepIn K (.ref f23) = true)
    (a24 : PySem.W.nsIn K mainGlobals "widest" = some (some (.ref f24)))
    (l24 : K.lookup f24 = some ⟨oc24, od24, .func (PySem.W.fnOf "widest" "widest" (defArgs s_widest) (defBody s_widest) (defScope s_widest) .none kV24 dc24 pm24 an24 cd24 ct24), sl24⟩)
    (e24 : PySem.W.codeIn K cd24 "widest" = true)
    (k24 : PySem.W.keepIn K (.ref f24) = true)
    (a25 : PySem.W.nsIn K mainGlobals "strengths" = some (some (.ref f25)))
    (l25 : K.lookup f25 = some ⟨oc25, od25, .func (PySem.W.fnOf "strengths" "strengths" (defArgs s_strengths) (defBody s_strengths) (defScope s_strengths) .none kV25 dc25 pm25 an25 cd25 ct25), sl25⟩)
    (e25 : PySem.W.codeIn K cd25 "strengths" = true)
    (k25 : PySem.W.keepIn K (.ref f25) = true)
    (a26 : PySem.W.nsIn K mainGlobals "order" = some (some (.ref f26)))
    (l26 : K.lookup f26 = some ⟨oc26, od26, .func (PySem.W.fnOf "order" "order" (defArgs s_order) (defBody s_order) (defScope s_order) .none kV26 dc26 pm26 an26 cd26 ct26), sl26⟩)
    (e26 : PySem.W.codeIn K cd26 "order" = true)
    (k26 : PySem.W.keepIn K (.ref f26) = true)
    (a27 : PySem.W.nsIn K mainGlobals "_law_number" = some (some (.ref f27)))
    (l27 : K.lookup f27 = some ⟨oc27, od27, .func (PySem.W.fnOf "_law_number" "_law_number" (defArgs s_law_number) (defBody s_law_number) (defScope s_law_number) .none kV27 dc27 pm27 an27 cd27 ct27), sl27⟩)
    (e27 : PySem.W.codeIn K cd27 "_law_number" = true)
    (k27 : PySem.W.keepIn K (.ref f27) = true)
    (a28 : PySem.W.nsIn K mainGlobals "_law_plain" = some (some (.ref f28)))
    (l28 : K.lookup f28 = some ⟨oc28, od28, .func (PySem.W.fnOf "_law_plain" "_law_plain" (defArgs s_law_plain) (defBody s_law_plain) (defScope s_law_plain) .none kV28 dc28 pm28 an28 cd28 ct28), sl28⟩)
    (e28 : PySem.W.codeIn K cd28 "_law_plain" = true)
    (k28 : PySem.W.keepIn K (.ref f28) = true)
    (a29 : PySem.W.nsIn K mainGlobals "_law_truths" = some (some (.ref f29)))
    (l29 : K.lookup f29 = some ⟨oc29, od29, .func (PySem.W.fnOf "_law_truths" "_law_truths" (defArgs s_law_truths) (defBody s_law_truths) (defScope s_law_truths) .none kV29 dc29 pm29 an29 cd29 ct29), sl29⟩)
    (e29 : PySem.W.codeIn K cd29 "_law_truths" = true)
    (k29 : PySem.W.keepIn K (.ref f29) = true)
    (a30 : PySem.W.nsIn K mainGlobals "_law_table_right" = some (some (.ref f30)))
    (l30 : K.lookup f30 = some ⟨oc30, od30, .func (PySem.W.fnOf "_law_table_right" "_law_table_right" (defArgs s_law_table_right) (defBody s_law_table_right) (defScope s_law_table_right) .none kV30 dc30 pm30 an30 cd30 ct30), sl30⟩)
    (e30 : PySem.W.codeIn K cd30 "_law_table_right" = true)
    (k30 : PySem.W.keepIn K (.ref f30) = true)
    (a31 : PySem.W.nsIn K mainGlobals "_law_is_not_peaked" = some (some (.ref f31)))
    (l31 : K.lookup f31 = some ⟨oc31, od31, .func (PySem.W.fnOf "_law_is_not_peaked" "_law_is_not_peaked" (defArgs s_law_is_not_peaked) (defBody s_law_is_not_peaked) (defScope s_law_is_not_peaked) .none kV31 dc31 pm31 an31 cd31 ct31), sl31⟩)
    (e31 : PySem.W.codeIn K cd31 "_law_is_not_peaked" = true)
    (k31 : PySem.W.keepIn K (.ref f31) = true)
    (a32 : PySem.W.nsIn K mainGlobals "_law_rings_promises" = some (some (.ref f32)))
    (l32 : K.lookup f32 = some ⟨oc32, od32, .func (PySem.W.fnOf "_law_rings_promises" "_law_rings_promises" (defArgs s_law_rings_promises) (defBody s_law_rings_promises) (defScope s_law_rings_promises) .none kV32 dc32 pm32 an32 cd32 ct32), sl32⟩)
    (e32 : PySem.W.codeIn K cd32 "_law_rings_promises" = true)
    (k32 : PySem.W.keepIn K (.ref f32) = true)
    (a33 : PySem.W.nsIn K mainGlobals "_law_chains_promises" = some (some (.ref f33)))
    (l33 : K.lookup f33 = some ⟨oc33, od33, .func (PySem.W.fnOf "_law_chains_promises" "_law_chains_promises" (defArgs s_law_chains_promises) (defBody s_law_chains_promises) (defScope s_law_chains_promises) .none kV33 dc33 pm33 an33 cd33 ct33), sl33⟩)
    (e33 : PySem.W.codeIn K cd33 "_law_chains_promises" = true)
    (k33 : PySem.W.keepIn K (.ref f33) = true)
    (a34 : PySem.W.nsIn K mainGlobals "_law_promises_right" = some (some (.ref f34)))
    (l34 : K.lookup f34 = some ⟨oc34, od34, .func (PySem.W.fnOf "_law_promises_right" "_law_promises_right" (defArgs s_law_promises_right) (defBody s_law_promises_right) (defScope s_law_promises_right) .none kV34 dc34 pm34 an34 cd34 ct34), sl34⟩)
    (e34 : PySem.W.codeIn K cd34 "_law_promises_right" = true)
    (k34 : PySem.W.keepIn K (.ref f34) = true)
    (a35 : PySem.W.nsIn K mainGlobals "law" = some (some (.ref f35)))
    (l35 : K.lookup f35 = some ⟨oc35, od35, .func (PySem.W.fnOf "law" "law" (defArgs s_law) (defBody s_law) (defScope s_law) .none kV35 dc35 pm35 an35 cd35 ct35), sl35⟩)
    (e35 : PySem.W.codeIn K cd35 "law" = true)
    (k35 : PySem.W.keepIn K (.ref f35) = true)
    (qhn : PySem.W.specialIn K (.builtin "object.__class__") "__get__" = some (some (.builtin "getset_descriptor.__get__")))
    (qht : PySem.W.takesIn K (.builtin "object.__class__") = some true)
    (pg_Ballots : PySem.W.plainGet K c_Ballots Str.empty = true)
    (hd_Ballots : PySem.W.hasDictIn K c_Ballots = true)
    (po_Ballots : PySem.W.plainOver K c_Ballots = true)
    (sa_Ballots : PySem.W.findIn K (.ref c_Ballots) "__setattr__" = some (some (.builtin "object.__setattr__")))
    (ha_Ballots : PySem.W.findIn K (.ref c_Ballots) "__class__" = some (some (.builtin "object.__class__")))
    (hm_Ballots : PySem.W.mroIn K c_Ballots (.type "object") = some true)
    (mk_Ballots : PySem.W.makesIn K c_Ballots = true)
    (kc_Ballots : PySem.W.keepIn K (.ref c_Ballots) = true)
    (n_Ballots_ballots : PySem.W.findIn K (.ref c_Ballots) "ballots" = some none)
    (k_Ballots_Answer : PySem.W.kitOne K (.ref c_Ballots) (.ref c_Answer) = some true)
    (k_Ballots_Ballots : PySem.W.kitOne K (.ref c_Ballots) (.ref c_Ballots) = some true)
    (k_Ballots_Uneven : PySem.W.kitOne K (.ref c_Ballots) (.ref c_Uneven) = some false)
    (k_Ballots_Unbeaten : PySem.W.kitOne K (.ref c_Ballots) (.ref c_Unbeaten) = some false)
    (k_Ballots_Ring : PySem.W.kitOne K (.ref c_Ballots) (.ref c_Ring) = some false)
    (pg_Uneven : PySem.W.plainGet K c_Uneven Str.empty = true)
    (hd_Uneven : PySem.W.hasDictIn K c_Uneven = true)
    (po_Uneven : PySem.W.plainOver K c_Uneven = true)
    (sa_Uneven : PySem.W.findIn K (.ref c_Uneven) "__setattr__" = some (some (.builtin "object.__setattr__")))
    (ha_Uneven : PySem.W.findIn K (.ref c_Uneven) "__class__" = some (some (.builtin "object.__class__")))
    (hm_Uneven : PySem.W.mroIn K c_Uneven (.type "object") = some true)
    (mk_Uneven : PySem.W.makesIn K c_Uneven = true)
    (kc_Uneven : PySem.W.keepIn K (.ref c_Uneven) = true)
    (n_Uneven_one : PySem.W.findIn K (.ref c_Uneven) "one" = some none)
    (n_Uneven_other : PySem.W.findIn K (.ref c_Uneven) "other" = some none)
    (k_Uneven_Answer : PySem.W.kitOne K (.ref c_Uneven) (.ref c_Answer) = some true)
    (k_Uneven_Ballots : PySem.W.kitOne K (.ref c_Uneven) (.ref c_Ballots) = some false)
    (k_Uneven_Uneven : PySem.W.kitOne K (.ref c_Uneven) (.ref c_Uneven) = some true)
    (k_Uneven_Unbeaten : PySem.W.kitOne K (.ref c_Uneven) (.ref c_Unbeaten) = some false)
    (k_Uneven_Ring : PySem.W.kitOne K (.ref c_Uneven) (.ref c_Ring) = some false)
    (pg_Unbeaten : PySem.W.plainGet K c_Unbeaten Str.empty = true)
    (hd_Unbeaten : PySem.W.hasDictIn K c_Unbeaten = true)
    (po_Unbeaten : PySem.W.plainOver K c_Unbeaten = true)
    (sa_Unbeaten : PySem.W.findIn K (.ref c_Unbeaten) "__setattr__" = some (some (.builtin "object.__setattr__")))
    (ha_Unbeaten : PySem.W.findIn K (.ref c_Unbeaten) "__class__" = some (some (.builtin "object.__class__")))
    (hm_Unbeaten : PySem.W.mroIn K c_Unbeaten (.type "object") = some true)
    (mk_Unbeaten : PySem.W.makesIn K c_Unbeaten = true)
    (kc_Unbeaten : PySem.W.keepIn K (.ref c_Unbeaten) = true)
    (n_Unbeaten_who : PySem.W.findIn K (.ref c_Unbeaten) "who" = some none)
    (k_Unbeaten_Answer : PySem.W.kitOne K (.ref c_Unbeaten) (.ref c_Answer) = some true)
    (k_Unbeaten_Ballots : PySem.W.kitOne K (.ref c_Unbeaten) (.ref c_Ballots) = some false)
    (k_Unbeaten_Uneven : PySem.W.kitOne K (.ref c_Unbeaten) (.ref c_Uneven) = some false)
    (k_Unbeaten_Unbeaten : PySem.W.kitOne K (.ref c_Unbeaten) (.ref c_Unbeaten) = some true)
    (k_Unbeaten_Ring : PySem.W.kitOne K (.ref c_Unbeaten) (.ref c_Ring) = some false)
    (pg_Ring : PySem.W.plainGet K c_Ring Str.empty = true)
    (hd_Ring : PySem.W.hasDictIn K c_Ring = true)
    (po_Ring : PySem.W.plainOver K c_Ring = true)
    (sa_Ring : PySem.W.findIn K (.ref c_Ring) "__setattr__" = some (some (.builtin "object.__setattr__")))
    (ha_Ring : PySem.W.findIn K (.ref c_Ring) "__class__" = some (some (.builtin "object.__class__")))
    (hm_Ring : PySem.W.mroIn K c_Ring (.type "object") = some true)
    (mk_Ring : PySem.W.makesIn K c_Ring = true)
    (kc_Ring : PySem.W.keepIn K (.ref c_Ring) = true)
    (n_Ring_way : PySem.W.findIn K (.ref c_Ring) "way" = some none)
    (k_Ring_Answer : PySem.W.kitOne K (.ref c_Ring) (.ref c_Answer) = some true)
    (k_Ring_Ballots : PySem.W.kitOne K (.ref c_Ring) (.ref c_Ballots) = some false)
    (k_Ring_Uneven : PySem.W.kitOne K (.ref c_Ring) (.ref c_Uneven) = some false)
    (k_Ring_Unbeaten : PySem.W.kitOne K (.ref c_Ring) (.ref c_Unbeaten) = some false)
    (k_Ring_Ring : PySem.W.kitOne K (.ref c_Ring) (.ref c_Ring) = some true)
    (a_MOST : PySem.W.nsIn K mainGlobals "MOST" = some (some (.int 20 t_MOST)))
    (z_abs : PySem.W.nsIn K mainGlobals "abs" = some none)
    (z_all : PySem.W.nsIn K mainGlobals "all" = some none)
    (z_any : PySem.W.nsIn K mainGlobals "any" = some none)
    (z_bool : PySem.W.nsIn K mainGlobals "bool" = some none)
    (z_enumerate : PySem.W.nsIn K mainGlobals "enumerate" = some none)
    (z_int : PySem.W.nsIn K mainGlobals "int" = some none)
    (z_isinstance : PySem.W.nsIn K mainGlobals "isinstance" = some none)
    (z_len : PySem.W.nsIn K mainGlobals "len" = some none)
    (z_list : PySem.W.nsIn K mainGlobals "list" = some none)
    (z_max : PySem.W.nsIn K mainGlobals "max" = some none)
    (z_min : PySem.W.nsIn K mainGlobals "min" = some none)
    (z_range : PySem.W.nsIn K mainGlobals "range" = some none)
    (z_set : PySem.W.nsIn K mainGlobals "set" = some none)
    (z_sorted : PySem.W.nsIn K mainGlobals "sorted" = some none)
    (z_str : PySem.W.nsIn K mainGlobals "str" = some none)
    (z_sum : PySem.W.nsIn K mainGlobals "sum" = some none)
    (z_tuple : PySem.W.nsIn K mainGlobals "tuple" = some none)
    (q_CountError : PySem.W.nsIn K mainGlobals "CountError" = some (some (.ref c_CountError)))
    (xc_CountError : PySem.W.excIn K c_CountError upVE "ValueError.__new__" = true)
    (kp_CountError : PySem.W.keepIn K (.ref c_CountError) = true)
    (hd_CountError : PySem.W.hasDictIn K c_CountError = true)
    (sb_CountError : PySem.W.subIn K (.ref c_CountError) (.type "BaseException") = some true)
    (ty_CountError : PySem.W.typeIn K (.ref c_CountError) = some (.type "type"))
    (q_BadCandidates : PySem.W.nsIn K mainGlobals "BadCandidates" = some (some (.ref c_BadCandidates)))
    (xc_BadCandidates : PySem.W.excIn K c_BadCandidates upVE "ValueError.__new__" = true)
    (kp_BadCandidates : PySem.W.keepIn K (.ref c_BadCandidates) = true)
    (hd_BadCandidates : PySem.W.hasDictIn K c_BadCandidates = true)
    (sb_BadCandidates : PySem.W.subIn K (.ref c_BadCandidates) (.type "BaseException") = some true)
    (ty_BadCandidates : PySem.W.typeIn K (.ref c_BadCandidates) = some (.type "type"))
    (q_BadBallots : PySem.W.nsIn K mainGlobals "BadBallots" = some (some (.ref c_BadBallots)))
    (xc_BadBallots : PySem.W.excIn K c_BadBallots upVE "ValueError.__new__" = true)
    (kp_BadBallots : PySem.W.keepIn K (.ref c_BadBallots) = true)
    (hd_BadBallots : PySem.W.hasDictIn K c_BadBallots = true)
    (sb_BadBallots : PySem.W.subIn K (.ref c_BadBallots) (.type "BaseException") = some true)
    (ty_BadBallots : PySem.W.typeIn K (.ref c_BadBallots) = some (.type "type"))
    (q_BadTable : PySem.W.nsIn K mainGlobals "BadTable" = some (some (.ref c_BadTable)))
    (xc_BadTable : PySem.W.excIn K c_BadTable upVE "ValueError.__new__" = true)
    (kp_BadTable : PySem.W.keepIn K (.ref c_BadTable) = true)
    (hd_BadTable : PySem.W.hasDictIn K c_BadTable = true)
    (sb_BadTable : PySem.W.subIn K (.ref c_BadTable) (.type "BaseException") = some true)
    (ty_BadTable : PySem.W.typeIn K (.ref c_BadTable) = some (.type "type"))
    (q_NotPeaked : PySem.W.nsIn K mainGlobals "NotPeaked" = some (some (.ref c_NotPeaked)))
    (xc_NotPeaked : PySem.W.excIn K c_NotPeaked upVE "ValueError.__new__" = true)
    (kp_NotPeaked : PySem.W.keepIn K (.ref c_NotPeaked) = true)
    (hd_NotPeaked : PySem.W.hasDictIn K c_NotPeaked = true)
    (sb_NotPeaked : PySem.W.subIn K (.ref c_NotPeaked) (.type "BaseException") = some true)
    (ty_NotPeaked : PySem.W.typeIn K (.ref c_NotPeaked) = some (.type "type"))
    (ga_NotPeaked : PySem.W.findIn K (.ref c_NotPeaked) "__getattribute__" = some (some (.builtin "BaseException.__getattribute__")))
    (gt_NotPeaked : PySem.W.findIn K (.ref c_NotPeaked) "__getattr__" = some none)
    (cl_NotPeaked : PySem.W.findIn K (.ref c_NotPeaked) "__class__" = some (some (.builtin "object.__class__")))
    (mo_NotPeaked : PySem.W.mroIn K c_NotPeaked (.type "object") = some true)
    (u_NotPeaked_CountError : PySem.W.subIn K (.ref c_NotPeaked) (.ref c_CountError) = some true)
    (k_NotPeaked_NotPeaked : PySem.W.kitOne K (.ref c_NotPeaked) (.ref c_NotPeaked) = some true)
    (k_NotPeaked_BadBallots : PySem.W.kitOne K (.ref c_NotPeaked) (.ref c_BadBallots) = some false)
    (k_NotPeaked_BadCandidates : PySem.W.kitOne K (.ref c_NotPeaked) (.ref c_BadCandidates) = some false)
    (k_NotPeaked_BadTable : PySem.W.kitOne K (.ref c_NotPeaked) (.ref c_BadTable) = some false) :
    ∃ T : Tx K mg, T.d_law = PySem.W.fnOf "law" "law" (defArgs s_law) (defBody s_law) (defScope s_law) .none kV35 dc35 pm35 an35 cd35 ct35 :=
  ⟨{ c_Answer := c_Answer,
      g_Answer := PySem.W.mg_of X G q_Answer,
      c_Ballots := c_Ballots,
      g_Ballots := PySem.W.mg_of X G q_Ballots,
      c_Uneven := c_Uneven,
      g_Uneven := PySem.W.mg_of X G q_Uneven,
      c_Unbeaten := c_Unbeaten,
      g_Unbeaten := PySem.W.mg_of X G q_Unbeaten,
      c_Ring := c_Ring,
      g_Ring := PySem.W.mg_of X G q_Ring,
      f_is_number := f1,
      d_is_number := _,
      F_is_number := fun_mk (st := s_is_number) l1 e1 k1,
      g_is_number := PySem.W.mg_of X G a1,
      f_asked_candidates := f2,
      d_asked_candidates := _,
      F_asked_candidates := fun_mk (st := s_asked_candidates) l2 e2 k2,
      g_asked_candidates := PySem.W.mg_of X G a2,
      f_are_ballots := f3,
      d_are_ballots := _,
      F_are_ballots := fun_mk (st := s_are_ballots) l3 e3 k3,
      g_are_ballots := PySem.W.mg_of X G a3,
      f_asked_ballots := f4,
      d_asked_ballots := _,
      F_asked_ballots := fun_mk (st := s_asked_ballots) l4 e4 k4,
      g_asked_ballots := PySem.W.mg_of X G a4,
      f_asked_table := f5,
      d_asked_table := _,
      F_asked_table := fun_mk (st := s_asked_table) l5 e5 k5,
      g_asked_table := PySem.W.mg_of X G a5,
      f_count_of := f6,
      d_count_of := _,
      F_count_of := fun_mk (st := s_count_of) l6 e6 k6,
      g_count_of := PySem.W.mg_of X G a6,
      f_counted := f7,
      d_counted := _,
      F_counted := fun_mk (st := s_counted) l7 e7 k7,
      g_counted := PySem.W.mg_of X G a7,
      f_is_pair := f8,
      d_is_pair := _,
      F_is_pair := fun_mk (st := s_is_pair) l8 e8 k8,
      g_is_pair := PySem.W.mg_of X G a8,
      f_Ballots__init := f9,
      d_Ballots__init := _,
      F_Ballots__init := fun_mk (st := s_Ballots__init) l9 e9 k9,
      f_Ballots_shows := f10,
      d_Ballots_shows := _,
      F_Ballots_shows := fun_mk (st := s_Ballots_shows) l10 e10 k10,
      f_Uneven__init := f11,
      d_Uneven__init := _,
      F_Uneven__init := fun_mk (st := s_Uneven__init) l11 e11 k11,
      f_Uneven_shows := f12,
      d_Uneven_shows := _,
      F_Uneven_shows := fun_mk (st := s_Uneven_shows) l12 e12 k12,
      f_Unbeaten__init := f13,
      d_Unbeaten__init := _,
      F_Unbeaten__init := fun_mk (st := s_Unbeaten__init) l13 e13 k13,
      f_Unbeaten_shows := f14,
      d_Unbeaten_shows := _,
      F_Unbeaten_shows := fun_mk (st := s_Unbeaten_shows) l14 e14 k14,
      f_Ring__init := f15,
      d_Ring__init := _,
      F_Ring__init := fun_mk (st := s_Ring__init) l15 e15 k15,
      f_Ring_shows := f16,
      d_Ring_shows := _,
      F_Ring_shows := fun_mk (st := s_Ring_shows) l16 e16 k16,
      f_two_ballots := f17,
      d_two_ballots := _,
      F_two_ballots := fun_mk (st := s_two_ballots) l17 e17 k17,
      g_two_ballots := PySem.W.mg_of X G a17,
      f_told := f18,
      d_told := _,
      F_told := fun_mk (st := s_told) l18 e18 k18,
      g_told := PySem.W.mg_of X G a18,
      f_is_peaked := f19,
      d_is_peaked := _,
      F_is_peaked := fun_mk (st := s_is_peaked) l19 e19 k19,
      g_is_peaked := PySem.W.mg_of X G a19,
      f_peaked := f20,
      d_peaked := _,
      F_peaked := fun_mk (st := s_peaked) l20 e20 k20,
      g_peaked := PySem.W.mg_of X G a20,
      f_middle := f21,
      d_middle := _,
      F_middle := fun_mk (st := s_middle) l21 e21 k21,
      g_middle := PySem.W.mg_of X G a21,
      f_foremost := f22,
      d_foremost := _,
      F_foremost := fun_mk (st := s_foremost) l22 e22 k22,
      g_foremost := PySem.W.mg_of X G a22,
      f_tops := f23,
      d_tops := _,
      F_tops := fun_mk (st := s_tops) l23 e23 k23,
      g_tops := PySem.W.mg_of X G a23,
      f_widest := f24,
      d_widest := _,
      F_widest := fun_mk (st := s_widest) l24 e24 k24,
      g_widest := PySem.W.mg_of X G a24,
      f_strengths := f25,
      d_strengths := _,
      F_strengths := fun_mk (st := s_strengths) l25 e25 k25,
      g_strengths := PySem.W.mg_of X G a25,
      f_order := f26,
      d_order := _,
      F_order := fun_mk (st := s_order) l26 e26 k26,
      g_order := PySem.W.mg_of X G a26,
      f_law_number := f27,
      d_law_number := _,
      F_law_number := fun_mk (st := s_law_number) l27 e27 k27,
      g_law_number := PySem.W.mg_of X G a27,
      f_law_plain := f28,
      d_law_plain := _,
      F_law_plain := fun_mk (st := s_law_plain) l28 e28 k28,
      g_law_plain := PySem.W.mg_of X G a28,
      f_law_truths := f29,
      d_law_truths := _,
      F_law_truths := fun_mk (st := s_law_truths) l29 e29 k29,
      g_law_truths := PySem.W.mg_of X G a29,
      f_law_table_right := f30,
      d_law_table_right := _,
      F_law_table_right := fun_mk (st := s_law_table_right) l30 e30 k30,
      g_law_table_right := PySem.W.mg_of X G a30,
      f_law_is_not_peaked := f31,
      d_law_is_not_peaked := _,
      F_law_is_not_peaked := fun_mk (st := s_law_is_not_peaked) l31 e31 k31,
      g_law_is_not_peaked := PySem.W.mg_of X G a31,
      f_law_rings_promises := f32,
      d_law_rings_promises := _,
      F_law_rings_promises := fun_mk (st := s_law_rings_promises) l32 e32 k32,
      g_law_rings_promises := PySem.W.mg_of X G a32,
      f_law_chains_promises := f33,
      d_law_chains_promises := _,
      F_law_chains_promises := fun_mk (st := s_law_chains_promises) l33 e33 k33,
      g_law_chains_promises := PySem.W.mg_of X G a33,
      f_law_promises_right := f34,
      d_law_promises_right := _,
      F_law_promises_right := fun_mk (st := s_law_promises_right) l34 e34 k34,
      g_law_promises_right := PySem.W.mg_of X G a34,
      f_law := f35,
      d_law := _,
      F_law := fun_mk (st := s_law) l35 e35 k35,
      g_law := PySem.W.mg_of X G a35,
      C_Ballots := ⟨pg_Ballots, hd_Ballots, po_Ballots, sa_Ballots⟩,
      y_Ballots := fun _ _ _ _ e => .base (.ins e ⟨pg_Ballots, hd_Ballots, po_Ballots, sa_Ballots⟩ ha_Ballots qhn qht hm_Ballots),
      M_Ballots := ⟨mk_Ballots, a9, i9, kc_Ballots⟩,
      S_Ballots := ⟨a10, i10, k10⟩,
      a_Ballots_ballots := n_Ballots_ballots,
      k_Ballots_Answer := k_Ballots_Answer,
      k_Ballots_Ballots := k_Ballots_Ballots,
      k_Ballots_Uneven := k_Ballots_Uneven,
      k_Ballots_Unbeaten := k_Ballots_Unbeaten,
      k_Ballots_Ring := k_Ballots_Ring,
      C_Uneven := ⟨pg_Uneven, hd_Uneven, po_Uneven, sa_Uneven⟩,
      y_Uneven := fun _ _ _ _ e => .base (.ins e ⟨pg_Uneven, hd_Uneven, po_Uneven, sa_Uneven⟩ ha_Uneven qhn qht hm_Uneven),
      M_Uneven := ⟨mk_Uneven, a11, i11, kc_Uneven⟩,
      S_Uneven := ⟨a12, i12, k12⟩,
      a_Uneven_one := n_Uneven_one,
      a_Uneven_other := n_Uneven_other,
      k_Uneven_Answer := k_Uneven_Answer,
      k_Uneven_Ballots := k_Uneven_Ballots,
      k_Uneven_Uneven := k_Uneven_Uneven,
      k_Uneven_Unbeaten := k_Uneven_Unbeaten,
      k_Uneven_Ring := k_Uneven_Ring,
      C_Unbeaten := ⟨pg_Unbeaten, hd_Unbeaten, po_Unbeaten, sa_Unbeaten⟩,
      y_Unbeaten := fun _ _ _ _ e => .base (.ins e ⟨pg_Unbeaten, hd_Unbeaten, po_Unbeaten, sa_Unbeaten⟩ ha_Unbeaten qhn qht hm_Unbeaten),
      M_Unbeaten := ⟨mk_Unbeaten, a13, i13, kc_Unbeaten⟩,
      S_Unbeaten := ⟨a14, i14, k14⟩,
      a_Unbeaten_who := n_Unbeaten_who,
      k_Unbeaten_Answer := k_Unbeaten_Answer,
      k_Unbeaten_Ballots := k_Unbeaten_Ballots,
      k_Unbeaten_Uneven := k_Unbeaten_Uneven,
      k_Unbeaten_Unbeaten := k_Unbeaten_Unbeaten,
      k_Unbeaten_Ring := k_Unbeaten_Ring,
      C_Ring := ⟨pg_Ring, hd_Ring, po_Ring, sa_Ring⟩,
      y_Ring := fun _ _ _ _ e => .base (.ins e ⟨pg_Ring, hd_Ring, po_Ring, sa_Ring⟩ ha_Ring qhn qht hm_Ring),
      M_Ring := ⟨mk_Ring, a15, i15, kc_Ring⟩,
      S_Ring := ⟨a16, i16, k16⟩,
      a_Ring_way := n_Ring_way,
      k_Ring_Answer := k_Ring_Answer,
      k_Ring_Ballots := k_Ring_Ballots,
      k_Ring_Uneven := k_Ring_Uneven,
      k_Ring_Unbeaten := k_Ring_Unbeaten,
      k_Ring_Ring := k_Ring_Ring,
      g_MOST := ⟨t_MOST, PySem.W.mg_of X G a_MOST⟩,
      n_abs := PySem.W.mg_none_of X G z_abs,
      n_all := PySem.W.mg_none_of X G z_all,
      n_any := PySem.W.mg_none_of X G z_any,
      n_bool := PySem.W.mg_none_of X G z_bool,
      n_enumerate := PySem.W.mg_none_of X G z_enumerate,
      n_int := PySem.W.mg_none_of X G z_int,
      n_isinstance := PySem.W.mg_none_of X G z_isinstance,
      n_len := PySem.W.mg_none_of X G z_len,
      n_list := PySem.W.mg_none_of X G z_list,
      n_max := PySem.W.mg_none_of X G z_max,
      n_min := PySem.W.mg_none_of X G z_min,
      n_range := PySem.W.mg_none_of X G z_range,
      n_set := PySem.W.mg_none_of X G z_set,
      n_sorted := PySem.W.mg_none_of X G z_sorted,
      n_str := PySem.W.mg_none_of X G z_str,
      n_sum := PySem.W.mg_none_of X G z_sum,
      n_tuple := PySem.W.mg_none_of X G z_tuple,
      c_CountError := c_CountError,
      e_CountError := ⟨PySem.W.mg_of X G q_CountError, xc_CountError, kp_CountError, hd_CountError, sb_CountError, ty_CountError⟩,
      c_BadCandidates := c_BadCandidates,
      e_BadCandidates := ⟨PySem.W.mg_of X G q_BadCandidates, xc_BadCandidates, kp_BadCandidates, hd_BadCandidates, sb_BadCandidates, ty_BadCandidates⟩,
      c_BadBallots := c_BadBallots,
      e_BadBallots := ⟨PySem.W.mg_of X G q_BadBallots, xc_BadBallots, kp_BadBallots, hd_BadBallots, sb_BadBallots, ty_BadBallots⟩,
      c_BadTable := c_BadTable,
      e_BadTable := ⟨PySem.W.mg_of X G q_BadTable, xc_BadTable, kp_BadTable, hd_BadTable, sb_BadTable, ty_BadTable⟩,
      c_NotPeaked := c_NotPeaked,
      e_NotPeaked := ⟨PySem.W.mg_of X G q_NotPeaked, xc_NotPeaked, kp_NotPeaked, hd_NotPeaked, sb_NotPeaked, ty_NotPeaked⟩,
      x_NotPeaked := ⟨ga_NotPeaked, gt_NotPeaked, sb_NotPeaked, hd_NotPeaked, cl_NotPeaked, qhn, qht, mo_NotPeaked⟩,
      u_NotPeaked_CountError := u_NotPeaked_CountError,
      k_NotPeaked_NotPeaked := k_NotPeaked_NotPeaked,
      k_NotPeaked_BadBallots := k_NotPeaked_BadBallots,
      k_NotPeaked_BadCandidates := k_NotPeaked_BadCandidates,
      k_NotPeaked_BadTable := k_NotPeaked_BadTable }, rfl⟩
theorem law_of {l : PySem.W.OpenLaw} {w : World} {K : PySem.W.Frag} {mg : Str → Option Value} {fa : Addr} (hfa : mg "law" = some (.ref fa)) {kV dc pm cd ct : Value} {an : Option Addr} (hT : ∃ T : Tx K mg, T.d_law = PySem.W.fnOf "law" "law" (defArgs s_law) (defBody s_law) (defScope s_law) .none kV dc pm an cd ct) :
    ∃ fd : FuncData, (∀ (s : Shared) (v : Value), BindsTo s fd ⟨[v], []⟩ [("_law_script", v)]) ∧ ∀ base : Heap, K.In base → base.Ns mainGlobals mg → FnOk l.prog w K mg base CX0 9 fa fd ["_law_script"] (spLaw K) := by
  obtain ⟨T, e⟩ := hT
  have e2 := hfa.symm.trans T.g_law
  cases e2
  exact ⟨T.d_law, fun s v => by rw [e]; exact .of_eq rfl, fun base _ _ => ok_law T⟩
theorem all_of {l : PySem.W.OpenLaw} {w : World} {K : PySem.W.Frag} {h : Heap} {mg : Str → Option Value} {fa : Addr} (X : K.In h) (G : h.Ns mainGlobals mg) (hfa : mg "law" = some (.ref fa))
    {c_Answer : Addr} {c_Ballots : Addr} {c_Uneven : Addr} {c_Unbeaten : Addr} {c_Ring : Addr} {f1 : Addr} {od1 an1 : Option Addr} {sl1 : Array (Option Value)} {oc1 kV1 dc1 pm1 cd1 ct1 : Value} {f2 : Addr} {od2 an2 : Option Addr} {sl2 : Array (Option Value)} {oc2 kV2 dc2 pm2 cd2 ct2 : Value} {f3 : Addr} {od3 an3 : Option Addr} {sl3 : Array (Option Value)} {oc3 kV3 dc3 pm3 cd3 ct3 : Value} {f4 : Addr} {od4 an4 : Option Addr} {sl4 : Array (Option Value)} {oc4 kV4 dc4 pm4 cd4 ct4 : Value} {f5 : Addr} {od5 an5 : Option Addr} {sl5 : Array (Option Value)} {oc5 kV5 dc5 pm5 cd5 ct5 : Value} {f6 : Addr} {od6 an6 : Option Addr} {sl6 : Array (Option Value)} {oc6 kV6 dc6 pm6 cd6 ct6 : Value} {f7 : Addr} {od7 an7 : Option Addr} {sl7 : Array (Option Value)} {oc7 kV7 dc7 pm7 cd7 ct7 : Value} {f8 : Addr} {od8 an8 : Option Addr} {sl8 : Array (Option Value)} {oc8 kV8 dc8 pm8 cd8 ct8 : Value} {f9 : Addr} {od9 an9 : Option Addr} {sl9 : Array (Option Value)} {oc9 kV9 dc9 pm9 cd9 ct9 : Value} {f10 : Addr} {od10 an10 : Option Addr} {sl10 : Array (Option Value)} {oc10 kV10 dc10 pm10 cd10 ct10 : Value} {f11 : Addr} {od11 an11 : Option Addr} {sl11 : Array (Option Value)} {oc11 kV11 dc11 pm11 cd11 ct11 : Value} {f12 : Addr} {od12 an12 : Option Addr} {sl12 : Array (Option Value)} {oc12 kV12 dc12 pm12 cd12 ct12 : Value} {f13 : Addr} {od13 an13 : Option Addr} {sl13 : Array (Option Value)} {oc13 kV13 dc13 pm13 cd13 ct13 : Value} {f14 : Addr} {od14 an14 : Option Addr} {sl14 : Array (Option Value)} {oc14 kV14 dc14 pm14 cd14 ct14 : Value} {f15 : Addr} {od15 an15 : Option Addr} {sl15 : Array (Option Value)} {oc15 kV15 dc15 pm15 cd15 ct15 : Value} {f16 : Addr} {od16 an16 : Option Addr} {sl16 : Array (Option Value)} {oc16 kV16 dc16 pm16 cd16 ct16 : Value} {f17 : Addr} {od17 an17 : Option Addr} {sl17 : Array (Option Value)} {oc17 kV17 dc17 pm17 cd17 ct17 : Value} {f18 : Addr} {od18 an18 : Option Addr} {sl18 : Array (Option Value)} {oc18 kV18 dc18 pm18 cd18 ct18 : Value} {f19 : Addr} {od19 an19 : Option Addr} {sl19 : Array (Option Value)} {oc19 kV19 dc19 pm19 cd19 ct19 : Value} {f20 : Addr} {od20 an20 : Option Addr} {sl20 : Array (Option Value)} {oc20 kV20 dc20 pm20 cd20 ct20 : Value} {f21 : Addr} {od21 an21 : Option Addr} {sl21 : Array (Option Value)} {oc21 kV21 dc21 pm21 cd21 ct21 : Value} {f22 : Addr} {od22 an22 : Option Addr} {sl22 : Array (Option Value)} {oc22 kV22 dc22 pm22 cd22 ct22 : Value} {f23 : Addr} {od23 an23 : Option Addr} {sl23 : Array (Option Value)} {oc23 kV23 dc23 pm23 cd23 ct23 : Value} {f24 : Addr} {od24 an24 : Option Addr} {sl24 : Array (Option Value)} {oc24 kV24 dc24 pm24 cd24 ct24 : Value} {f25 : Addr} {od25 an25 : Option Addr} {sl25 : Array (Option Value)} {oc25 kV25 dc25 pm25 cd25 ct25 : Value} {f26 : Addr} {od26 an26 : Option Addr} {sl26 : Array (Option Value)} {oc26 kV26 dc26 pm26 cd26 ct26 : Value} {f27 : Addr} {od27 an27 : Option Addr} {sl27 : Array (Option Value)} {oc27 kV27 dc27 pm27 cd27 ct27 : Value} {f28 : Addr} {od28 an28 : Option Addr} {sl28 : Array (Option Value)} {oc28 kV28 dc28 pm28 cd28 ct28 : Value} {f29 : Addr} {od29 an29 : Option Addr} {sl29 : Array (Option Value)} {oc29 kV29 dc29 pm29 cd29 ct29 : Value} {f30 : Addr} {od30 an30 : Option Addr} {sl30 : Array (Option Value)} {oc30 kV30 dc30 pm30 cd30 ct30 : Value} {f31 : Addr} {od31 an31 : Option Addr} {sl31 : Array (Option Value)} {oc31 kV31 dc31 pm31 cd31 ct31 : Value} {f32 : Addr} {od32 an32 : Option Addr} {sl32 : Array (Option Value)} {oc32 kV32 dc32 pm32 cd32 ct32 : Value} {f33 : Addr} {od33 an33 : Option Addr} {sl33 : Array (Option Value)} {oc33 kV33 dc33 pm33 cd33 ct33 : Value} {f34 : Addr} {od34 an34 : Option Addr} {sl34 : Array (Option Value)} {oc34 kV34 dc34 pm34 cd34 ct34 : Value} {f35 : Addr} {od35 an35 : Option Addr} {sl35 : Array (Option Value)} {oc35 kV35 dc35 pm35 cd35 ct35 : Value} {t_MOST : Nat} {c_CountError : Addr} {c_BadCandidates : Addr} {c_BadBallots : Addr} {c_BadTable : Addr} {c_NotPeaked : Addr}
    (q_Answer : PySem.W.nsIn K mainGlobals "Answer" = some (some (.ref c_Answer)))
    (q_Ballots : PySem.W.nsIn K mainGlobals "Ballots" = some (some (.ref c_Ballots)))
    (q_Uneven : PySem.W.nsIn K mainGlobals "Uneven" = some (some (.ref c_Uneven)))
    (q_Unbeaten : PySem.W.nsIn K mainGlobals "Unbeaten" = some (some (.ref c_Unbeaten)))
    (q_Ring : PySem.W.nsIn K mainGlobals "Ring" = some (some (.ref c_Ring)))
    (a1 : PySem.W.nsIn K mainGlobals "is_number" = some (some (.ref f1)))
    (l1 : K.lookup f1 = some ⟨oc1, od1, .func (PySem.W.fnOf "is_number" "is_number" (defArgs s_is_number) (defBody s_is_number) (defScope s_is_number) .none kV1 dc1 pm1 an1 cd1 ct1), sl1⟩)
    (e1 : PySem.W.codeIn K cd1 "is_number" = true)
    (k1 : PySem.W.keepIn K (.ref f1) = true)
    (a2 : PySem.W.nsIn K mainGlobals "asked_candidates" = some (some (.ref f2)))
    (l2 : K.lookup f2 = some ⟨oc2, od2, .func (PySem.W.fnOf "asked_candidates" "asked_candidates" (defArgs s_asked_candidates) (defBody s_asked_candidates) (defScope s_asked_candidates) .none kV2 dc2 pm2 an2 cd2 ct2), sl2⟩)
    (e2 : PySem.W.codeIn K cd2 "asked_candidates" = true)
    (k2 : PySem.W.keepIn K (.ref f2) = true)
    (a3 : PySem.W.nsIn K mainGlobals "are_ballots" = some (some (.ref f3)))
    (l3 : K.lookup f3 = some ⟨oc3, od3, .func (PySem.W.fnOf "are_ballots" "are_ballots" (defArgs s_are_ballots) (defBody s_are_ballots) (defScope s_are_ballots) .none kV3 dc3 pm3 an3 cd3 ct3), sl3⟩)
    (e3 : PySem.W.codeIn K cd3 "are_ballots" = true)
    (k3 : PySem.W.keepIn K (.ref f3) = true)
    (a4 : PySem.W.nsIn K mainGlobals "asked_ballots" = some (some (.ref f4)))
    (l4 : K.lookup f4 = some ⟨oc4, od4, .func (PySem.W.fnOf "asked_ballots" "asked_ballots" (defArgs s_asked_ballots) (defBody s_asked_ballots) (defScope s_asked_ballots) .none kV4 dc4 pm4 an4 cd4 ct4), sl4⟩)
    (e4 : PySem.W.codeIn K cd4 "asked_ballots" = true)
    (k4 : PySem.W.keepIn K (.ref f4) = true)
    (a5 : PySem.W.nsIn K mainGlobals "asked_table" = some (some (.ref f5)))
    (l5 : K.lookup f5 = some ⟨oc5, od5, .func (PySem.W.fnOf "asked_table" "asked_table" (defArgs s_asked_table) (defBody s_asked_table) (defScope s_asked_table) .none kV5 dc5 pm5 an5 cd5 ct5), sl5⟩)
    (e5 : PySem.W.codeIn K cd5 "asked_table" = true)
    (k5 : PySem.W.keepIn K (.ref f5) = true)
    (a6 : PySem.W.nsIn K mainGlobals "count_of" = some (some (.ref f6)))
    (l6 : K.lookup f6 = some ⟨oc6, od6, .func (PySem.W.fnOf "count_of" "count_of" (defArgs s_count_of) (defBody s_count_of) (defScope s_count_of) .none kV6 dc6 pm6 an6 cd6 ct6), sl6⟩)
    (e6 : PySem.W.codeIn K cd6 "count_of" = true)
    (k6 : PySem.W.keepIn K (.ref f6) = true)
    (a7 : PySem.W.nsIn K mainGlobals "counted" = some (some (.ref f7)))
    (l7 : K.lookup f7 = some ⟨oc7, od7, .func (PySem.W.fnOf "counted" "counted" (defArgs s_counted) (defBody s_counted) (defScope s_counted) .none kV7 dc7 pm7 an7 cd7 ct7), sl7⟩)
    (e7 : PySem.W.codeIn K cd7 "counted" = true)
    (k7 : PySem.W.keepIn K (.ref f7) = true)
    (a8 : PySem.W.nsIn K mainGlobals "is_pair" = some (some (.ref f8)))
    (l8 : K.lookup f8 = some ⟨oc8, od8, .func (PySem.W.fnOf "is_pair" "is_pair" (defArgs s_is_pair) (defBody s_is_pair) (defScope s_is_pair) .none kV8 dc8 pm8 an8 cd8 ct8), sl8⟩)
    (e8 : PySem.W.codeIn K cd8 "is_pair" = true)
    (k8 : PySem.W.keepIn K (.ref f8) = true)
    (a9 : PySem.W.findIn K (.ref c_Ballots) "__init__" = some (some (.ref f9)))
    (i9 : PySem.W.isFn K (.ref f9) = true)
    (l9 : K.lookup f9 = some ⟨oc9, od9, .func (PySem.W.fnOf "__init__" "Ballots.__init__" (defArgs s_Ballots__init) (defBody s_Ballots__init) (defScope s_Ballots__init) .none kV9 dc9 pm9 an9 cd9 ct9), sl9⟩)
    (e9 : PySem.W.codeIn K cd9 "Ballots.__init__" = true)
    (k9 : PySem.W.keepIn K (.ref f9) = true)
    (a10 : PySem.W.findIn K (.ref c_Ballots) "shows" = some (some (.ref f10)))
    (i10 : PySem.W.isFn K (.ref f10) = true)
    (l10 : K.lookup f10 = some ⟨oc10, od10, .func (PySem.W.fnOf "shows" "Ballots.shows" (defArgs s_Ballots_shows) (defBody s_Ballots_shows) (defScope s_Ballots_shows) .none kV10 dc10 pm10 an10 cd10 ct10), sl10⟩)
    (e10 : PySem.W.codeIn K cd10 "Ballots.shows" = true)
    (k10 : PySem.W.keepIn K (.ref f10) = true)
    (a11 : PySem.W.findIn K (.ref c_Uneven) "__init__" = some (some (.ref f11)))
    (i11 : PySem.W.isFn K (.ref f11) = true)
    (l11 : K.lookup f11 = some ⟨oc11, od11, .func (PySem.W.fnOf "__init__" "Uneven.__init__" (defArgs s_Uneven__init) (defBody s_Uneven__init) (defScope s_Uneven__init) .none kV11 dc11 pm11 an11 cd11 ct11), sl11⟩)
    (e11 : PySem.W.codeIn K cd11 "Uneven.__init__" = true)
    (k11 : PySem.W.keepIn K (.ref f11) = true)
    (a12 : PySem.W.findIn K (.ref c_Uneven) "shows" = some (some (.ref f12)))
    (i12 : PySem.W.isFn K (.ref f12) = true)
    (l12 : K.lookup f12 = some ⟨oc12, od12, .func (PySem.W.fnOf "shows" "Uneven.shows" (defArgs s_Uneven_shows) (defBody s_Uneven_shows) (defScope s_Uneven_shows) .none kV12 dc12 pm12 an12 cd12 ct12), sl12⟩)
    (e12 : PySem.W.codeIn K cd12 "Uneven.shows" = true)
    (k12 : PySem.W.keepIn K (.ref f12) = true)
    (a13 : PySem.W.findIn K (.ref c_Unbeaten) "__init__" = some (some (.ref f13)))
    (i13 : PySem.W.isFn K (.ref f13) = true)
    (l13 : K.lookup f13 = some ⟨oc13, od13, .func (PySem.W.fnOf "__init__" "Unbeaten.__init__" (defArgs s_Unbeaten__init) (defBody s_Unbeaten__init) (defScope s_Unbeaten__init) .none kV13 dc13 pm13 an13 cd13 ct13), sl13⟩)
    (e13 : PySem.W.codeIn K cd13 "Unbeaten.__init__" = true)
    (k13 : PySem.W.keepIn K (.ref f13) = true)
    (a14 : PySem.W.findIn K (.ref c_Unbeaten) "shows" = some (some (.ref f14)))
    (i14 : PySem.W.isFn K (.ref f14) = true)
    (l14 : K.lookup f14 = some ⟨oc14, od14, .func (PySem.W.fnOf "shows" "Unbeaten.shows" (defArgs s_Unbeaten_shows) (defBody s_Unbeaten_shows) (defScope s_Unbeaten_shows) .none kV14 dc14 pm14 an14 cd14 ct14), sl14⟩)
    (e14 : PySem.W.codeIn K cd14 "Unbeaten.shows" = true)
    (k14 : PySem.W.keepIn K (.ref f14) = true)
    (a15 : PySem.W.findIn K (.ref c_Ring) "__init__" = some (some (.ref f15)))
    (i15 : PySem.W.isFn K (.ref f15) = true)
    (l15 : K.lookup f15 = some ⟨oc15, od15, .func (PySem.W.fnOf "__init__" "Ring.__init__" (defArgs s_Ring__init) (defBody s_Ring__init) (defScope s_Ring__init) .none kV15 dc15 pm15 an15 cd15 ct15), sl15⟩)
    (e15 : PySem.W.codeIn K cd15 "Ring.__init__" = true)
    (k15 : PySem.W.keepIn K (.ref f15) = true)
    (a16 : PySem.W.findIn K (.ref c_Ring) "shows" = some (some (.ref f16)))
    (i16 : PySem.W.isFn K (.ref f16) = true)
    (l16 : K.lookup f16 = some ⟨oc16, od16, .func (PySem.W.fnOf "shows" "Ring.shows" (defArgs s_Ring_shows) (defBody s_Ring_shows) (defScope s_Ring_shows) .none kV16 dc16 pm16 an16 cd16 ct16), sl16⟩)
    (e16 : PySem.W.codeIn K cd16 "Ring.shows" = true)
    (k16 : PySem.W.keepIn K (.ref f16) = true)
    (a17 : PySem.W.nsIn K mainGlobals "two_ballots" = some (some (.ref f17)))
    (l17 : K.lookup f17 = some ⟨oc17, od17, .func (PySem.W.fnOf "two_ballots" "two_ballots" (defArgs s_two_ballots) (defBody s_two_ballots) (defScope s_two_ballots) .none kV17 dc17 pm17 an17 cd17 ct17), sl17⟩)
    (e17 : PySem.W.codeIn K cd17 "two_ballots" = true)
    (k17 : PySem.W.keepIn K (.ref f17) = true)
    (a18 : PySem.W.nsIn K mainGlobals "told" = some (some (.ref f18)))
    (l18 : K.lookup f18 = some ⟨oc18, od18, .func (PySem.W.fnOf "told" "told" (defArgs s_told) (defBody s_told) (defScope s_told) .none kV18 dc18 pm18 an18 cd18 ct18), sl18⟩)
    (e18 : PySem.W.codeIn K cd18 "told" = true)
    (k18 : PySem.W.keepIn K (.ref f18) = true)
    (a19 : PySem.W.nsIn K mainGlobals "is_peaked" = some (some (.ref f19)))
    (l19 : K.lookup f19 = some ⟨oc19, od19, .func (PySem.W.fnOf "is_peaked" "is_peaked" (defArgs s_is_peaked) (defBody s_is_peaked) (defScope s_is_peaked) .none kV19 dc19 pm19 an19 cd19 ct19), sl19⟩)
    (e19 : PySem.W.codeIn K cd19 "is_peaked" = true)
    (k19 : PySem.W.keepIn K (.ref f19) = true)
    (a20 : PySem.W.nsIn K mainGlobals "peaked" = some (some (.ref f20)))
    (l20 : K.lookup f20 = some ⟨oc20, od20, .func (PySem.W.fnOf "peaked" "peaked" (defArgs s_peaked) (defBody s_peaked) (defScope s_peaked) .none kV20 dc20 pm20 an20 cd20 ct20), sl20⟩)
    (e20 : PySem.W.codeIn K cd20 "peaked" = true)
    (k20 : PySem.W.keepIn K (.ref f20) = true)
    (a21 : PySem.W.nsIn K mainGlobals "middle" = some (some (.ref f21)))
    (l21 : K.lookup f21 = some ⟨oc21, od21, .func (PySem.W.fnOf "middle" "middle" (defArgs s_middle) (defBody s_middle) (defScope s_middle) .none kV21 dc21 pm21 an21 cd21 ct21), sl21⟩)
    (e21 : PySem.W.codeIn K cd21 "middle" = true)
    (k21 : PySem.W.keepIn K (.ref f21) = true)
    (a22 : PySem.W.nsIn K mainGlobals "foremost" = some (some (.ref f22)))
    (l22 : K.lookup f22 = some ⟨oc22, od22, .func (PySem.W.fnOf "foremost" "foremost" (defArgs s_foremost) (defBody s_foremost) (defScope s_foremost) .none kV22 dc22 pm22 an22 cd22 ct22), sl22⟩)
    (e22 : PySem.W.codeIn K cd22 "foremost" = true)
    (k22 : PySem.W.keepIn K (.ref f22) = true)
    (a23 : PySem.W.nsIn K mainGlobals "tops" = some (some (.ref f23)))
    (l23 : K.lookup f23 = some ⟨oc23, od23, .func (PySem.W.fnOf "tops" "tops" (defArgs s_tops) (defBody s_tops) (defScope s_tops) .none kV23 dc23 pm23 an23 cd23 ct23), sl23⟩)
    (e23 : PySem.W.codeIn K cd23 "tops" = true)
    (k23 : PySem.W.keepIn K (.ref f23) = true)
    (a24 : PySem.W.nsIn K mainGlobals "widest" = some (some (.ref f24)))
    (l24 : K.lookup f24 = some ⟨oc24, od24, .func (PySem.W.fnOf "widest" "widest" (defArgs s_widest) (defBody s_widest) (defScope s_widest) .none kV24 dc24 pm24 an24 cd24 ct24), sl24⟩)
    (e24 : PySem.W.codeIn K cd24 "widest" = true)
    (k24 : PySem.W.keepIn K (.ref f24) = true)
    (a25 : PySem.W.nsIn K mainGlobals "strengths" = some (some (.ref f25)))
    (l25 : K.lookup f25 = some ⟨oc25, od25, .func (PySem.W.fnOf "strengths" "strengths" (defArgs s_strengths) (defBody s_strengths) (defScope s_strengths) .none kV25 dc25 pm25 an25 cd25 ct25), sl25⟩)
    (e25 : PySem.W.codeIn K cd25 "strengths" = true)
    (k25 : PySem.W.keepIn K (.ref f25) = true)
    (a26 : PySem.W.nsIn K mainGlobals "order" = some (some (.ref f26)))
    (l26 : K.lookup f26 = some ⟨oc26, od26, .func (PySem.W.fnOf "order" "order" (defArgs s_order) (defBody s_order) (defScope s_order) .none kV26 dc26 pm26 an26 cd26 ct26), sl26⟩)
    (e26 : PySem.W.codeIn K cd26 "order" = true)
    (k26 : PySem.W.keepIn K (.ref f26) = true)
    (a27 : PySem.W.nsIn K mainGlobals "_law_number" = some (some (.ref f27)))
    (l27 : K.lookup f27 = some ⟨oc27, od27, .func (PySem.W.fnOf "_law_number" "_law_number" (defArgs s_law_number) (defBody s_law_number) (defScope s_law_number) .none kV27 dc27 pm27 an27 cd27 ct27), sl27⟩)
    (e27 : PySem.W.codeIn K cd27 "_law_number" = true)
    (k27 : PySem.W.keepIn K (.ref f27) = true)
    (a28 : PySem.W.nsIn K mainGlobals "_law_plain" = some (some (.ref f28)))
    (l28 : K.lookup f28 = some ⟨oc28, od28, .func (PySem.W.fnOf "_law_plain" "_law_plain" (defArgs s_law_plain) (defBody s_law_plain) (defScope s_law_plain) .none kV28 dc28 pm28 an28 cd28 ct28), sl28⟩)
    (e28 : PySem.W.codeIn K cd28 "_law_plain" = true)
    (k28 : PySem.W.keepIn K (.ref f28) = true)
    (a29 : PySem.W.nsIn K mainGlobals "_law_truths" = some (some (.ref f29)))
    (l29 : K.lookup f29 = some ⟨oc29, od29, .func (PySem.W.fnOf "_law_truths" "_law_truths" (defArgs s_law_truths) (defBody s_law_truths) (defScope s_law_truths) .none kV29 dc29 pm29 an29 cd29 ct29), sl29⟩)
    (e29 : PySem.W.codeIn K cd29 "_law_truths" = true)
    (k29 : PySem.W.keepIn K (.ref f29) = true)
    (a30 : PySem.W.nsIn K mainGlobals "_law_table_right" = some (some (.ref f30)))
    (l30 : K.lookup f30 = some ⟨oc30, od30, .func (PySem.W.fnOf "_law_table_right" "_law_table_right" (defArgs s_law_table_right) (defBody s_law_table_right) (defScope s_law_table_right) .none kV30 dc30 pm30 an30 cd30 ct30), sl30⟩)
    (e30 : PySem.W.codeIn K cd30 "_law_table_right" = true)
    (k30 : PySem.W.keepIn K (.ref f30) = true)
    (a31 : PySem.W.nsIn K mainGlobals "_law_is_not_peaked" = some (some (.ref f31)))
    (l31 : K.lookup f31 = some ⟨oc31, od31, .func (PySem.W.fnOf "_law_is_not_peaked" "_law_is_not_peaked" (defArgs s_law_is_not_peaked) (defBody s_law_is_not_peaked) (defScope s_law_is_not_peaked) .none kV31 dc31 pm31 an31 cd31 ct31), sl31⟩)
    (e31 : PySem.W.codeIn K cd31 "_law_is_not_peaked" = true)
    (k31 : PySem.W.keepIn K (.ref f31) = true)
    (a32 : PySem.W.nsIn K mainGlobals "_law_rings_promises" = some (some (.ref f32)))
    (l32 : K.lookup f32 = some ⟨oc32, od32, .func (PySem.W.fnOf "_law_rings_promises" "_law_rings_promises" (defArgs s_law_rings_promises) (defBody s_law_rings_promises) (defScope s_law_rings_promises) .none kV32 dc32 pm32 an32 cd32 ct32), sl32⟩)
    (e32 : PySem.W.codeIn K cd32 "_law_rings_promises" = true)
    (k32 : PySem.W.keepIn K (.ref f32) = true)
    (a33 : PySem.W.nsIn K mainGlobals "_law_chains_promises" = some (some (.ref f33)))
    (l33 : K.lookup f33 = some ⟨oc33, od33, .func (PySem.W.fnOf "_law_chains_promises" "_law_chains_promises" (defArgs s_law_chains_promises) (defBody s_law_chains_promises) (defScope s_law_chains_promises) .none kV33 dc33 pm33 an33 cd33 ct33), sl33⟩)
    (e33 : PySem.W.codeIn K cd33 "_law_chains_promises" = true)
    (k33 : PySem.W.keepIn K (.ref f33) = true)
    (a34 : PySem.W.nsIn K mainGlobals "_law_promises_right" = some (some (.ref f34)))
    (l34 : K.lookup f34 = some ⟨oc34, od34, .func (PySem.W.fnOf "_law_promises_right" "_law_promises_right" (defArgs s_law_promises_right) (defBody s_law_promises_right) (defScope s_law_promises_right) .none kV34 dc34 pm34 an34 cd34 ct34), sl34⟩)
    (e34 : PySem.W.codeIn K cd34 "_law_promises_right" = true)
    (k34 : PySem.W.keepIn K (.ref f34) = true)
    (a35 : PySem.W.nsIn K mainGlobals "law" = some (some (.ref f35)))
    (l35 : K.lookup f35 = some ⟨oc35, od35, .func (PySem.W.fnOf "law" "law" (defArgs s_law) (defBody s_law) (defScope s_law) .none kV35 dc35 pm35 an35 cd35 ct35), sl35⟩)
    (e35 : PySem.W.codeIn K cd35 "law" = true)
    (k35 : PySem.W.keepIn K (.ref f35) = true)
    (qhn : PySem.W.specialIn K (.builtin "object.__class__") "__get__" = some (some (.builtin "getset_descriptor.__get__")))
    (qht : PySem.W.takesIn K (.builtin "object.__class__") = some true)
    (pg_Ballots : PySem.W.plainGet K c_Ballots Str.empty = true)
    (hd_Ballots : PySem.W.hasDictIn K c_Ballots = true)
    (po_Ballots : PySem.W.plainOver K c_Ballots = true)
    (sa_Ballots : PySem.W.findIn K (.ref c_Ballots) "__setattr__" = some (some (.builtin "object.__setattr__")))
    (ha_Ballots : PySem.W.findIn K (.ref c_Ballots) "__class__" = some (some (.builtin "object.__class__")))
    (hm_Ballots : PySem.W.mroIn K c_Ballots (.type "object") = some true)
    (mk_Ballots : PySem.W.makesIn K c_Ballots = true)
    (kc_Ballots : PySem.W.keepIn K (.ref c_Ballots) = true)
    (n_Ballots_ballots : PySem.W.findIn K (.ref c_Ballots) "ballots" = some none)
    (k_Ballots_Answer : PySem.W.kitOne K (.ref c_Ballots) (.ref c_Answer) = some true)
    (k_Ballots_Ballots : PySem.W.kitOne K (.ref c_Ballots) (.ref c_Ballots) = some true)
    (k_Ballots_Uneven : PySem.W.kitOne K (.ref c_Ballots) (.ref c_Uneven) = some false)
    (k_Ballots_Unbeaten : PySem.W.kitOne K (.ref c_Ballots) (.ref c_Unbeaten) = some false)
    (k_Ballots_Ring : PySem.W.kitOne K (.ref c_Ballots) (.ref c_Ring) = some false)
    (pg_Uneven : PySem.W.plainGet K c_Uneven Str.empty = true)
    (hd_Uneven : PySem.W.hasDictIn K c_Uneven = true)
    (po_Uneven : PySem.W.plainOver K c_Uneven = true)
    (sa_Uneven : PySem.W.findIn K (.ref c_Uneven) "__setattr__" = some (some (.builtin "object.__setattr__")))
    (ha_Uneven : PySem.W.findIn K (.ref c_Uneven) "__class__" = some (some (.builtin "object.__class__")))
    (hm_Uneven : PySem.W.mroIn K c_Uneven (.type "object") = some true)
    (mk_Uneven : PySem.W.makesIn K c_Uneven = true)
    (kc_Uneven : PySem.W.keepIn K (.ref c_Uneven) = true)
    (n_Uneven_one : PySem.W.findIn K (.ref c_Uneven) "one" = some none)
    (n_Uneven_other : PySem.W.findIn K (.ref c_Uneven) "other" = some none)
    (k_Uneven_Answer : PySem.W.kitOne K (.ref c_Uneven) (.ref c_Answer) = some true)
    (k_Uneven_Ballots : PySem.W.kitOne K (.ref c_Uneven) (.ref c_Ballots) = some false)
    (k_Uneven_Uneven : PySem.W.kitOne K (.ref c_Uneven) (.ref c_Uneven) = some true)
    (k_Uneven_Unbeaten : PySem.W.kitOne K (.ref c_Uneven) (.ref c_Unbeaten) = some false)
    (k_Uneven_Ring : PySem.W.kitOne K (.ref c_Uneven) (.ref c_Ring) = some false)
    (pg_Unbeaten : PySem.W.plainGet K c_Unbeaten Str.empty = true)
    (hd_Unbeaten : PySem.W.hasDictIn K c_Unbeaten = true)
    (po_Unbeaten : PySem.W.plainOver K c_Unbeaten = true)
    (sa_Unbeaten : PySem.W.findIn K (.ref c_Unbeaten) "__setattr__" = some (some (.builtin "object.__setattr__")))
    (ha_Unbeaten : PySem.W.findIn K (.ref c_Unbeaten) "__class__" = some (some (.builtin "object.__class__")))
    (hm_Unbeaten : PySem.W.mroIn K c_Unbeaten (.type "object") = some true)
    (mk_Unbeaten : PySem.W.makesIn K c_Unbeaten = true)
    (kc_Unbeaten : PySem.W.keepIn K (.ref c_Unbeaten) = true)
    (n_Unbeaten_who : PySem.W.findIn K (.ref c_Unbeaten) "who" = some none)
    (k_Unbeaten_Answer : PySem.W.kitOne K (.ref c_Unbeaten) (.ref c_Answer) = some true)
    (k_Unbeaten_Ballots : PySem.W.kitOne K (.ref c_Unbeaten) (.ref c_Ballots) = some false)
    (k_Unbeaten_Uneven : PySem.W.kitOne K (.ref c_Unbeaten) (.ref c_Uneven) = some false)
    (k_Unbeaten_Unbeaten : PySem.W.kitOne K (.ref c_Unbeaten) (.ref c_Unbeaten) = some true)
    (k_Unbeaten_Ring : PySem.W.kitOne K (.ref c_Unbeaten) (.ref c_Ring) = some false)
    (pg_Ring : PySem.W.plainGet K c_Ring Str.empty = true)
    (hd_Ring : PySem.W.hasDictIn K c_Ring = true)
    (po_Ring : PySem.W.plainOver K c_Ring = true)
    (sa_Ring : PySem.W.findIn K (.ref c_Ring) "__setattr__" = some (some (.builtin "object.__setattr__")))
    (ha_Ring : PySem.W.findIn K (.ref c_Ring) "__class__" = some (some (.builtin "object.__class__")))
    (hm_Ring : PySem.W.mroIn K c_Ring (.type "object") = some true)
    (mk_Ring : PySem.W.makesIn K c_Ring = true)
    (kc_Ring : PySem.W.keepIn K (.ref c_Ring) = true)
    (n_Ring_way : PySem.W.findIn K (.ref c_Ring) "way" = some none)
    (k_Ring_Answer : PySem.W.kitOne K (.ref c_Ring) (.ref c_Answer) = some true)
    (k_Ring_Ballots : PySem.W.kitOne K (.ref c_Ring) (.ref c_Ballots) = some false)
    (k_Ring_Uneven : PySem.W.kitOne K (.ref c_Ring) (.ref c_Uneven) = some false)
    (k_Ring_Unbeaten : PySem.W.kitOne K (.ref c_Ring) (.ref c_Unbeaten) = some false)
    (k_Ring_Ring : PySem.W.kitOne K (.ref c_Ring) (.ref c_Ring) = some true)
    (a_MOST : PySem.W.nsIn K mainGlobals "MOST" = some (some (.int 20 t_MOST)))
    (z_abs : PySem.W.nsIn K mainGlobals "abs" = some none)
    (z_all : PySem.W.nsIn K mainGlobals "all" = some none)
    (z_any : PySem.W.nsIn K mainGlobals "any" = some none)
    (z_bool : PySem.W.nsIn K mainGlobals "bool" = some none)
    (z_enumerate : PySem.W.nsIn K mainGlobals "enumerate" = some none)
    (z_int : PySem.W.nsIn K mainGlobals "int" = some none)
    (z_isinstance : PySem.W.nsIn K mainGlobals "isinstance" = some none)
    (z_len : PySem.W.nsIn K mainGlobals "len" = some none)
    (z_list : PySem.W.nsIn K mainGlobals "list" = some none)
    (z_max : PySem.W.nsIn K mainGlobals "max" = some none)
    (z_min : PySem.W.nsIn K mainGlobals "min" = some none)
    (z_range : PySem.W.nsIn K mainGlobals "range" = some none)
    (z_set : PySem.W.nsIn K mainGlobals "set" = some none)
    (z_sorted : PySem.W.nsIn K mainGlobals "sorted" = some none)
    (z_str : PySem.W.nsIn K mainGlobals "str" = some none)
    (z_sum : PySem.W.nsIn K mainGlobals "sum" = some none)
    (z_tuple : PySem.W.nsIn K mainGlobals "tuple" = some none)
    (q_CountError : PySem.W.nsIn K mainGlobals "CountError" = some (some (.ref c_CountError)))
    (xc_CountError : PySem.W.excIn K c_CountError upVE "ValueError.__new__" = true)
    (kp_CountError : PySem.W.keepIn K (.ref c_CountError) = true)
    (hd_CountError : PySem.W.hasDictIn K c_CountError = true)
    (sb_CountError : PySem.W.subIn K (.ref c_CountError) (.type "BaseException") = some true)
    (ty_CountError : PySem.W.typeIn K (.ref c_CountError) = some (.type "type"))
    (q_BadCandidates : PySem.W.nsIn K mainGlobals "BadCandidates" = some (some (.ref c_BadCandidates)))
    (xc_BadCandidates : PySem.W.excIn K c_BadCandidates upVE "ValueError.__new__" = true)
    (kp_BadCandidates : PySem.W.keepIn K (.ref c_BadCandidates) = true)
    (hd_BadCandidates : PySem.W.hasDictIn K c_BadCandidates = true)
    (sb_BadCandidates : PySem.W.subIn K (.ref c_BadCandidates) (.type "BaseException") = some true)
    (ty_BadCandidates : PySem.W.typeIn K (.ref c_BadCandidates) = some (.type "type"))
    (q_BadBallots : PySem.W.nsIn K mainGlobals "BadBallots" = some (some (.ref c_BadBallots)))
    (xc_BadBallots : PySem.W.excIn K c_BadBallots upVE "ValueError.__new__" = true)
    (kp_BadBallots : PySem.W.keepIn K (.ref c_BadBallots) = true)
    (hd_BadBallots : PySem.W.hasDictIn K c_BadBallots = true)
    (sb_BadBallots : PySem.W.subIn K (.ref c_BadBallots) (.type "BaseException") = some true)
    (ty_BadBallots : PySem.W.typeIn K (.ref c_BadBallots) = some (.type "type"))
    (q_BadTable : PySem.W.nsIn K mainGlobals "BadTable" = some (some (.ref c_BadTable)))
    (xc_BadTable : PySem.W.excIn K c_BadTable upVE "ValueError.__new__" = true)
    (kp_BadTable : PySem.W.keepIn K (.ref c_BadTable) = true)
    (hd_BadTable : PySem.W.hasDictIn K c_BadTable = true)
    (sb_BadTable : PySem.W.subIn K (.ref c_BadTable) (.type "BaseException") = some true)
    (ty_BadTable : PySem.W.typeIn K (.ref c_BadTable) = some (.type "type"))
    (q_NotPeaked : PySem.W.nsIn K mainGlobals "NotPeaked" = some (some (.ref c_NotPeaked)))
    (xc_NotPeaked : PySem.W.excIn K c_NotPeaked upVE "ValueError.__new__" = true)
    (kp_NotPeaked : PySem.W.keepIn K (.ref c_NotPeaked) = true)
    (hd_NotPeaked : PySem.W.hasDictIn K c_NotPeaked = true)
    (sb_NotPeaked : PySem.W.subIn K (.ref c_NotPeaked) (.type "BaseException") = some true)
    (ty_NotPeaked : PySem.W.typeIn K (.ref c_NotPeaked) = some (.type "type"))
    (ga_NotPeaked : PySem.W.findIn K (.ref c_NotPeaked) "__getattribute__" = some (some (.builtin "BaseException.__getattribute__")))
    (gt_NotPeaked : PySem.W.findIn K (.ref c_NotPeaked) "__getattr__" = some none)
    (cl_NotPeaked : PySem.W.findIn K (.ref c_NotPeaked) "__class__" = some (some (.builtin "object.__class__")))
    (mo_NotPeaked : PySem.W.mroIn K c_NotPeaked (.type "object") = some true)
    (u_NotPeaked_CountError : PySem.W.subIn K (.ref c_NotPeaked) (.ref c_CountError) = some true)
    (k_NotPeaked_NotPeaked : PySem.W.kitOne K (.ref c_NotPeaked) (.ref c_NotPeaked) = some true)
    (k_NotPeaked_BadBallots : PySem.W.kitOne K (.ref c_NotPeaked) (.ref c_BadBallots) = some false)
    (k_NotPeaked_BadCandidates : PySem.W.kitOne K (.ref c_NotPeaked) (.ref c_BadCandidates) = some false)
    (k_NotPeaked_BadTable : PySem.W.kitOne K (.ref c_NotPeaked) (.ref c_BadTable) = some false) :
    ∃ fd : FuncData, (∀ (s : Shared) (v : Value), BindsTo s fd ⟨[v], []⟩ [("_law_script", v)]) ∧ ∀ base : Heap, K.In base → base.Ns mainGlobals mg → FnOk l.prog w K mg base CX0 9 fa fd ["_law_script"] (spLaw K) :=
  law_of hfa (tx_of X G q_Answer q_Ballots q_Uneven q_Unbeaten q_Ring a1 l1 e1 k1 a2 l2 e2 k2 a3 l3 e3 k3 a4 l4 e4 k4 a5 l5 e5 k5 a6 l6 e6 k6 a7 l7 e7 k7 a8 l8 e8 k8 a9 i9 l9 e9 k9 a10 i10 l10 e10 k10 a11 i11 l11 e11 k11 a12 i12 l12 e12 k12 a13 i13 l13 e13 k13 a14 i14 l14 e14 k14 a15 i15 l15 e15 k15 a16 i16 l16 e16 k16 a17 l17 e17 k17 a18 l18 e18 k18 a19 l19 e19 k19 a20 l20 e20 k20 a21 l21 e21 k21 a22 l22 e22 k22 a23 l23 e23 k23 a24 l24 e24 k24 a25 l25 e25 k25 a26 l26 e26 k26 a27 l27 e27 k27 a28 l28 e28 k28 a29 l29 e29 k29 a30 l30 e30 k30 a31 l31 e31 k31 a32 l32 e32 k32 a33 l33 e33 k33 a34 l34 e34 k34 a35 l35 e35 k35 qhn qht pg_Ballots hd_Ballots po_Ballots sa_Ballots ha_Ballots hm_Ballots mk_Ballots kc_Ballots n_Ballots_ballots k_Ballots_Answer k_Ballots_Ballots k_Ballots_Uneven k_Ballots_Unbeaten k_Ballots_Ring pg_Uneven hd_Uneven po_Uneven sa_Uneven ha_Uneven hm_Uneven mk_Uneven kc_Uneven n_Uneven_one n_Uneven_other k_Uneven_Answer k_Uneven_Ballots k_Uneven_Uneven k_Uneven_Unbeaten k_Uneven_Ring pg_Unbeaten hd_Unbeaten po_Unbeaten sa_Unbeaten ha_Unbeaten hm_Unbeaten mk_Unbeaten kc_Unbeaten n_Unbeaten_who k_Unbeaten_Answer k_Unbeaten_Ballots k_Unbeaten_Uneven k_Unbeaten_Unbeaten k_Unbeaten_Ring pg_Ring hd_Ring po_Ring sa_Ring ha_Ring hm_Ring mk_Ring kc_Ring n_Ring_way k_Ring_Answer k_Ring_Ballots k_Ring_Uneven k_Ring_Unbeaten k_Ring_Ring a_MOST z_abs z_all z_any z_bool z_enumerate z_int z_isinstance z_len z_list z_max z_min z_range z_set z_sorted z_str z_sum z_tuple q_CountError xc_CountError kp_CountError hd_CountError sb_CountError ty_CountError q_BadCandidates xc_BadCandidates kp_BadCandidates hd_BadCandidates sb_BadCandidates ty_BadCandidates q_BadBallots xc_BadBallots kp_BadBallots hd_BadBallots sb_BadBallots ty_BadBallots q_BadTable xc_BadTable kp_BadTable hd_BadTable sb_BadTable ty_BadTable q_NotPeaked xc_NotPeaked kp_NotPeaked hd_NotPeaked sb_NotPeaked ty_NotPeaked ga_NotPeaked gt_NotPeaked cl_NotPeaked mo_NotPeaked u_NotPeaked_CountError k_NotPeaked_NotPeaked k_NotPeaked_BadBallots k_NotPeaked_BadCandidates k_NotPeaked_BadTable)
end Hc
open PySem PySem.W PyProof.Rows
set_option maxHeartbeats 0 in
theorem PySem.Challenge.cw_headcounts_k08_whole_numbers_holds : PySem.Challenge.rw_headcounts_k08_whole_numbers.Holds := by
  w_on; o_law; k_head; (case hw => w_witness2)
  k_fill
  refine L2.walk_ofB (l := PySem.Challenge.rw_headcounts_k08_whole_numbers) (n := 63) (k := 9) (x := "_law_script") (CX := fun _ => L2.CX0) (sp := fun w => Hc.spLaw _) rfl (by decide) rfl ⟨rfl, by decide, by decide⟩ (fun w h Y => PySem.W.kIn_of Y) ?F (fun _ _ a ns hl hb _ hS => ⟨a, ns, 1048576, rfl, hS, hl, fun z hz => Hc.big_of_bits (hb z hz), by decide, by decide, fun _ => rfl⟩) (fun _ _ _ _ _ h => h)
  case F =>
    intro w mg fa h KX G hmg
    refine' Hc.all_of KX G hmg ?q_Answer ?q_Ballots ?q_Uneven ?q_Unbeaten ?q_Ring ?a1 ?l1 ?e1 ?k1 ?a2 ?l2 ?e2 ?k2 ?a3 ?l3 ?e3 ?k3 ?a4 ?l4 ?e4 ?k4 ?a5 ?l5 ?e5 ?k5 ?a6 ?l6 ?e6 ?k6 ?a7 ?l7 ?e7 ?k7 ?a8 ?l8 ?e8 ?k8 ?a9 ?i9 ?l9 ?e9 ?k9 ?a10 ?i10 ?l10 ?e10 ?k10 ?a11 ?i11 ?l11 ?e11 ?k11 ?a12 ?i12 ?l12 ?e12 ?k12 ?a13 ?i13 ?l13 ?e13 ?k13 ?a14 ?i14 ?l14 ?e14 ?k14 ?a15 ?i15 ?l15 ?e15 ?k15 ?a16 ?i16 ?l16 ?e16 ?k16 ?a17 ?l17 ?e17 ?k17 ?a18 ?l18 ?e18 ?k18 ?a19 ?l19 ?e19 ?k19 ?a20 ?l20 ?e20 ?k20 ?a21 ?l21 ?e21 ?k21 ?a22 ?l22 ?e22 ?k22 ?a23 ?l23 ?e23 ?k23 ?a24 ?l24 ?e24 ?k24 ?a25 ?l25 ?e25 ?k25 ?a26 ?l26 ?e26 ?k26 ?a27 ?l27 ?e27 ?k27 ?a28 ?l28 ?e28 ?k28 ?a29 ?l29 ?e29 ?k29 ?a30 ?l30 ?e30 ?k30 ?a31 ?l31 ?e31 ?k31 ?a32 ?l32 ?e32 ?k32 ?a33 ?l33 ?e33 ?k33 ?a34 ?l34 ?e34 ?k34 ?a35 ?l35 ?e35 ?k35 ?qhn ?qht ?pg_Ballots ?hd_Ballots ?po_Ballots ?sa_Ballots ?ha_Ballots ?hm_Ballots ?mk_Ballots ?kc_Ballots ?n_Ballots_ballots ?k_Ballots_Answer ?k_Ballots_Ballots ?k_Ballots_Uneven ?k_Ballots_Unbeaten ?k_Ballots_Ring ?pg_Uneven ?hd_Uneven ?po_Uneven ?sa_Uneven ?ha_Uneven ?hm_Uneven ?mk_Uneven ?kc_Uneven ?n_Uneven_one ?n_Uneven_other ?k_Uneven_Answer ?k_Uneven_Ballots ?k_Uneven_Uneven ?k_Uneven_Unbeaten ?k_Uneven_Ring ?pg_Unbeaten ?hd_Unbeaten ?po_Unbeaten ?sa_Unbeaten ?ha_Unbeaten ?hm_Unbeaten ?mk_Unbeaten ?kc_Unbeaten ?n_Unbeaten_who ?k_Unbeaten_Answer ?k_Unbeaten_Ballots ?k_Unbeaten_Uneven ?k_Unbeaten_Unbeaten ?k_Unbeaten_Ring ?pg_Ring ?hd_Ring ?po_Ring ?sa_Ring ?ha_Ring ?hm_Ring ?mk_Ring ?kc_Ring ?n_Ring_way ?k_Ring_Answer ?k_Ring_Ballots ?k_Ring_Uneven ?k_Ring_Unbeaten ?k_Ring_Ring ?a_MOST ?z_abs ?z_all ?z_any ?z_bool ?z_enumerate ?z_int ?z_isinstance ?z_len ?z_list ?z_max ?z_min ?z_range ?z_set ?z_sorted ?z_str ?z_sum ?z_tuple ?q_CountError ?xc_CountError ?kp_CountError ?hd_CountError ?sb_CountError ?ty_CountError ?q_BadCandidates ?xc_BadCandidates ?kp_BadCandidates ?hd_BadCandidates ?sb_BadCandidates ?ty_BadCandidates ?q_BadBallots ?xc_BadBallots ?kp_BadBallots ?hd_BadBallots ?sb_BadBallots ?ty_BadBallots ?q_BadTable ?xc_BadTable ?kp_BadTable ?hd_BadTable ?sb_BadTable ?ty_BadTable ?q_NotPeaked ?xc_NotPeaked ?kp_NotPeaked ?hd_NotPeaked ?sb_NotPeaked ?ty_NotPeaked ?ga_NotPeaked ?gt_NotPeaked ?cl_NotPeaked ?mo_NotPeaked ?u_NotPeaked_CountError ?k_NotPeaked_NotPeaked ?k_NotPeaked_BadBallots ?k_NotPeaked_BadCandidates ?k_NotPeaked_BadTable
    (case q_Answer => k_is); (case q_Ballots => k_is); (case q_Uneven => k_is); (case q_Unbeaten => k_is); (case q_Ring => k_is); (case a1 => k_is); (case l1 => k_is); (case e1 => k_is); (case k1 => k_is); (case a2 => k_is); (case l2 => k_is); (case e2 => k_is); (case k2 => k_is); (case a3 => k_is); (case l3 => k_is); (case e3 => k_is); (case k3 => k_is); (case a4 => k_is); (case l4 => k_is); (case e4 => k_is); (case k4 => k_is); (case a5 => k_is); (case l5 => k_is); (case e5 => k_is); (case k5 => k_is); (case a6 => k_is); (case l6 => k_is); (case e6 => k_is); (case k6 => k_is); (case a7 => k_is); (case l7 => k_is); (case e7 => k_is); (case k7 => k_is); (case a8 => k_is); (case l8 => k_is); (case e8 => k_is); (case k8 => k_is); (case a9 => k_is); (case i9 => k_is); (case l9 => k_is); (case e9 => k_is); (case k9 => k_is); (case a10 => k_is); (case i10 => k_is); (case l10 => k_is); (case e10 => k_is); (case k10 => k_is); (case a11 => k_is); (case i11 => k_is); (case l11 => k_is); (case e11 => k_is); (case k11 => k_is); (case a12 => k_is); (case i12 => k_is); (case l12 => k_is); (case e12 => k_is); (case k12 => k_is); (case a13 => k_is); (case i13 => k_is); (case l13 => k_is); (case e13 => k_is); (case k13 => k_is); (case a14 => k_is); (case i14 => k_is); (case l14 => k_is); (case e14 => k_is); (case k14 => k_is); (case a15 => k_is); (case i15 => k_is); (case l15 => k_is); (case e15 => k_is); (case k15 => k_is); (case a16 => k_is); (case i16 => k_is); (case l16 => k_is); (case e16 => k_is); (case k16 => k_is); (case a17 => k_is); (case l17 => k_is); (case e17 => k_is); (case k17 => k_is); (case a18 => k_is); (case l18 => k_is); (case e18 => k_is); (case k18 => k_is); (case a19 => k_is); (case l19 => k_is); (case e19 => k_is); (case k19 => k_is); (case a20 => k_is); (case l20 => k_is); (case e20 => k_is); (case k20 => k_is); (case a21 => k_is); (case l21 => k_is); (case e21 => k_is); (case k21 => k_is); (case a22 => k_is); (case l22 => k_is); (case e22 => k_is); (case k22 => k_is); (case a23 => k_is); (case l23 => k_is); (case e23 => k_is); (case k23 => k_is); (case a24 => k_is); (case l24 => k_is); (case e24 => k_is); (case k24 => k_is); (case a25 => k_is); (case l25 => k_is); (case e25 => k_is); (case k25 => k_is); (case a26 => k_is); (case l26 => k_is); (case e26 => k_is); (case k26 => k_is); (case a27 => k_is); (case l27 => k_is); (case e27 => k_is); (case k27 => k_is); (case a28 => k_is); (case l28 => k_is); (case e28 => k_is); (case k28 => k_is); (case a29 => k_is); (case l29 => k_is); (case e29 => k_is); (case k29 => k_is); (case a30 => k_is); (case l30 => k_is); (case e30 => k_is); (case k30 => k_is); (case a31 => k_is); (case l31 => k_is); (case e31 => k_is); (case k31 => k_is); (case a32 => k_is); (case l32 => k_is); (case e32 => k_is); (case k32 => k_is); (case a33 => k_is); (case l33 => k_is); (case e33 => k_is); (case k33 => k_is); (case a34 => k_is); (case l34 => k_is); (case e34 => k_is); (case k34 => k_is); (case a35 => k_is); (case l35 => k_is); (case e35 => k_is); (case k35 => k_is); (case qhn => k_is); (case qht => k_is); (case pg_Ballots => k_is); (case hd_Ballots => k_is); (case po_Ballots => k_is); (case sa_Ballots => k_is); (case ha_Ballots => k_is); (case hm_Ballots => k_is); (case mk_Ballots => k_is); (case kc_Ballots => k_is); (case n_Ballots_ballots => k_is); (case k_Ballots_Answer => kit_is); (case k_Ballots_Ballots => kit_is); (case k_Ballots_Uneven => kit_is); (case k_Ballots_Unbeaten => kit_is); (case k_Ballots_Ring => kit_is); (case pg_Uneven => k_is); (case hd_Uneven => k_is); (case po_Uneven => k_is); (case sa_Uneven => k_is); (case ha_Uneven => k_is); (case hm_Uneven => k_is); (case mk_Uneven => k_is); (case kc_Uneven => k_is); (case n_Uneven_one => k_is); (case n_Uneven_other => k_is); (case k_Uneven_Answer => kit_is); (case k_Uneven_Ballots => kit_is); (case k_Uneven_Uneven => kit_is); (case k_Uneven_Unbeaten => kit_is); (case k_Uneven_Ring => kit_is); (case pg_Unbeaten => k_is); (case hd_Unbeaten => k_is); (case po_Unbeaten => k_is); (case sa_Unbeaten => k_is); (case ha_Unbeaten => k_is); (case hm_Unbeaten => k_is); (case mk_Unbeaten => k_is); (case kc_Unbeaten => k_is); (case n_Unbeaten_who => k_is); (case k_Unbeaten_Answer => kit_is); (case k_Unbeaten_Ballots => kit_is); (case k_Unbeaten_Uneven => kit_is); (case k_Unbeaten_Unbeaten => kit_is); (case k_Unbeaten_Ring => kit_is); (case pg_Ring => k_is); (case hd_Ring => k_is); (case po_Ring => k_is); (case sa_Ring => k_is); (case ha_Ring => k_is); (case hm_Ring => k_is); (case mk_Ring => k_is); (case kc_Ring => k_is); (case n_Ring_way => k_is); (case k_Ring_Answer => kit_is); (case k_Ring_Ballots => kit_is); (case k_Ring_Uneven => kit_is); (case k_Ring_Unbeaten => kit_is); (case k_Ring_Ring => kit_is); (case a_MOST => k_is); (case z_abs => k_is); (case z_all => k_is); (case z_any => k_is); (case z_bool => k_is); (case z_enumerate => k_is); (case z_int => k_is); (case z_isinstance => k_is); (case z_len => k_is); (case z_list => k_is); (case z_max => k_is); (case z_min => k_is); (case z_range => k_is); (case z_set => k_is); (case z_sorted => k_is); (case z_str => k_is); (case z_sum => k_is); (case z_tuple => k_is); (case q_CountError => k_is); (case xc_CountError => k_exc); (case kp_CountError => k_is); (case hd_CountError => k_is); (case sb_CountError => k_is); (case ty_CountError => k_is); (case q_BadCandidates => k_is); (case xc_BadCandidates => k_exc); (case kp_BadCandidates => k_is); (case hd_BadCandidates => k_is); (case sb_BadCandidates => k_is); (case ty_BadCandidates => k_is); (case q_BadBallots => k_is); (case xc_BadBallots => k_exc); (case kp_BadBallots => k_is); (case hd_BadBallots => k_is); (case sb_BadBallots => k_is); (case ty_BadBallots => k_is); (case q_BadTable => k_is); (case xc_BadTable => k_exc); (case kp_BadTable => k_is); (case hd_BadTable => k_is); (case sb_BadTable => k_is); (case ty_BadTable => k_is); (case q_NotPeaked => k_is); (case xc_NotPeaked => k_exc); (case kp_NotPeaked => k_is); (case hd_NotPeaked => k_is); (case sb_NotPeaked => k_is); (case ty_NotPeaked => k_is); (case ga_NotPeaked => k_is); (case gt_NotPeaked => k_is); (case cl_NotPeaked => k_is); (case mo_NotPeaked => k_is); (case u_NotPeaked_CountError => k_is); (case k_NotPeaked_NotPeaked => kit_is); (case k_NotPeaked_BadBallots => kit_is); (case k_NotPeaked_BadCandidates => kit_is); (case k_NotPeaked_BadTable => kit_is)
