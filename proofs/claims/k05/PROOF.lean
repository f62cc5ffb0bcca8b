import PyProof.Rows.All
import Wide.All
import OpenK.AllK
import Wide.FinOn
import HandS.Base
import HandS.Call
import HandS.List
import HandS.Comp
import HandS.Ends
import HandS.Dict
import HandS.Iter
import HandS.Words
import HandS.WordsList
import HandS.Conv
import HandS.Wide
import HandS.Evl
import HandS.Zip
import HandS.EndBits
import HandS.Walk
import HandS.IsInst
import HandS.Style
import HandS.HotCalls
import HandS.ExcIs
import HandS.ExcCtx
import HandS.WordsExc
import HandS.ExcOwn
import HandS.SortRule
import KE.RegKIsAll
import PySem.Challenge.RW_headcounts_k05_whole_peaks
set_option Elab.async false
set_option linter.all false
set_option maxRecDepth 100000
set_option maxHeartbeats 4000000
/-! Plain laws of counting: no program in sight. -/
namespace Hc

/-- what one pair (a ahead of b) adds to the cell (i, j) -/
def dlt (i j a b : Nat) : Int := (if a = i ∧ b = j then 1 else 0) - (if b = i ∧ a = j then 1 else 0)
def dsum (i j a : Nat) (l : List Nat) : Int := (l.map fun b => dlt i j a b).sum
def psum (i j : Nat) : List Nat → Int
  | [] => 0
  | a :: l => dsum i j a l + psum i j l
/-- the first p places taken as the one ahead -/
def psA (i j : Nat) : Nat → List Nat → Int
  | 0, _ => 0
  | _ + 1, [] => 0
  | p + 1, a :: l => dsum i j a l + psA i j p l
def cnt (bs : List (List Nat × Int)) (i j : Nat) : Int := (bs.map fun b => b.2 * psum i j b.1).sum

theorem dlt_swap (i j a b : Nat) : dlt i j b a = - dlt i j a b := by
  unfold dlt
  have e1 : (b = i ∧ a = j) ↔ (b = i ∧ a = j) := Iff.rfl
  by_cases h1 : a = i ∧ b = j <;> by_cases h2 : b = i ∧ a = j <;> simp [h1, h2] <;> omega
theorem dlt_neg (i j a b : Nat) : dlt j i a b = - dlt i j a b := by
  unfold dlt
  have e1 : (a = j ∧ b = i) ↔ (b = i ∧ a = j) := And.comm
  have e2 : (b = j ∧ a = i) ↔ (a = i ∧ b = j) := And.comm
  simp only [e1, e2]
  omega
theorem sum_append_int : ∀ (l m : List Int), (l ++ m).sum = l.sum + m.sum
  | [], m => by simp
  | a :: l, m => by rw [List.cons_append, List.sum_cons, List.sum_cons, sum_append_int l m]; omega
theorem dsum_append (i j a : Nat) (l m : List Nat) : dsum i j a (l ++ m) = dsum i j a l + dsum i j a m := by
  unfold dsum
  rw [List.map_append, sum_append_int]
theorem dsum_nil (i j a : Nat) : dsum i j a [] = 0 := rfl
theorem dsum_cons (i j a b : Nat) (l : List Nat) : dsum i j a (b :: l) = dlt i j a b + dsum i j a l := by
  unfold dsum
  rw [List.map_cons, List.sum_cons]
theorem dsum_one (i j a b : Nat) : dsum i j a [b] = dlt i j a b := by rw [dsum_cons, dsum_nil]; omega
theorem dsum_take_succ (i j a : Nat) (l : List Nat) (q : Nat) (x : Nat) (h : l[q]? = some x) : dsum i j a (l.take (q + 1)) = dsum i j a (l.take q) + dlt i j a x := by
  rw [List.take_add_one, h, dsum_append]
  show _ + dsum i j a [x] = _
  rw [dsum_one]
/-- the mirror image: those ahead of y -/
def esum (i j y : Nat) (l : List Nat) : Int := (l.map fun b => dlt i j b y).sum
theorem esum_append (i j a : Nat) (l m : List Nat) : esum i j a (l ++ m) = esum i j a l + esum i j a m := by
  unfold esum
  rw [List.map_append, sum_append_int]
theorem esum_cons (i j a b : Nat) (l : List Nat) : esum i j a (b :: l) = dlt i j b a + esum i j a l := by
  unfold esum
  rw [List.map_cons, List.sum_cons]
theorem esum_nil (i j a : Nat) : esum i j a [] = 0 := rfl
theorem esum_take_succ (i j a : Nat) (l : List Nat) (q : Nat) (x : Nat) (h : l[q]? = some x) : esum i j a (l.take (q + 1)) = esum i j a (l.take q) + dlt i j x a := by
  rw [List.take_add_one, h, esum_append]
  show _ + esum i j a [x] = _
  rw [esum_cons, esum_nil]
  omega
theorem esum_dsum (i j y : Nat) : ∀ l : List Nat, esum i j y l = - dsum i j y l
  | [] => rfl
  | a :: l => by rw [esum_cons, dsum_cons, esum_dsum i j y l, dlt_swap]; omega
theorem psum_snoc (i j y : Nat) : ∀ l : List Nat, psum i j (l ++ [y]) = psum i j l + esum i j y l
  | [] => by simp [psum, dsum, esum]
  | a :: l => by
    show dsum i j a (l ++ [y]) + psum i j (l ++ [y]) = dsum i j a l + psum i j l + esum i j y (a :: l)
    rw [psum_snoc i j y l, dsum_append, dsum_one, esum_cons]
    omega
theorem dsum_reverse (i j a : Nat) : ∀ l : List Nat, dsum i j a l.reverse = dsum i j a l
  | [] => rfl
  | b :: l => by rw [List.reverse_cons, dsum_append, dsum_reverse i j a l, dsum_one, dsum_cons]; omega
theorem psum_reverse (i j : Nat) : ∀ l : List Nat, psum i j l.reverse = - psum i j l
  | [] => rfl
  | a :: l => by
    rw [List.reverse_cons, psum_snoc, psum_reverse i j l, esum_dsum, dsum_reverse]
    show - psum i j l + - dsum i j a l = - (dsum i j a l + psum i j l)
    omega
theorem psum_swap (i j : Nat) : ∀ l : List Nat, psum j i l = - psum i j l
  | [] => rfl
  | a :: l => by
    show dsum j i a l + psum j i l = -(dsum i j a l + psum i j l)
    have e : dsum j i a l = - dsum i j a l := by
      induction l with
      | nil => rfl
      | cons b l ih => rw [dsum_cons, dsum_cons, ih, dlt_neg]; omega
    rw [e, psum_swap i j l]
    omega
theorem psA_succ (i j : Nat) : ∀ (p : Nat) (l : List Nat) (a : Nat), l[p]? = some a → psA i j (p + 1) l = psA i j p l + dsum i j a (l.drop (p + 1))
  | 0, [], _, h => by simp at h
  | 0, b :: l, a, h => by
    have e : b = a := by simpa using h
    subst e
    show dsum i j b l + psA i j 0 l = psA i j 0 (b :: l) + dsum i j b l
    show dsum i j b l + 0 = 0 + dsum i j b l
    omega
  | p + 1, [], _, h => by simp at h
  | p + 1, b :: l, a, h => by
    have h' : l[p]? = some a := by simpa using h
    show dsum i j b l + psA i j (p + 1) l = dsum i j b l + psA i j p l + dsum i j a (l.drop (p + 1))
    rw [psA_succ i j p l a h']
    omega
theorem psA_all (i j : Nat) : ∀ (l : List Nat), psA i j l.length l = psum i j l
  | [] => rfl
  | a :: l => by
    show dsum i j a l + psA i j l.length l = dsum i j a l + psum i j l
    rw [psA_all i j l]
/-- the first q places, each with those ahead of it -/
theorem psum_take_succ (i j : Nat) (l : List Nat) (q y : Nat) (h : l[q]? = some y) : psum i j (l.take (q + 1)) = psum i j (l.take q) + esum i j y (l.take q) := by
  rw [List.take_add_one, h]
  exact psum_snoc i j y (l.take q)

/-- a pair put into a table, two cells at once -/
theorem put_two (f : Nat → Nat → Int) (k m : Nat) (z : Int) (i j : Nat) : (if i = m ∧ j = k then (if m = k ∧ k = m then f k m + z else f m k) - z else if i = k ∧ j = m then f k m + z else f i j) = f i j + z * dlt i j k m := by
  unfold dlt
  by_cases h1 : i = m ∧ j = k
  · obtain ⟨rfl, rfl⟩ := h1
    by_cases h2 : i = j
    · subst h2
      simp
    · have h3 : ¬ j = i := fun e => h2 e.symm
      simp [h2, h3]
      omega
  · rw [if_neg h1]
    by_cases h2 : i = k ∧ j = m
    · obtain ⟨rfl, rfl⟩ := h2
      have h3 : ¬ (i = j) := fun e => h1 ⟨e, e.symm⟩
      have h4 : ¬ (j = i) := fun e => h3 e.symm
      simp [h3, h4]
    · have h3 : ¬ (k = i ∧ m = j) := fun e => h2 ⟨e.1.symm, e.2.symm⟩
      have h4 : ¬ (m = i ∧ k = j) := fun e => h1 ⟨e.1.symm, e.2.symm⟩
      rw [if_neg h2, if_neg h3, if_neg h4]
      simp
theorem cnt_nil (i j : Nat) : cnt [] i j = 0 := rfl
theorem cnt_append (bs cs : List (List Nat × Int)) (i j : Nat) : cnt (bs ++ cs) i j = cnt bs i j + cnt cs i j := by
  unfold cnt
  rw [List.map_append, sum_append_int]
theorem cnt_take_succ (bs : List (List Nat × Int)) (k : Nat) (b : List Nat × Int) (h : bs[k]? = some b) (i j : Nat) : cnt (bs.take (k + 1)) i j = cnt (bs.take k) i j + b.2 * psum i j b.1 := by
  rw [List.take_add_one, h, cnt_append]
  show _ + (b.2 * psum i j b.1 + 0) = _
  omega
theorem cnt_reverse (bs : List (List Nat × Int)) (i j : Nat) : cnt (bs.map fun b => (b.1.reverse, b.2)) i j = - cnt bs i j := by
  induction bs with
  | nil => rfl
  | cons b bs ih =>
    have e1 : cnt (b :: bs) i j = b.2 * psum i j b.1 + cnt bs i j := by unfold cnt; rw [List.map_cons, List.sum_cons]
    have e2 : cnt ((b :: bs).map fun b => (b.1.reverse, b.2)) i j = b.2 * psum i j b.1.reverse + cnt (bs.map fun b => (b.1.reverse, b.2)) i j := by unfold cnt; rw [List.map_cons, List.map_cons, List.sum_cons]
    rw [e1, e2, ih, psum_reverse, Int.mul_neg]
    omega
theorem cnt_swap (bs : List (List Nat × Int)) (i j : Nat) : cnt bs j i = - cnt bs i j := by
  induction bs with
  | nil => rfl
  | cons b bs ih =>
    have e1 : ∀ i j, cnt (b :: bs) i j = b.2 * psum i j b.1 + cnt bs i j := fun i j => by unfold cnt; rw [List.map_cons, List.sum_cons]
    rw [e1, e1, ih, psum_swap, Int.mul_neg]
    omega
theorem cnt_parts (bs : List (List Nat × Int)) (k i j : Nat) : cnt (bs.take k) i j + cnt (bs.drop k) i j = cnt bs i j := by
  rw [← cnt_append, List.take_append_drop]
end Hc

namespace Hc
open PySem PySem.Spec PyProof.Rows L2 Evl

theorem bt_int : bootBuiltins "int" = some (.type "int") := PyProof.Rows.boot_int
theorem bt_bool : bootBuiltins "bool" = some (.type "bool") := PyProof.Rows.boot_bool
theorem bt_list : bootBuiltins "list" = some (.type "list") := PyProof.Rows.boot_list
theorem bt_tuple : bootBuiltins "tuple" = some (.type "tuple") := PyProof.Rows.boot_tuple
theorem bt_set : bootBuiltins "set" = some (.type "set") := PyProof.Rows.boot_set
theorem bt_str : bootBuiltins "str" = some (.type "str") := PyProof.Rows.boot_str
/-- products of any two ints that the model multiplies -/
theorem op_mulG {X : Cx} : OpR X (binaryOp .Mult) (rI (fun i j => IntMulOk i j) fun i j => .int (i * j)) := opI fun _ _ _ _ _ _ _ hc q => mul_int q hc

/-! ### lists of ints, rows -/
def iv (ns : List Int) : List V := ns.map V.int
def nv (ks : List Nat) : List V := ks.map fun (k : Nat) => V.int (k : Int)
def rowV (n : Nat) (g : Nat → Int) : List V := (List.range n).map fun j => V.int (g j)
theorem nv_iv (ks : List Nat) : nv ks = iv (ks.map fun (k : Nat) => (k : Int)) := by
  unfold nv iv
  rw [List.map_map]
  rfl
theorem iv_length (ns : List Int) : (iv ns).length = ns.length := by unfold iv; rw [List.length_map]
theorem nv_length (ks : List Nat) : (nv ks).length = ks.length := by unfold nv; rw [List.length_map]
theorem rowV_length (n : Nat) (g : Nat → Int) : (rowV n g).length = n := by
  unfold rowV
  rw [List.length_map, List.length_range]
theorem rowV_get {n j : Nat} {g : Nat → Int} (h : j < n) : (rowV n g)[j]? = some (.int (g j)) := by
  unfold rowV
  rw [List.getElem?_map, List.getElem?_range h]
  rfl
theorem rowV_iv (n : Nat) (g : Nat → Int) : rowV n g = iv ((List.range n).map g) := by
  unfold rowV iv
  rw [List.map_map]
  rfl
theorem rowV_congr {n : Nat} {g g' : Nat → Int} (h : ∀ j, j < n → g j = g' j) : rowV n g = rowV n g' := by
  unfold rowV
  refine List.map_congr_left fun j hj => ?_
  rw [h j (List.mem_range.mp hj)]
theorem rowV_set {n b : Nat} {g : Nat → Int} {v : Int} : (rowV n g).set b (.int v) = rowV n (fun j => if j = b then v else g j) := by
  apply List.ext_getElem?
  intro j
  rw [List.getElem?_set]
  by_cases hj : j < n
  · rw [rowV_length, rowV_get (g := fun j => if j = b then v else g j) hj]
    by_cases e : b = j
    · subst e
      rw [if_pos rfl, if_pos hj, if_pos rfl]
    · rw [if_neg e, rowV_get hj, if_neg (fun q => e q.symm)]
  · have e1 : (rowV n g)[j]? = none := List.getElem?_eq_none (by rw [rowV_length]; omega)
    have e2 : (rowV n (fun j => if j = b then v else g j))[j]? = none := List.getElem?_eq_none (by rw [rowV_length]; omega)
    rw [e1, e2, rowV_length]
    split
    · split
      · omega
      · rfl
    · rfl
theorem nv_get {ks : List Nat} {i : Nat} {x : V} (h : (nv ks)[i]? = some x) : ∃ k, ks[i]? = some k ∧ x = .int (k : Int) := by
  unfold nv at h
  rw [List.getElem?_map] at h
  cases e : ks[i]? with
  | none => rw [e] at h; cases h
  | some k => rw [e] at h; exact ⟨k, rfl, (Option.some.inj h).symm⟩
theorem iv_get {ks : List Int} {i : Nat} {x : V} (h : (iv ks)[i]? = some x) : ∃ k, ks[i]? = some k ∧ x = .int k := by
  unfold iv at h
  rw [List.getElem?_map] at h
  cases e : ks[i]? with
  | none => rw [e] at h; cases h
  | some k => rw [e] at h; exact ⟨k, rfl, (Option.some.inj h).symm⟩
theorem sq_mono {K : PySem.W.Frag} {H H' : Hp} {a : Addr} {xs : List V} (e : Ex H H') (h : SqL K H a xs) : SqL K H' a xs := ex_l e h
theorem iv_flat (ns : List Int) : (iv ns).all flatV = true := by
  unfold iv
  rw [List.all_map]
  exact List.all_eq_true.mpr fun _ _ => rfl

/-! ### cuts -/
theorem cut_from (xs : List V) (k : Nat) : cutV xs (some (k : Int)) none = xs.drop k := by
  unfold cutV
  rw [HT.sIx_nat, HT.sIx_none]
  by_cases h : k ≤ xs.length
  · rw [Nat.min_eq_left h]
    exact List.take_of_length_le (by rw [List.length_drop]; omega)
  · rw [Nat.min_eq_right (by omega), List.drop_length, List.drop_of_length_le (by omega)]
    simp
theorem cut_to (xs : List V) (k : Nat) : cutV xs none (some (k : Int)) = xs.take k := by
  unfold cutV
  rw [HT.sIx_nat, HT.sIx_none]
  show (xs.drop 0).take (min k xs.length - 0) = xs.take k
  rw [List.drop_zero, Nat.sub_zero]
  by_cases h : k ≤ xs.length
  · rw [Nat.min_eq_left h]
  · rw [Nat.min_eq_right (by omega), List.take_length, List.take_of_length_le (by omega)]
theorem cut_m1 (xs : List V) : cutV xs none (some (-1)) = xs.dropLast := by
  unfold cutV
  rw [HT.sIx_none]
  show (xs.drop 0).take ((if (-1 : Int) < 0 then ((-1 : Int) + (xs.length : Int)).toNat else min (-1 : Int).toNat xs.length) - 0) = xs.dropLast
  rw [if_pos (by omega), List.drop_zero, Nat.sub_zero, List.dropLast_eq_take]
  congr 1
  omega

/-! ### tables -/
structure Tab (H0 H : Hp) (t : Addr) (rs : List Addr) (n : Nat) (f : Nat → Nat → Int) : Prop where
  len : rs.length = n
  top : H t = some (.lst (rs.map V.ref))
  row : ∀ i r, rs[i]? = some r → H r = some (.lst (rowV n (f i)))
  nd : rs.Nodup
  ft : H0 t = none
  fr : ∀ r, r ∈ rs → H0 r = none
def TabR (K : PySem.W.Frag) (H : Hp) (v : V) (n : Nat) (f : Nat → Nat → Int) : Prop :=
  ∃ (t : Addr) (rs : List Addr), v = V.ref t ∧ rs.length = n ∧ SqL K H t (rs.map V.ref) ∧ ∀ i r, rs[i]? = some r → SqL K H r (rowV n (f i))
section
variable {K : PySem.W.Frag} {H0 H H' : Hp} {t : Addr} {rs : List Addr} {n : Nat} {f f' : Nat → Nat → Int} {v : V}
theorem Tab.notop (T : Tab H0 H t rs n f) : t ∉ rs := fun h => by
  obtain ⟨i, hi, e⟩ := List.mem_iff_getElem.mp h
  have e1 : rs[i]? = some t := by rw [List.getElem?_eq_getElem hi, e]
  have h1 := T.row i t e1
  rw [T.top] at h1
  have h2 : rs.map V.ref = rowV n (f i) := by injection Option.some.inj h1
  have h3 : (rs.map V.ref)[i]? = (rowV n (f i))[i]? := by rw [h2]
  rw [List.getElem?_map, e1, rowV_get (by rw [← T.len]; exact hi)] at h3
  injection h3 with h4
  cases h4
theorem Tab.mono (T : Tab H0 H t rs n f) (e : Ex H H') : Tab H0 H' t rs n f :=
  ⟨T.len, e _ _ T.top, fun i r h => e _ _ (T.row i r h), T.nd, T.ft, T.fr⟩
theorem Tab.congr (T : Tab H0 H t rs n f) (h : ∀ i j, i < n → j < n → f i j = f' i j) : Tab H0 H t rs n f' :=
  ⟨T.len, T.top, fun i r e => by
    have hi : i < n := by rw [← T.len]; exact (List.getElem?_eq_some_iff.mp e).1
    rw [← rowV_congr (fun j hj => h i j hi hj)]
    exact T.row i r e, T.nd, T.ft, T.fr⟩
theorem Tab.base {Hb : Hp} (T : Tab H0 H t rs n f) (e : Ex Hb H0) : Tab Hb H t rs n f :=
  ⟨T.len, T.top, T.row, T.nd, fresh_back e T.ft, fun r h => fresh_back e (T.fr r h)⟩
theorem Tab.at_ {i : Nat} (T : Tab H0 H t rs n f) (h : i < n) : ∃ r, rs[i]? = some r ∧ r ∈ rs ∧ (rs.map V.ref)[i]? = some (V.ref r) ∧ H r = some (.lst (rowV n (f i))) := by
  have hi : i < rs.length := by rw [T.len]; exact h
  refine ⟨rs[i], List.getElem?_eq_getElem hi, List.getElem_mem hi, ?_, T.row i _ (List.getElem?_eq_getElem hi)⟩
  rw [List.getElem?_map, List.getElem?_eq_getElem hi]
  rfl
theorem nodup_at {α : Type} {l : List α} (h : l.Nodup) {i j : Nat} {x : α} (a : l[i]? = some x) (b : l[j]? = some x) : i = j := nd_ix h a b
/-- one cell is set -/
theorem Tab.put {a b : Nat} {r : Addr} {z : Int} (T : Tab H0 H t rs n f) (hr : rs[a]? = some r) : Tab H0 (upd H r (.lst ((rowV n (f a)).set b (.int z)))) t rs n (fun i j => if i = a ∧ j = b then z else f i j) := by
  have hm : r ∈ rs := List.mem_of_getElem? hr
  have nt : t ≠ r := fun e => T.notop (e ▸ hm)
  refine ⟨T.len, by rw [upd_ne nt]; exact T.top, fun i r' h => ?_, T.nd, T.ft, T.fr⟩
  by_cases e : r' = r
  · subst e
    have ei : i = a := nd_ix T.nd h hr
    subst ei
    rw [upd_same, rowV_set]
    congr 2
    refine rowV_congr fun j _ => ?_
    by_cases ej : j = b
    · rw [if_pos ej, if_pos ⟨rfl, ej⟩]
    · rw [if_neg ej, if_neg (fun q => ej q.2)]
  · rw [upd_ne e, T.row i r' h]
    congr 2
    refine rowV_congr fun j _ => ?_
    have ei : i ≠ a := fun q => e (by subst q; rw [h] at hr; exact Option.some.inj hr)
    rw [if_neg (fun q => ei q.1)]
/-- what is older stands when a row is written -/
theorem Tab.exMut {r : Addr} {o : HO} (T : Tab H0 H t rs n f) (e : Ex H0 H) (hr : r ∈ rs) : Ex H0 (upd H r o) := e.mut (T.fr r hr)
theorem Tab.rd (T : Tab H0 H t rs n f) : TabR K H (.ref t) n f := ⟨t, rs, rfl, T.len, sq_of T.top, fun i r h => sq_of (T.row i r h)⟩
theorem TabR.mono (T : TabR K H v n f) (e : Ex H H') : TabR K H' v n f := by
  obtain ⟨t, rs, h1, h2, h3, h4⟩ := T
  exact ⟨t, rs, h1, h2, ex_l e h3, fun i r h => ex_l e (h4 i r h)⟩
theorem TabR.congr (T : TabR K H v n f) (h : ∀ i j, i < n → j < n → f i j = f' i j) : TabR K H v n f' := by
  obtain ⟨t, rs, h1, h2, h3, h4⟩ := T
  refine ⟨t, rs, h1, h2, h3, fun i r e => ?_⟩
  have hi : i < n := by rw [← h2]; exact (List.getElem?_eq_some_iff.mp e).1
  rw [← rowV_congr (fun j hj => h i j hi hj)]
  exact h4 i r e
theorem TabR.at_ (T : TabR K H v n f) : ∃ (t : Addr) (xs : List V), v = .ref t ∧ SqL K H t xs ∧ xs.length = n ∧ ∀ i, i < n → ∃ r, xs[i]? = some (.ref r) ∧ SqL K H r (rowV n (f i)) := by
  obtain ⟨t, rs, h1, h2, h3, h4⟩ := T
  refine ⟨t, _, h1, h3, by rw [List.length_map]; exact h2, fun i hi => ?_⟩
  have hi' : i < rs.length := by omega
  refine ⟨rs[i], ?_, h4 i _ (List.getElem?_eq_getElem hi')⟩
  rw [List.getElem?_map, List.getElem?_eq_getElem hi']
  rfl
end

/-! ### deep data -/
def dRow (n : Nat) (g : Nat → Int) : PyData := .list ((List.range n).map fun j => .int (g j))
def dTab (n : Nat) (f : Nat → Nat → Int) : PyData := .list ((List.range n).map fun i => dRow n (f i))
def dBal (b : List Nat × Int) : PyData := .tuple [.list (b.1.map fun (k : Nat) => .int (k : Int)), .int b.2]
def dBals (bs : List (List Nat × Int)) : PyData := .list (bs.map dBal)
theorem dpAll_of {K : PySem.W.Frag} {H : Hp} : ∀ {xs : List V} {ds : List PyData}, xs.length = ds.length → (∀ (i : Nat) (x : V) (d : PyData), xs[i]? = some x → ds[i]? = some d → Dp K H x d) → DpAll K H xs ds
  | [], [], _, _ => .nil
  | x :: xs, d :: ds, hl, h => .cons (h 0 x d rfl rfl) (dpAll_of (by simpa using hl) fun i y e hy he => h (i + 1) y e (by simpa using hy) (by simpa using he))
  | [], _ :: _, hl, _ => by simp at hl
  | _ :: _, [], hl, _ => by simp at hl
theorem dpAll_ints {K : PySem.W.Frag} {H : Hp} : ∀ (ns : List Int), DpAll K H (iv ns) (ns.map PyData.int)
  | [] => .nil
  | n :: ns => .cons (.int n) (dpAll_ints ns)
theorem dp_ints {K : PySem.W.Frag} {H : Hp} {a : Addr} {ns : List Int} (h : SqL K H a (iv ns)) : Dp K H (.ref a) (.list (ns.map PyData.int)) := .lst h (dpAll_ints ns)
theorem dp_row {K : PySem.W.Frag} {H : Hp} {a : Addr} {n : Nat} {g : Nat → Int} (h : SqL K H a (rowV n g)) : Dp K H (.ref a) (dRow n g) := by
  rw [rowV_iv] at h
  have e := dp_ints h
  rw [List.map_map] at e
  exact e
theorem TabR.dp {K : PySem.W.Frag} {H : Hp} {v : V} {n : Nat} {f : Nat → Nat → Int} (T : TabR K H v n f) : Dp K H v (dTab n f) := by
  obtain ⟨t, rs, rfl, h2, h3, h4⟩ := T
  refine .lst h3 (dpAll_of (by rw [List.length_map, List.length_map, List.length_range, h2]) fun i x d hx hd => ?_)
  rw [List.getElem?_map] at hx hd
  cases e : rs[i]? with
  | none => rw [e] at hx; cases hx
  | some r =>
    rw [e] at hx
    have hi : i < n := by rw [← h2]; exact (List.getElem?_eq_some_iff.mp e).1
    rw [List.getElem?_range hi] at hd
    cases hx
    cases hd
    exact dp_row (h4 i r e)
theorem lay_all : ∀ (ds : List PyData), (∀ d ∈ ds, d.canLay0 = true) → PyData.canLayAll0 ds = true
  | [], _ => by simp [PyData.canLayAll0]
  | d :: ds, h => by
    rw [PyData.canLayAll0, h d (List.mem_cons_self ..), lay_all ds fun e he => h e (List.mem_cons_of_mem _ he)]
    rfl
theorem lay_list (ds : List PyData) (h : ∀ d ∈ ds, d.canLay0 = true) : (PyData.list ds).canLay0 = true := by
  rw [PyData.canLay0]
  exact lay_all ds h
theorem lay_tup (ds : List PyData) (h : ∀ d ∈ ds, d.canLay0 = true) : (PyData.tuple ds).canLay0 = true := by
  rw [PyData.canLay0]
  exact lay_all ds h
theorem lay_int (i : Int) : (PyData.int i).canLay0 = true := by simp [PyData.canLay0]
theorem lay_row (n : Nat) (g : Nat → Int) : (dRow n g).canLay0 = true := lay_list _ fun d hd => by
  obtain ⟨j, _, rfl⟩ := List.mem_map.mp hd
  exact lay_int _
theorem lay_tab (n : Nat) (f : Nat → Nat → Int) : (dTab n f).canLay0 = true := lay_list _ fun d hd => by
  obtain ⟨j, _, rfl⟩ := List.mem_map.mp hd
  exact lay_row _ _
theorem lay_bal (b : List Nat × Int) : (dBal b).canLay0 = true := lay_tup _ fun d hd => by
  rcases List.mem_cons.mp hd with rfl | hd
  · refine lay_list _ fun e he => ?_
    obtain ⟨j, _, rfl⟩ := List.mem_map.mp he
    exact lay_int _
  · rcases List.mem_cons.mp hd with rfl | hd
    · exact lay_int _
    · cases hd
theorem lay_bals (bs : List (List Nat × Int)) : (dBals bs).canLay0 = true := lay_list _ fun d hd => by
  obtain ⟨b, _, rfl⟩ := List.mem_map.mp hd
  exact lay_bal _
end Hc

namespace Hc
open PySem PySem.Spec PyProof.Rows L2 Evl

theorem depth_all : ∀ (ds : List PyData) (k : Nat), (∀ d ∈ ds, d.depth ≤ k) → PyData.depthAll ds ≤ k
  | [], k, _ => by rw [PyData.depthAll]; exact Nat.zero_le _
  | d :: ds, k, h => by
    rw [PyData.depthAll]
    exact Nat.max_le.mpr ⟨h d (List.mem_cons_self ..), depth_all ds k fun e he => h e (List.mem_cons_of_mem _ he)⟩
theorem depth_list {ds : List PyData} {k : Nat} (h : ∀ d ∈ ds, d.depth ≤ k) : (PyData.list ds).depth ≤ k + 1 := by
  rw [PyData.depth]
  exact Nat.succ_le_succ (depth_all ds k h)
theorem depth_tup {ds : List PyData} {k : Nat} (h : ∀ d ∈ ds, d.depth ≤ k) : (PyData.tuple ds).depth ≤ k + 1 := by
  rw [PyData.depth]
  exact Nat.succ_le_succ (depth_all ds k h)
theorem depth_int (i : Int) : (PyData.int i).depth ≤ 0 := by rw [PyData.depth]; exact Nat.le_refl _
theorem shaped_of {d : PyData} {k : Nat} (h : d.canLay0 = true) (hk : d.depth ≤ k) (h6 : k ≤ 64) : SeqAt.shaped d = true := by
  unfold SeqAt.shaped
  rw [h, decide_eq_true (Nat.le_trans hk h6)]
  rfl
theorem depth_ints (ns : List Int) : (PyData.list (ns.map PyData.int)).depth ≤ 1 := depth_list fun d hd => by
  obtain ⟨j, _, rfl⟩ := List.mem_map.mp hd
  exact depth_int _
theorem shaped_ints (ns : List Int) : SeqAt.shaped (.list (ns.map PyData.int)) = true := shaped_of (lay_list _ fun d hd => by
  obtain ⟨j, _, rfl⟩ := List.mem_map.mp hd
  exact lay_int _) (depth_ints ns) (by decide)
theorem depth_row (n : Nat) (g : Nat → Int) : (dRow n g).depth ≤ 1 := depth_list fun d hd => by
  obtain ⟨j, _, rfl⟩ := List.mem_map.mp hd
  exact depth_int _
theorem shaped_row (n : Nat) (g : Nat → Int) : SeqAt.shaped (dRow n g) = true := shaped_of (lay_row n g) (depth_row n g) (by decide)
theorem depth_tab (n : Nat) (f : Nat → Nat → Int) : (dTab n f).depth ≤ 2 := depth_list fun d hd => by
  obtain ⟨j, _, rfl⟩ := List.mem_map.mp hd
  exact depth_row _ _
theorem shaped_tab (n : Nat) (f : Nat → Nat → Int) : SeqAt.shaped (dTab n f) = true := shaped_of (lay_tab n f) (depth_tab n f) (by decide)
theorem depth_bal (b : List Nat × Int) : (dBal b).depth ≤ 2 := depth_tup fun d hd => by
  rcases List.mem_cons.mp hd with rfl | hd
  · refine depth_list fun e he => ?_
    obtain ⟨j, _, rfl⟩ := List.mem_map.mp he
    exact depth_int _
  · rcases List.mem_cons.mp hd with rfl | hd
    · exact Nat.le_trans (depth_int _) (Nat.zero_le _)
    · cases hd
theorem shaped_bals (bs : List (List Nat × Int)) : SeqAt.shaped (dBals bs) = true := shaped_of (lay_bals bs) (depth_list fun d hd => by
  obtain ⟨b, _, rfl⟩ := List.mem_map.mp hd
  exact depth_bal b) (by decide)
theorem dTab_congr {n : Nat} {f g : Nat → Nat → Int} (h : ∀ i j, i < n → j < n → f i j = g i j) : dTab n f = dTab n g := by
  unfold dTab dRow
  congr 1
  refine List.map_congr_left fun i hi => ?_
  congr 1
  refine List.map_congr_left fun j hj => ?_
  rw [h i j (List.mem_range.mp hi) (List.mem_range.mp hj)]
theorem eqv_tab {n : Nat} {f g : Nat → Nat → Int} (h : ∀ i j, i < n → j < n → f i j = g i j) : PyData.eqv (dTab n f) (dTab n g) = true := by
  rw [dTab_congr h]
  exact SeqAt.eqv_refl _ (lay_tab n g)

/-! ### ballots -/
theorem Paired.get {α β : Type} {F : α → β → Prop} : ∀ {l : List α} {m : List β} {i : Nat} {x : α}, Paired F l m → l[i]? = some x → ∃ y, m[i]? = some y ∧ F x y
  | _, _, _, _, .nil, h => by simp at h
  | _, _, 0, _, .cons r _, h => by
    cases (show some _ = some _ from h)
    exact ⟨_, rfl, r⟩
  | _, _, i + 1, x, .cons _ t, h => by
    obtain ⟨y, h1, h2⟩ := Paired.get (i := i) (x := x) t (by simpa using h)
    exact ⟨y, by simpa using h1, h2⟩
theorem Paired.take {α β : Type} {F : α → β → Prop} : ∀ {l : List α} {m : List β} (k : Nat), Paired F l m → Paired F (l.take k) (m.take k)
  | _, _, 0, _ => .nil
  | _, _, _ + 1, .nil => .nil
  | _, _, k + 1, .cons r t => .cons r (Paired.take k t)
theorem Paired.drop {α β : Type} {F : α → β → Prop} : ∀ {l : List α} {m : List β} (k : Nat), Paired F l m → Paired F (l.drop k) (m.drop k)
  | _, _, 0, r => r
  | _, _, _ + 1, .nil => .nil
  | _, _, k + 1, .cons _ t => Paired.drop k t
theorem Paired.append {α β : Type} {F : α → β → Prop} : ∀ {l l' : List α} {m m' : List β}, Paired F l m → Paired F l' m' → Paired F (l ++ l') (m ++ m')
  | _, _, _, _, .nil, s => s
  | _, _, _, _, .cons r t, s => .cons r (Paired.append t s)
theorem Paired.len {α β : Type} {F : α → β → Prop} : ∀ {l : List α} {m : List β}, Paired F l m → l.length = m.length
  | _, _, .nil => rfl
  | _, _, .cons _ t => by rw [List.length_cons, List.length_cons, Paired.len t]
def BalR (K : PySem.W.Frag) (H : Hp) (x : V) (b : List Nat × Int) : Prop := ∃ (t l : Addr), x = .ref t ∧ SqT K H t [.ref l, .int b.2] ∧ SqL K H l (nv b.1)
def BalsR (K : PySem.W.Frag) (H : Hp) (v : V) (bs : List (List Nat × Int)) : Prop := ∃ (a : Addr) (xs : List V), v = .ref a ∧ SqL K H a xs ∧ Paired (BalR K H) xs bs
section
variable {K : PySem.W.Frag} {H H' : Hp} {v x : V} {bs : List (List Nat × Int)} {b : List Nat × Int}
theorem BalR.mono (h : BalR K H x b) (e : Ex H H') : BalR K H' x b := by
  obtain ⟨t, l, h1, h2, h3⟩ := h
  exact ⟨t, l, h1, ex_t e h2, ex_l e h3⟩
theorem BalsR.mono (h : BalsR K H v bs) (e : Ex H H') : BalsR K H' v bs := by
  obtain ⟨a, xs, h1, h2, h3⟩ := h
  exact ⟨a, xs, h1, ex_l e h2, Paired.mapP h3 fun _ _ q => q.mono e⟩
theorem BalR.dp (h : BalR K H x b) : Dp K H x (dBal b) := by
  obtain ⟨t, l, rfl, h2, h3⟩ := h
  refine .tup h2 (.cons ?_ (.cons (.int _) .nil))
  rw [nv_iv] at h3
  have e := dp_ints h3
  rw [List.map_map] at e
  exact e
theorem BalsR.dp (h : BalsR K H v bs) : Dp K H v (dBals bs) := by
  obtain ⟨a, xs, rfl, h2, h3⟩ := h
  refine .lst h2 (dpAll_of (by rw [List.length_map]; exact Paired.len h3) fun i x d hx hd => ?_)
  obtain ⟨b, hb, r⟩ := Paired.get h3 hx
  rw [List.getElem?_map, hb] at hd
  cases hd
  exact r.dp
end

/-! ### comprehensions -/
/-- all but D stands -/
def ExB (D : Addr) (H H' : Hp) : Prop := ∀ a o, a ≠ D → H a = some o → H' a = some o
theorem Ex.exB {D : Addr} {H H' : Hp} (e : Ex H H') : ExB D H H' := fun a o _ h => e a o h
theorem exB_upd {D : Addr} {H : Hp} {o : HO} : ExB D H (upd H D o) := fun a u n h => by rw [upd_ne n]; exact h
section
variable {J : It} {n : Nat} {G : Hp → Prop} {Y : Nat → Hp → V → Hp → Prop} {g : TG} {tt : TT} {te : TE} {vs : List Nat} {σ : L2.St} {H1 : Hp} {D : Addr} {Qd : Hp → Prop}
/-- every turn gives one item; what is known of the items so far -/
theorem lc_acc (w : Walk J n G Y) (hD : H1 D = none) (hn : n ≤ 100000) (hG : ∀ H, Ex H1 H → G H) (I : List V → Hp → Prop) (hI : ∀ ys Ha Hb, I ys Ha → ExB D Ha Hb → I ys Hb) (h0 : I [] (upd H1 D (.lst [])))
    (hs : ∀ (i : Nat) (x : V) (H H' : Hp) (ys : List V), i < n → Ex H1 H → H D = some (.lst ys) → ys.length = i → I ys H → Y i H x H' → ∀ Qc : VK, (∀ y H4, Ex H H4 → I (ys ++ [y]) H4 → Qc y H4) → g x (wipe σ vs) H' fun σ2 H2 => wipe σ2 vs = wipe σ vs ∧ te σ2 H2 Qc)
    (hd : ∀ H ys, Ex H1 H → H D = some (.lst ys) → ys.length = n → I ys H → Qd H) :
    ∃ W : Nat → Nat → Hp → Prop, (∃ m, W 0 m (upd H1 D (.lst []))) ∧ ∀ i m H, W i m H → (J.stop i H ∧ Qd H) ∨ (J.go i H ∧ ∃ Nx : Hp → Prop, (∀ H', Nx H' → ∃ m', m' < m ∧ W (i + 1) m' H') ∧ ∀ x H', J.yld i H x H' → g x (wipe σ vs) H' fun σ2 H2 => wipe σ2 vs = wipe σ vs ∧ tYes σ2 H2 fun b H3 => if b = true then te σ2 H3 fun y H4 => ∃ acc, H4 D = some (.lst acc) ∧ acc.length < sizeLine ∧ Nx (upd H4 D (.lst (acc ++ [y]))) else Nx H3) := by
  refine lc_it w (fun i H => ∃ ys, Ex H1 H ∧ H D = some (.lst ys) ∧ ys.length = i ∧ I ys H) ⟨[], Ex.new hD, upd_same, rfl, h0⟩ (fun i H _ ⟨_, e, _⟩ => hG H e) ?_ (fun H ⟨ys, e, h1, h2, h3⟩ => hd H ys e h1 h2 h3)
  rintro i x H H' hi ⟨ys, e, h1, h2, h3⟩ hy
  exact hs i x H H' ys hi e h1 h2 h3 hy _ fun y H4 e4 h5 => ⟨ys, e4 _ _ h1, sz_lt (by omega), ys ++ [y], (e.trans e4).mut hD, upd_same, by rw [List.length_append, h2]; rfl, hI _ _ _ h5 exB_upd⟩
/-- items by value -/
theorem lc_vals (w : Walk J n G Y) (hD : H1 D = none) (hn : n ≤ 100000) (hG : ∀ H, Ex H1 H → G H) (v : Nat → V)
    (hs : ∀ (i : Nat) (x : V) (H H' : Hp), i < n → Ex H1 H → Y i H x H' → ∀ Qc : VK, (∀ H4, Ex H H4 → Qc (v i) H4) → g x (wipe σ vs) H' fun σ2 H2 => wipe σ2 vs = wipe σ vs ∧ te σ2 H2 Qc)
    (hd : ∀ H, Ex H1 H → H D = some (.lst ((List.range n).map v)) → Qd H) :
    ∃ W : Nat → Nat → Hp → Prop, (∃ m, W 0 m (upd H1 D (.lst []))) ∧ ∀ i m H, W i m H → (J.stop i H ∧ Qd H) ∨ (J.go i H ∧ ∃ Nx : Hp → Prop, (∀ H', Nx H' → ∃ m', m' < m ∧ W (i + 1) m' H') ∧ ∀ x H', J.yld i H x H' → g x (wipe σ vs) H' fun σ2 H2 => wipe σ2 vs = wipe σ vs ∧ tYes σ2 H2 fun b H3 => if b = true then te σ2 H3 fun y H4 => ∃ acc, H4 D = some (.lst acc) ∧ acc.length < sizeLine ∧ Nx (upd H4 D (.lst (acc ++ [y]))) else Nx H3) := by
  refine lc_acc w hD hn hG (fun ys _ => ys = (List.range ys.length).map v) (fun _ _ _ h _ => h) rfl ?_ (fun H ys e h1 h2 h3 => hd H e (by rw [h1, h3, h2]))
  intro i x H H' ys hi e h1 h2 h3 hy Qc hq
  refine hs i x H H' hi e hy Qc fun H4 e4 => hq _ H4 e4 ?_
  rw [List.length_append, List.length_singleton, List.range_succ, List.map_append, ← h3, h2]
  rfl
/-- new lists -/
structure Rows (H0 H : Hp) (ps : List Addr) (L : Nat → List V) : Prop where
  at_ : ∀ i p, ps[i]? = some p → H p = some (.lst (L i))
  nd : ps.Nodup
  fr : ∀ p, p ∈ ps → H0 p = none
theorem lc_rows (w : Walk J n G Y) (hD : H1 D = none) (hn : n ≤ 100000) (hG : ∀ H, Ex H1 H → G H) (L : Nat → List V)
    (hs : ∀ (i : Nat) (x : V) (H H' : Hp), i < n → Ex H1 H → Y i H x H' → ∀ Qc : VK, (∀ p H4, H p = none → Ex H H4 → H4 p = some (.lst (L i)) → Qc (.ref p) H4) → g x (wipe σ vs) H' fun σ2 H2 => wipe σ2 vs = wipe σ vs ∧ te σ2 H2 Qc)
    (hd : ∀ H ps, Ex H1 H → H D = some (.lst (ps.map V.ref)) → ps.length = n → Rows H1 H ps L → Qd H) :
    ∃ W : Nat → Nat → Hp → Prop, (∃ m, W 0 m (upd H1 D (.lst []))) ∧ ∀ i m H, W i m H → (J.stop i H ∧ Qd H) ∨ (J.go i H ∧ ∃ Nx : Hp → Prop, (∀ H', Nx H' → ∃ m', m' < m ∧ W (i + 1) m' H') ∧ ∀ x H', J.yld i H x H' → g x (wipe σ vs) H' fun σ2 H2 => wipe σ2 vs = wipe σ vs ∧ tYes σ2 H2 fun b H3 => if b = true then te σ2 H3 fun y H4 => ∃ acc, H4 D = some (.lst acc) ∧ acc.length < sizeLine ∧ Nx (upd H4 D (.lst (acc ++ [y]))) else Nx H3) := by
  refine lc_acc w hD hn hG (fun ys H => ∃ ps, ys = ps.map V.ref ∧ D ∉ ps ∧ Rows H1 H ps L) ?_ ⟨[], rfl, by simp, fun _ _ h => by simp at h, List.nodup_nil, fun _ h => by simp at h⟩ ?_ ?_
  · rintro ys Ha Hb ⟨ps, h1, h2, h3⟩ e
    exact ⟨ps, h1, h2, fun i p h => e _ _ (fun q => h2 (q ▸ List.mem_of_getElem? h)) (h3.at_ i p h), h3.nd, h3.fr⟩
  · rintro i x H H' ys hi e h1 h2 ⟨ps, h3, h4, h5⟩ hy Qc hq
    refine hs i x H H' hi e hy Qc fun p H4 np e4 hp => hq _ H4 e4 ⟨ps ++ [p], ?_, ?_, ?_, ?_, ?_⟩
    · rw [h3, List.map_append]
      rfl
    · intro hm
      rcases List.mem_append.mp hm with q | q
      · exact h4 q
      · have e5 : D = p := by simpa using q
        rw [e5, np] at h1
        cases h1
    · intro k q hk
      have hl : ps.length = i := by rw [← h2, h3, List.length_map]
      rw [List.getElem?_append] at hk
      split at hk
      · exact e4 _ _ (h5.at_ k q hk)
      · rename_i hge
        have ek : k - ps.length = 0 := by
          have := (List.getElem?_eq_some_iff.mp hk).1
          simp at this
          omega
        rw [ek] at hk
        have e6 : q = p := by simpa using hk.symm
        rw [e6, hp, show k = i by omega]
    · rw [List.nodup_append]
      refine ⟨h5.nd, by simp, ?_⟩
      intro a ha b hb e7
      have e8 : b = p := by simpa using hb
      obtain ⟨k, hk, ek⟩ := List.mem_iff_getElem.mp ha
      have := h5.at_ k a (by rw [List.getElem?_eq_getElem hk, ek])
      rw [e7, e8, np] at this
      cases this
    · intro q hq'
      rcases List.mem_append.mp hq' with z | z
      · exact h5.fr q z
      · have e8 : q = p := by simpa using z
        rw [e8]
        exact fresh_back e np
  · rintro H ys e h1 h2 ⟨ps, h3, h4, h5⟩
    exact hd H ps e (by rw [h1, h3]) (by rw [← h2, h3, List.length_map]) h5
/-- new pairs of a new list of candidates and a number -/
structure BalsN (H0 H : Hp) (D : Addr) (ts ls : List Addr) (bs : List (List Nat × Int)) : Prop where
  top : H D = some (.lst (ts.map V.ref))
  lt : ts.length = bs.length
  ll : ls.length = bs.length
  at_ : ∀ (i : Nat) (t l : Addr) (b : List Nat × Int), ts[i]? = some t → ls[i]? = some l → bs[i]? = some b → H t = some (.tup [.ref l, .int b.2]) ∧ H l = some (.lst (nv b.1))
  nd : ls.Nodup
  fl : ∀ l, l ∈ ls → H0 l = none
  ft : ∀ t, t ∈ ts → H0 t = none
  fD : H0 D = none
theorem BalsN.rd {K : PySem.W.Frag} {H0 H : Hp} {D : Addr} {ts ls : List Addr} {bs : List (List Nat × Int)} (B : BalsN H0 H D ts ls bs) : BalsR K H (.ref D) bs := by
  refine ⟨D, _, rfl, sq_of B.top, ?_⟩
  have gen : ∀ (ts ls : List Addr) (bs : List (List Nat × Int)), ts.length = bs.length → ls.length = bs.length → (∀ (i : Nat) (t l : Addr) (b : List Nat × Int), ts[i]? = some t → ls[i]? = some l → bs[i]? = some b → H t = some (.tup [.ref l, .int b.2]) ∧ H l = some (.lst (nv b.1))) → Paired (BalR K H) (ts.map V.ref) bs := by
    intro ts
    induction ts with
    | nil =>
      intro ls bs hl _ _
      cases bs with
      | nil => exact .nil
      | cons _ _ => simp at hl
    | cons t ts ih =>
      intro ls bs hl hl2 h
      cases bs with
      | nil => simp at hl
      | cons b bs =>
        cases ls with
        | nil => simp at hl2
        | cons l ls =>
          obtain ⟨q1, q2⟩ := h 0 t l b rfl rfl rfl
          refine .cons ⟨t, l, rfl, st_of q1, sq_of q2⟩ (ih ls bs (by simpa using hl) (by simpa using hl2) fun i t' l' b' a1 a2 a3 => h (i + 1) t' l' b' (by simpa using a1) (by simpa using a2) (by simpa using a3))
  exact gen ts ls bs B.lt B.ll B.at_
theorem lc_bals (w : Walk J n G Y) (hD : H1 D = none) (hn : n ≤ 100000) (hG : ∀ H, Ex H1 H → G H) (bs : List (List Nat × Int)) (hbs : bs.length = n)
    (hs : ∀ (i : Nat) (x : V) (H H' : Hp) (b : List Nat × Int), i < n → bs[i]? = some b → Ex H1 H → Y i H x H' → ∀ Qc : VK, (∀ p l H4, H p = none → H l = none → Ex H H4 → H4 p = some (.tup [.ref l, .int b.2]) → H4 l = some (.lst (nv b.1)) → Qc (.ref p) H4) → g x (wipe σ vs) H' fun σ2 H2 => wipe σ2 vs = wipe σ vs ∧ te σ2 H2 Qc)
    (hd : ∀ H ts ls, Ex H1 H → BalsN H1 H D ts ls bs → Qd H) :
    ∃ W : Nat → Nat → Hp → Prop, (∃ m, W 0 m (upd H1 D (.lst []))) ∧ ∀ i m H, W i m H → (J.stop i H ∧ Qd H) ∨ (J.go i H ∧ ∃ Nx : Hp → Prop, (∀ H', Nx H' → ∃ m', m' < m ∧ W (i + 1) m' H') ∧ ∀ x H', J.yld i H x H' → g x (wipe σ vs) H' fun σ2 H2 => wipe σ2 vs = wipe σ vs ∧ tYes σ2 H2 fun b H3 => if b = true then te σ2 H3 fun y H4 => ∃ acc, H4 D = some (.lst acc) ∧ acc.length < sizeLine ∧ Nx (upd H4 D (.lst (acc ++ [y]))) else Nx H3) := by
  refine lc_acc w hD hn hG (fun ys H => ∃ ts ls : List Addr, ys = ts.map V.ref ∧ ls.length = ts.length ∧ D ∉ ts ∧ D ∉ ls ∧ (∀ (i : Nat) (t l : Addr) (b : List Nat × Int), ts[i]? = some t → ls[i]? = some l → bs[i]? = some b → H t = some (.tup [.ref l, .int b.2]) ∧ H l = some (.lst (nv b.1))) ∧ ls.Nodup ∧ (∀ l, l ∈ ls → H1 l = none) ∧ (∀ l, l ∈ ts → H1 l = none) ∧ (∀ l, l ∈ ls → H l ≠ none)) ?_ ⟨[], [], rfl, rfl, by simp, by simp, fun _ _ _ _ h => by simp at h, List.nodup_nil, fun _ h => by simp at h, fun _ h => by simp at h, fun _ h => by simp at h⟩ ?_ ?_
  · rintro ys Ha Hb ⟨ts, ls, h1, h2, h3, h4, h5, h6, h7, h8, h9⟩ e
    refine ⟨ts, ls, h1, h2, h3, h4, fun i t l b ht hl hb => ?_, h6, h7, h8, fun l hl => ?_⟩
    · obtain ⟨q1, q2⟩ := h5 i t l b ht hl hb
      exact ⟨e _ _ (fun q => h3 (q ▸ List.mem_of_getElem? ht)) q1, e _ _ (fun q => h4 (q ▸ List.mem_of_getElem? hl)) q2⟩
    · have := h9 l hl
      cases q : Ha l with
      | none => exact absurd q this
      | some o =>
        rw [e _ _ (fun q => h4 (q ▸ hl)) q]
        simp
  · rintro i x H H' ys hi e h1 h2 ⟨ts, ls, h3, h4, h5, h6, h7, h8, h9, h10, h11⟩ hy Qc hq
    have hb : i < bs.length := by omega
    have eL : ts.length = i := by rw [← h2, h3, List.length_map]
    refine hs i x H H' bs[i] hi (List.getElem?_eq_getElem hb) e hy Qc fun p l H4 np nl e4 hp hl => hq _ H4 e4 ⟨ts ++ [p], ls ++ [l], ?_, ?_, ?_, ?_, ?_, ?_, ?_, ?_, ?_⟩
    · rw [h3, List.map_append]
      rfl
    · rw [List.length_append, List.length_append, h4]
      rfl
    · intro hm
      rcases List.mem_append.mp hm with q | q
      · exact h5 q
      · have e5 : D = p := by simpa using q
        rw [e5, np] at h1
        cases h1
    · intro hm
      rcases List.mem_append.mp hm with q | q
      · exact h6 q
      · have e5 : D = l := by simpa using q
        rw [e5, nl] at h1
        cases h1
    · intro k t l' b ht hl' hbk
      rw [List.getElem?_append] at ht hl'
      by_cases hk : k < ts.length
      · rw [if_pos hk] at ht
        rw [if_pos (by omega)] at hl'
        obtain ⟨q1, q2⟩ := h7 k t l' b ht hl' hbk
        exact ⟨e4 _ _ q1, e4 _ _ q2⟩
      · rw [if_neg hk] at ht
        rw [if_neg (by omega)] at hl'
        have ek : k - ts.length = 0 := by
          have := (List.getElem?_eq_some_iff.mp ht).1
          simp at this
          omega
        rw [ek] at ht
        rw [h4, ek] at hl'
        have e6 : t = p := by simpa using ht.symm
        have e7 : l' = l := by simpa using hl'.symm
        have e8 : k = i := by omega
        subst e8
        rw [List.getElem?_eq_getElem hb] at hbk
        cases hbk
        rw [e6, e7]
        exact ⟨hp, hl⟩
    · rw [List.nodup_append]
      refine ⟨h8, by simp, ?_⟩
      intro a ha b hb' e7
      have e8 : b = l := by simpa using hb'
      exact h11 a ha (by rw [e7, e8]; exact nl)
    · intro q hq'
      rcases List.mem_append.mp hq' with z | z
      · exact h9 q z
      · have e8 : q = l := by simpa using z
        rw [e8]
        exact fresh_back e nl
    · intro q hq'
      rcases List.mem_append.mp hq' with z | z
      · exact h10 q z
      · have e8 : q = p := by simpa using z
        rw [e8]
        exact fresh_back e np
    · intro q hq'
      rcases List.mem_append.mp hq' with z | z
      · have := h11 q z
        cases w : H q with
        | none => exact absurd w this
        | some o => rw [e4 _ _ w]; simp
      · have e8 : q = l := by simpa using z
        rw [e8, hl]
        simp
  · rintro H ys e h1 h2 ⟨ts, ls, h3, h4, h5, h6, h7, h8, h9, h10, h11⟩
    have eL : ts.length = n := by rw [← h2, h3, List.length_map]
    have hts : H D = some (.lst (ts.map V.ref)) := by rw [h1, h3]
    exact hd H ts ls e ⟨hts, by omega, by omega, h7, h8, h9, h10, hD⟩
end
end Hc
namespace Hc
open PySem PySem.Spec PyProof.Rows L2 Evl
theorem rgV_nv (n : Nat) : rgV 0 (n : Int) = nv (List.range n) := by
  unfold rgV nv
  rw [show ((n : Int) - 0).toNat = n by omega]
  refine List.map_congr_left fun i _ => ?_
  rw [Int.zero_add]
theorem eqvAll_ints : ∀ (ns ms : List Int), PyData.eqvAll (ns.map PyData.int) (ms.map PyData.int) = decide (ns = ms)
  | [], [] => by simp [PyData.eqvAll]
  | [], _ :: _ => by simp [PyData.eqvAll]
  | _ :: _, [] => by simp [PyData.eqvAll]
  | n :: ns, m :: ms => by
    rw [List.map_cons, List.map_cons, PyData.eqvAll, eqvAll_ints ns ms, PyData.eqv]
    by_cases h1 : n = m <;> by_cases h2 : ns = ms <;> simp [h1, h2]
theorem eqv_ints (ns ms : List Int) : PyData.eqv (.list (ns.map PyData.int)) (.list (ms.map PyData.int)) = decide (ns = ms) := by
  rw [PyData.eqv]
  exact eqvAll_ints ns ms
theorem map_const_bl (n : Nat) (b : Bool) : ((List.range n).map fun _ => V.bl b) = ((List.range n).map fun _ => b).map V.bl := by
  rw [List.map_map]
  rfl
theorem all_const_true (n : Nat) : ((List.range n).map fun _ => true).all id = true := by
  rw [List.all_map]
  exact List.all_eq_true.mpr fun _ _ => rfl
theorem itT {c : Bool} {A B : Prop} (h : c = true) (k : A) : if c = true then A else B := by rw [if_pos h]; exact k
theorem itF {c : Bool} {A B : Prop} (h : c = false) (k : B) : if c = true then A else B := by rw [if_neg (by rw [h]; decide)]; exact k
theorem it2 {c : Bool} {A B : Prop} (h1 : c = true → A) (h2 : c = false → B) : if c = true then A else B := by
  cases c with
  | true => rw [if_pos rfl]; exact h1 rfl
  | false => rw [if_neg (by decide)]; exact h2 rfl
theorem rep_row (n : Nat) : (List.replicate n [V.int 0]).flatten = rowV n (fun _ => 0) := by
  unfold rowV
  rw [List.map_const', List.length_range]
  induction n with
  | zero => rfl
  | succ n ih => rw [List.replicate_succ, List.flatten_cons, ih, List.replicate_succ]; rfl
theorem nv_drop (ks : List Nat) (k : Nat) : (nv ks).drop k = nv (ks.drop k) := by unfold nv; rw [List.map_drop]
theorem nv_take (ks : List Nat) (k : Nat) : (nv ks).take k = nv (ks.take k) := by unfold nv; rw [List.map_take]
theorem cut_nv_from (ks : List Nat) (k : Nat) : cutV (nv ks) (some ((k : Int) + 1)) none = nv (ks.drop (k + 1)) := by
  rw [show ((k : Int) + 1) = ((k + 1 : Nat) : Int) from rfl, cut_from, nv_drop]
theorem cut_nv_to (ks : List Nat) (k : Nat) : cutV (nv ks) none (some (k : Int)) = nv (ks.take k) := by rw [cut_to, nv_take]
theorem Rows.tab {H0 H : Hp} {D : Addr} {ps : List Addr} {n : Nat} {f : Nat → Nat → Int} (hD : H0 D = none) (h : H D = some (.lst (ps.map V.ref))) (hl : ps.length = n) (R : Rows H0 H ps (fun i => rowV n (f i))) : Tab H0 H D ps n f :=
  ⟨hl, h, R.at_, R.nd, hD, R.fr⟩
theorem rgOk_nat {n : Nat} (h : n ≤ 1000) : RgOk 0 (n : Int) := RgOk.of_le (by omega) (by omega) (by omega) (by omega)
end Hc
namespace Hc
open PySem PySem.Spec PyProof.Rows L2 Evl
/-! ### great numbers -/
def Big (B : Nat) (x : Int) : Prop := x.natAbs < 2 ^ B
theorem Big.mono {B C : Nat} {x : Int} (h : Big B x) (hc : B ≤ C) : Big C x := Nat.lt_of_lt_of_le h (Nat.pow_le_pow_right (by decide) hc)
theorem Big.mul {B C : Nat} {x y : Int} (h : Big B x) (k : Big C y) : Big (B + C) (x * y) := by
  unfold Big at *
  rw [Int.natAbs_mul, Nat.pow_add]
  exact Nat.mul_lt_mul'' h k
theorem Big.add {B : Nat} {x y : Int} (h : Big B x) (k : Big B y) : Big (B + 1) (x + y) := by
  unfold Big at *
  have := Int.natAbs_add_le x y
  rw [Nat.pow_succ]
  omega
theorem big_bits {B : Nat} {x : Int} (h0 : 0 < B) (h : Big B x) : Builtin.Int.intBits x ≤ B := by
  have h1 := PySem.Flt.log2_lt_of h0 h
  unfold Builtin.Int.intBits
  split
  · exact Nat.zero_le _
  · omega
theorem big_of_bits {x : Int} {B : Nat} (h : Builtin.Int.intBits x ≤ B) : Big B x := by
  unfold Builtin.Int.intBits at h
  unfold Big
  split at h
  · rename_i e
    have e0 : x = 0 := by simpa using e
    rw [e0]
    exact Nat.pow_pos (by decide)
  · exact Nat.lt_of_lt_of_le Nat.lt_log2_self (Nat.pow_le_pow_right (by decide) h)
theorem mulOk_big {B C : Nat} {x y : Int} (h : Big B x) (k : Big C y) (hB : 0 < B) (hC : 0 < C) (hs : B + C ≤ 100000000) : IntMulOk x y := by
  have h1 := big_bits hB h
  have h2 := big_bits hC k
  have e : bitsLine = 134217728 := by decide
  intro z
  rw [Bool.and_eq_true] at z
  have z2 := of_decide_eq_true z.2
  rw [e] at z2
  omega
theorem mulOk_small {x y : Int} (h1 : -(2 ^ 64) < x) (h2 : x < 2 ^ 64) : IntMulOk x y := PySem.IntMulOk.of_left (PySem.intBits_le_64 h1 h2)
theorem mulOk_smallR {x y : Int} (h1 : -(2 ^ 64) < y) (h2 : y < 2 ^ 64) : IntMulOk x y := PySem.IntMulOk.of_right (PySem.intBits_le_64 h1 h2)
theorem big_small {x : Int} {B : Nat} (hB : 64 ≤ B) (h1 : -(2 ^ 64) < x) (h2 : x < 2 ^ 64) : Big B x := Big.mono (B := 64) (by unfold Big; omega) hB
theorem divW_small {i j : Int} (h1 : 0 < j) (h2 : j < 1000000) : CDivW i j := by
  refine ⟨h1, ?_⟩
  have : j.natAbs < 2 ^ 20 := by omega
  exact Nat.lt_trans (PySem.Flt.log2_lt_of (by decide) this) (by decide)
theorem Big.div {B : Nat} {x j : Int} (h : Big B x) (hj : 0 < j) : Big B (x / j) := by
  unfold Big at *
  refine Nat.lt_of_le_of_lt ?_ h
  exact Int.natAbs_ediv_le_natAbs x j
theorem big_sum : ∀ (ns : List Int) (B : Nat), (∀ n ∈ ns, Big B n) → Big (B + ns.length) ns.sum
  | [], B, _ => by
    show (0 : Nat) < 2 ^ (B + 0)
    exact Nat.pow_pos (by decide)
  | n :: ns, B, h => by
    rw [List.sum_cons]
    have h1 := big_sum ns B fun m hm => h m (List.mem_cons_of_mem _ hm)
    exact Big.add ((h n (List.mem_cons_self ..)).mono (Nat.le_add_right _ _)) h1
end Hc
namespace Hc
open PySem PySem.Spec PyProof.Rows L2 Evl
/-! ### the heap without one object -/
def rem (H : Hp) (F : Addr) : Hp := fun a => if a = F then none else H a
theorem rem_ne {H : Hp} {F a : Addr} (h : a ≠ F) : rem H F a = H a := by unfold rem; rw [if_neg h]
theorem rem_ex {H : Hp} {F : Addr} : Ex (rem H F) H := fun a o h => by
  unfold rem at h
  split at h
  · cases h
  · exact h
theorem rem_mono {H H' : Hp} {F : Addr} (e : Ex H H') : Ex (rem H F) (rem H' F) := fun a o h => by
  unfold rem at h ⊢
  split at h
  · cases h
  · rename_i n
    rw [if_neg n]
    exact e a o h
theorem rem_upd {H : Hp} {F : Addr} {o : HO} : rem (upd H F o) F = rem H F := by
  funext a
  unfold rem
  split
  · rfl
  · rename_i n
    rw [upd_ne n]
theorem rem_exB {H H' : Hp} {F : Addr} (e : ExB F H H') : Ex (rem H F) (rem H' F) := fun a o h => by
  unfold rem at h ⊢
  split at h
  · cases h
  · rename_i n
    rw [if_neg n]
    exact e a o n h
theorem rem_none {H : Hp} {F : Addr} (h : H F = none) : rem H F = H := by
  funext a
  unfold rem
  split
  · rename_i e
    rw [e, h]
  · rfl
end Hc
namespace Hc
open PySem PySem.Spec PyProof.Rows L2 Evl
/-! ### the rules with the written part named -/
section
variable {X : Cx} {e l : Expr} {te tl : TE} {tg : Expr} {pos p : Pos}
theorem isiK (K : PySem.W.Frag) (h : X.K = K := by rfl) : CallR X (.builtin "isinstance") (rIsi K) := by cases h; exact call_isi
theorem ixLK (K : PySem.W.Frag) (h : X.K = K := by rfl) : IxR X (rIxL K) := by cases h; exact ix_list
theorem ixTK (K : PySem.W.Frag) (h : X.K = K := by rfl) : IxR X (rIxT K) := by cases h; exact ix_tup
theorem slLK (K : PySem.W.Frag) (h : X.K = K := by rfl) : SlR X (rSlL K) := by cases h; exact sl_list
theorem allK (K : PySem.W.Frag) (h : X.K = K := by rfl) (hc : X.calm = true := by rfl) : CallR X (.builtin "all") (rAll K) := by cases h; exact cr_all hc
theorem anyK (K : PySem.W.Frag) (h : X.K = K := by rfl) (hc : X.calm = true := by rfl) : CallR X (.builtin "any") (rAny K) := by cases h; exact cr_any hc
theorem sumK (K : PySem.W.Frag) (h : X.K = K := by rfl) (hc : X.calm = true := by rfl) : CallR X (.builtin "sum") (rSum K) := by cases h; exact cr_sum hc
theorem minK (K : PySem.W.Frag) (h : X.K = K := by rfl) (hc : X.calm = true := by rfl) : CallR X (.builtin "min") (rMin K) := by cases h; exact cr_min hc
theorem maxK (K : PySem.W.Frag) (h : X.K = K := by rfl) (hc : X.calm = true := by rfl) : CallR X (.builtin "max") (rMax K) := by cases h; exact cr_max hc
theorem sortK (K : PySem.W.Frag) (h : X.K = K := by rfl) : CallR X (.builtin "sorted") (rSorted K) := by cases h; exact cr_sorted
theorem lenK (K : PySem.W.Frag) (h : X.K = K := by rfl) : CallR X (.builtin "len") (rLenS K) := by cases h; exact call_len_seq
theorem listK (K : PySem.W.Frag) (h : X.K = K := by rfl) : CallR X (.type "list") (rListS K) := by cases h; exact call_list_of
theorem inK (K : PySem.W.Frag) (h : X.K = K := by rfl) : OpR X (compareOp .In) (rIn K false) := by cases h; exact op_in_seq
theorem notInK (K : PySem.W.Frag) (h : X.K = K := by rfl) : OpR X (compareOp .NotIn) (rIn K true) := by cases h; exact op_notIn_seq
theorem eqDK (K : PySem.W.Frag) (hu : X.A.units + 64 < cLine) (h : X.K = K := by rfl) : OpR X (compareOp .Eq) (rEqD K) := by cases h; exact op_eqD hu
theorem neDK (K : PySem.W.Frag) (hu : X.A.units + 64 < cLine) (h : X.K = K := by rfl) : OpR X (compareOp .NotEq) (rNeD K) := by cases h; exact op_neD hu
theorem piL (K : PySem.W.Frag) (hl : PE X l tl) (h : X.K = K := by rfl) : PI X tg l (iList K tl) := by cases h; exact pi_list hl
theorem piT (K : PySem.W.Frag) (hl : PE X l tl) (h : X.K = K := by rfl) : PI X tg l (iTup K tl) := by cases h; exact pi_tup hl
theorem piE (K : PySem.W.Frag) {ta : TA} {tpos : Pos} {elts : List Expr} {kk : Nat} (hg : Gl X "enumerate") (hm : X.mg "enumerate" = none) (ha : PA X [e] ta) (hs : starEach [e] X.env = [(false, eval e X.env)] := by rfl) (h : X.K = K := by rfl) : PI X (.Tuple elts kk tpos) (.Call (.Name "enumerate" p) [e] [] pos) (iEnum K ta) := by cases h; exact pi_enum hg hm ha hs
theorem piZ (K : PySem.W.Frag) {e2 : Expr} {ta : TA} {tpos : Pos} {elts : List Expr} {kk : Nat} (hg : Gl X "zip") (hm : X.mg "zip" = none) (ha : PA X [e, e2] ta) (hs : starEach [e, e2] X.env = (false, eval e X.env) :: starEach [e2] X.env := by rfl) (hpl : (backTo pos (starEach [e2] X.env)).any (·.1) = false := by rfl) (h : X.K = K := by rfl) : PI X (.Tuple elts kk tpos) (.Call (.Name "zip" p) [e, e2] [] pos) (iZip K ta) := by cases h; exact pi_zip hg hm ha hs hpl
theorem pgT (K : PySem.W.Frag) {es : List Expr} {k : Nat} {t : TGs} {n : Nat} (h : PGs X es t) (hn : (assignEach es X.env).length = n := by rfl) (hst : (assignEach es X.env).findIdx? (·.1) = none := by rfl) (hK : X.K = K := by rfl) (hc : X.calm = true := by rfl) : PG X (.Tuple es k pos) (gTup K n t) := by cases hK; exact pg_tup hc h hn hst
end
end Hc
namespace Hc
open PySem PySem.Spec PyProof.Rows L2 Evl
theorem revLK {X : Cx} {e : Expr} {te : TE} {k : Nat} {p1 p2 p3 pos : Pos} (K : PySem.W.Frag) (he : PE X e te) (h : X.K = K := by rfl) : PE X (.Subscript e (.Slice none none (some (.UnaryOp .USub (.Constant (.int 1) k p1) p2)) p3) pos) (tRevL K te) := by cases h; exact pe_revL he
end Hc
namespace Hc
open PySem PySem.Spec PyProof.Rows L2 Evl
/-! ### rows from a place on -/
def dRows (n k : Nat) (f : Nat → Nat → Int) : PyData := .list (((List.range n).drop k).map fun i => dRow n (f i))
theorem lay_rows (n k : Nat) (f : Nat → Nat → Int) : (dRows n k f).canLay0 = true := lay_list _ fun d hd => by
  obtain ⟨j, _, rfl⟩ := List.mem_map.mp hd
  exact lay_row _ _
theorem shaped_rows (n k : Nat) (f : Nat → Nat → Int) : SeqAt.shaped (dRows n k f) = true := shaped_of (lay_rows n k f) (depth_list fun d hd => by
  obtain ⟨j, _, rfl⟩ := List.mem_map.mp hd
  exact depth_row _ _) (by decide)
theorem dp_rows {K : PySem.W.Frag} {H : Hp} {a : Addr} {rs : List Addr} {n k : Nat} {f : Nat → Nat → Int} (hl : rs.length = n) (h : SqL K H a ((rs.drop k).map V.ref)) (hr : ∀ i r, k ≤ i → rs[i]? = some r → SqL K H r (rowV n (f i))) : Dp K H (.ref a) (dRows n k f) := by
  refine .lst h (dpAll_of (by rw [List.length_map, List.length_map, List.length_drop, List.length_drop, List.length_range, hl]) fun i x d hx hd => ?_)
  rw [List.getElem?_map, List.getElem?_drop] at hx hd
  cases e : rs[k + i]? with
  | none => rw [e] at hx; cases hx
  | some r =>
    rw [e] at hx
    have hi : k + i < n := by rw [← hl]; exact (List.getElem?_eq_some_iff.mp e).1
    rw [List.getElem?_range hi] at hd
    cases hx
    cases hd
    exact dp_row (hr (k + i) r (Nat.le_add_right _ _) e)
end Hc

/-! Plain laws of ballots that make a table: no program in sight. -/
namespace Hc
theorem cnt_cons (b : List Nat × Int) (bs : List (List Nat × Int)) (i j : Nat) : cnt (b :: bs) i j = b.2 * psum i j b.1 + cnt bs i j := by
  unfold cnt
  rw [List.map_cons, List.sum_cons]
def restOf (n a b : Nat) : List Nat := (List.range n).filter fun k => !(k == a || k == b)
def twoB (n a b : Nat) (m : Int) : List (List Nat × Int) := [(a :: b :: restOf n a b, m), ((restOf n a b).reverse ++ [a, b], m)]
theorem psum_two (i j a b : Nat) (r : List Nat) : psum i j (a :: b :: r) + psum i j (r.reverse ++ [a, b]) = 2 * dlt i j a b := by
  have e1 : psum i j (a :: b :: r) = dsum i j a (b :: r) + (dsum i j b r + psum i j r) := rfl
  have e2 : psum i j (r.reverse ++ [a, b]) = psum i j ((r.reverse ++ [a]) ++ [b]) := by rw [List.append_assoc]; rfl
  rw [e1, e2, psum_snoc, psum_snoc, esum_append, psum_reverse, esum_dsum, esum_dsum, dsum_reverse, dsum_reverse, dsum_cons, esum_cons, esum_nil]
  omega
theorem cnt_two (n a b : Nat) (m : Int) (i j : Nat) : cnt (twoB n a b m) i j = 2 * m * dlt i j a b := by
  unfold twoB
  rw [cnt_cons, cnt_cons, cnt_nil]
  have h := psum_two i j a b (restOf n a b)
  show m * psum i j (a :: b :: restOf n a b) + (m * psum i j ((restOf n a b).reverse ++ [a, b]) + 0) = 2 * m * dlt i j a b
  rw [Int.add_zero, ← Int.mul_add, h, ← Int.mul_assoc, Int.mul_comm m 2]
theorem mem_restOf {n a b k : Nat} : k ∈ restOf n a b ↔ k < n ∧ k ≠ a ∧ k ≠ b := by
  unfold restOf
  rw [List.mem_filter, List.mem_range]
  simp
theorem two_perm {n a b : Nat} (ha : a < n) (hb : b < n) (hab : a ≠ b) : (a :: b :: restOf n a b).Perm (List.range n) := by
  have hr : (restOf n a b).Nodup := List.nodup_range.filter _
  have h1 : (a :: b :: restOf n a b).Nodup := by
    rw [List.nodup_cons, List.nodup_cons]
    refine ⟨fun h => ?_, fun h => (mem_restOf.mp h).2.2 rfl, hr⟩
    rcases List.mem_cons.mp h with e | e
    · exact hab e
    · exact (mem_restOf.mp e).2.1 rfl
  rw [List.perm_ext_iff_of_nodup h1 List.nodup_range]
  intro k
  rw [List.mem_cons, List.mem_cons, mem_restOf, List.mem_range]
  constructor
  · rintro (rfl | rfl | h)
    · exact ha
    · exact hb
    · exact h.1
  · intro h
    by_cases h1 : k = a
    · exact .inl h1
    · by_cases h2 : k = b
      · exact .inr (.inl h2)
      · exact .inr (.inr ⟨h, h1, h2⟩)
theorem two_perm2 {n a b : Nat} (ha : a < n) (hb : b < n) (hab : a ≠ b) : ((restOf n a b).reverse ++ [a, b]).Perm (List.range n) := by
  have h : ((restOf n a b).reverse ++ [a, b]).Perm ([a, b] ++ restOf n a b) := List.perm_append_comm.trans (List.Perm.append_left _ (List.reverse_perm _))
  exact h.trans (two_perm ha hb hab)
theorem dlt_self (i a b : Nat) : dlt i i a b = 0 := by
  unfold dlt
  have e : (a = i ∧ b = i) ↔ (b = i ∧ a = i) := And.comm
  simp only [e]
  omega
theorem esum_range (i j y : Nat) : ∀ m : Nat, esum i j y (List.range m) = (if y = j ∧ i < m then 1 else 0) - (if y = i ∧ j < m then 1 else 0)
  | 0 => by simp [esum]
  | m + 1 => by
    rw [List.range_succ, esum_append, esum_range i j y m, esum_cons, esum_nil]
    unfold dlt
    by_cases h1 : y = j <;> by_cases h2 : y = i <;> by_cases h3 : m = i <;> by_cases h4 : m = j <;> by_cases h5 : i < m <;> by_cases h6 : j < m <;> simp_all <;> omega
theorem psum_range (i j : Nat) : ∀ n : Nat, psum i j (List.range n) = (if i < j ∧ j < n then 1 else 0) - (if j < i ∧ i < n then 1 else 0)
  | 0 => by simp [psum]
  | n + 1 => by
    rw [List.range_succ, psum_snoc, psum_range i j n, esum_range]
    by_cases h1 : n = j <;> by_cases h2 : n = i <;> by_cases h3 : i < j <;> by_cases h4 : j < i <;> by_cases h5 : i < n <;> by_cases h6 : j < n <;> simp_all <;> omega
/-- f is a table of n -/
def Anti (n : Nat) (f : Nat → Nat → Int) : Prop := ∀ i j, i < n → j < n → f i j = - f j i
theorem Anti.self {n : Nat} {f : Nat → Nat → Int} (h : Anti n f) {i : Nat} (hi : i < n) : f i i = 0 := by
  have := h i i hi hi
  omega
theorem anti_cnt (n : Nat) (bs : List (List Nat × Int)) : Anti n (cnt bs) := fun i j _ _ => cnt_swap bs j i
/-- two tables that are alike above are alike -/
theorem anti_ext {n : Nat} {f g : Nat → Nat → Int} (hf : Anti n f) (hg : Anti n g) (h : ∀ i j, i < j → j < n → f i j = g i j) : ∀ i j, i < n → j < n → f i j = g i j := fun i j hi hj => by
  by_cases h1 : i < j
  · exact h i j h1 hj
  · by_cases h2 : j < i
    · rw [hf i j hi hj, hg i j hi hj, h j i h2 hi]
    · have e : i = j := by omega
      subst e
      rw [hf.self hi, hg.self hi]
/-- what is told so far: all pairs ahead of (one, other) are done, o for the others -/
def Done (n : Nat) (f : Nat → Nat → Int) (o : Int) (a b : Nat) (bs : List (List Nat × Int)) : Prop := ∀ i j, i < j → j < n → cnt bs i j = if i < a ∨ (i = a ∧ j < b) then f i j else o
theorem done_start {n : Nat} {f : Nat → Nat → Int} {o : Int} {bs : List (List Nat × Int)} (h : ∀ i j, i < j → j < n → cnt bs i j = o) : Done n f o 0 1 bs := fun i j hi hj => by
  rw [h i j hi hj, if_neg (by omega)]
theorem dlt_lt {i j a b : Nat} (h1 : i < j) (h2 : a < b) : dlt i j a b = if i = a ∧ j = b then 1 else 0 := by
  unfold dlt
  by_cases h : i = a ∧ j = b
  · obtain ⟨rfl, rfl⟩ := h
    have : ¬ (j = i ∧ i = j) := by omega
    simp [this]
  · rw [if_neg h, if_neg (by omega), if_neg (by omega)]
    rfl
theorem done_step {n a b : Nat} {f : Nat → Nat → Int} {o m : Int} {bs : List (List Nat × Int)} (h : Done n f o a b bs) (hab : a < b) (hm : f a b - o = 2 * m) : Done n f o a (b + 1) (bs ++ twoB n a b m) := fun i j hi hj => by
  rw [cnt_append, h i j hi hj, cnt_two, dlt_lt hi hab]
  by_cases e : i = a ∧ j = b
  · obtain ⟨rfl, rfl⟩ := e
    rw [if_neg (by omega), if_pos ⟨rfl, rfl⟩, if_pos (by omega)]
    omega
  · rw [if_neg e, Int.mul_zero, Int.add_zero]
    by_cases e2 : i < a ∨ (i = a ∧ j < b)
    · rw [if_pos e2, if_pos (by omega)]
    · rw [if_neg e2, if_neg (by omega)]
theorem done_back {n a b : Nat} {f : Nat → Nat → Int} {o m : Int} {bs : List (List Nat × Int)} (h : Done n f o a b bs) (hab : a < b) (hm : f a b - o = - (2 * m)) : Done n f o a (b + 1) (bs ++ twoB n b a m) := fun i j hi hj => by
  rw [cnt_append, h i j hi hj, cnt_two, dlt_swap i j a b, dlt_lt hi hab]
  by_cases e : i = a ∧ j = b
  · obtain ⟨rfl, rfl⟩ := e
    rw [if_neg (by omega), if_pos ⟨rfl, rfl⟩, if_pos (by omega)]
    omega
  · rw [if_neg e, show (-0 : Int) = 0 from rfl, Int.mul_zero, Int.add_zero]
    by_cases e2 : i < a ∨ (i = a ∧ j < b)
    · rw [if_pos e2, if_pos (by omega)]
    · rw [if_neg e2, if_neg (by omega)]
theorem done_same {n a b : Nat} {f : Nat → Nat → Int} {o : Int} {bs : List (List Nat × Int)} (h : Done n f o a b bs) (hm : f a b = o) : Done n f o a (b + 1) bs := fun i j hi hj => by
  rw [h i j hi hj]
  by_cases e : i = a ∧ j = b
  · obtain ⟨rfl, rfl⟩ := e
    rw [if_neg (by omega), if_pos (by omega), hm]
  · by_cases e2 : i < a ∨ (i = a ∧ j < b)
    · rw [if_pos e2, if_pos (by omega)]
    · rw [if_neg e2, if_neg (by omega)]
theorem done_row {n a : Nat} {f : Nat → Nat → Int} {o : Int} {bs : List (List Nat × Int)} (h : Done n f o a n bs) : Done n f o (a + 1) (a + 2) bs := fun i j hi hj => by
  rw [h i j hi hj]
  by_cases e2 : i < a ∨ (i = a ∧ j < n)
  · rw [if_pos e2, if_pos (by omega)]
  · rw [if_neg e2, if_neg (by omega)]
theorem done_all {n b : Nat} {f : Nat → Nat → Int} {o : Int} {bs : List (List Nat × Int)} (hf : Anti n f) (h : Done n f o n b bs) : ∀ i j, i < n → j < n → cnt bs i j = f i j :=
  anti_ext (anti_cnt n bs) hf fun i j hi hj => by rw [h i j hi hj, if_pos (by omega)]
/-- all numbers above are like the first one -/
def Alike (n : Nat) (f : Nat → Nat → Int) : Prop := ∀ i j, i < j → j < n → f i j % 2 = f 0 1 % 2
end Hc

namespace Hc
open PySem PySem.Spec PyProof.Rows L2 Evl
/-! ### one of two rules -/
theorem pe_alt {X : Cx} {e : Expr} {t u : TE} (h1 : PE X e t) (h2 : PE X e u) : PE X e (fun σ H Q => t σ H Q ∨ u σ H Q) := ⟨fun pins s σ H Q I h => h.elim (h1.run pins s σ H Q I) (h2.run pins s σ H Q I)⟩
/-! ### max, min of a pair of numbers -/
/-- a pair's walk, for the two built-ins alike: the better of the two is handed on -/
theorem pair_walk {prog : Program} {w : World} {B : Around} {op : CmpOp} {sh : Shared} {q : Addr} {x y : Int} {tx ty : Tok} {bt : Nat → Nat → Bool} {R : Value → Shared → Prop} {F : Value → Shared → Prop} (hB : B.handled = none) (hp : sh.heap.IsTuple q #[.int x tx, .int y ty])
    (hc : CmpOf prog w B op (fun i v => (#[Value.int x tx, Value.int y ty] : Array Value)[i]? = some v) bt) (done : ∀ v hh tt, (v = .int x tx ∧ bt 1 0 = false ∨ v = .int y ty ∧ bt 1 0 = true) → (∀ c o, sh.heap.get? c = some o → hh.get? c = some o) → R v { sh with heap := hh, toks := tt }) :
    wpAny (model prog w) B (pyIter (.ref q)) (fun it s2 => ∃ I fp wr n P St bt', it = .ref I ∧ Walks prog w B I fp wr n P St ∧ St 0 s2.heap ∧ (∀ c ∈ fp, c < s2.heap.objs.size) ∧ 0 < n ∧ CmpOf prog w B op P bt' ∧
      ∀ v hh tt, P (argBest bt' (n - 1)) v → (∀ c o, c ∉ wr → s2.heap.get? c = some o → hh.get? c = some o) → R v { s2 with heap := hh, toks := tt }) F sh := by
  have lt : q < sh.heap.objs.size := hp.elim fun _ z => Heap.lt_size z.1
  apply wpAny_pyIter_tuple hp
  refine ⟨_, _, _, _, _, _, bt, rfl, Walks.tuple hB _ q (Nat.ne_of_lt lt) #[Value.int x tx, Value.int y ty], ⟨⟨_, Heap.get?_push_size _ rfl, rfl, rfl⟩, hp.push _⟩, ?_, by simp, hc, ?_⟩
  · intro c hc2
    rw [Heap.size_push]
    have : c = sh.heap.objs.size ∨ c = q := by simpa using hc2
    rcases this with e | e <;> rw [e]
    · exact Nat.lt_succ_self _
    · exact Nat.lt_succ_of_lt lt
  · intro v hh tt best keep
    refine done v hh tt ?_ fun c o ho => keep c o (fun z => ?_) (Heap.get?_push_of_some _ ho)
    · cases hb : bt 1 0 <;> simp [argBest, hb] at best
      · exact .inl ⟨best.symm, rfl⟩
      · exact .inr ⟨best.symm, rfl⟩
    · have z1 : c = sh.heap.objs.size := by simpa using z
      exact Nat.lt_irrefl _ (z1 ▸ Heap.lt_size ho)
def rMaxT (K : PySem.W.Frag) : List V → Hp → VK → Prop := fun vs H Q => ∃ (p : Addr) (x y : Int), vs = [V.ref p] ∧ SqT K H p [.int x, .int y] ∧ Q (.int (max x y)) H
def rMinT (K : PySem.W.Frag) : List V → Hp → VK → Prop := fun vs H Q => ∃ (p : Addr) (x y : Int), vs = [V.ref p] ∧ SqT K H p [.int x, .int y] ∧ Q (.int (min x y)) H
theorem maxTK {X : Cx} (K : PySem.W.Frag) (h : X.K = K := by rfl) (hc : X.calm = true := by rfl) : CallR X (.builtin "max") (rMaxT K) := by
  subst h
  rintro pins sh σ H _ us Q I rel ⟨p, x, y, rfl, hp, want⟩
  obtain ⟨its, rv, tup, _⟩ := I.tuple hp
  obtain ⟨_, _, rfl, ⟨tx, rfl⟩, ⟨ty, rfl⟩⟩ := vals2 rv
  rw [Vals.ref1 rel]
  refine call_max_walk (pair_walk (I.ok.hd hc) tup (CmpOf.ints_gt (fun i => if i = 0 then x else y) fun i v hv => ?_) fun v hh tt hv keep => ?_)
  · match i, hv with
    | 0, hv => exact ⟨tx, (Option.some.inj hv).symm⟩
    | 1, hv => exact ⟨ty, (Option.some.inj hv).symm⟩
    | _ + 2, hv => simp at hv
  · refine ⟨.int (max x y), H, I.kept keep, ?_, want⟩
    rcases hv with ⟨rfl, z⟩ | ⟨rfl, z⟩
    · have z2 : ¬ y > x := of_decide_eq_false z
      exact ⟨tx, by rw [show max x y = x by omega]⟩
    · have z2 : y > x := of_decide_eq_true z
      exact ⟨ty, by rw [show max x y = y by omega]⟩
theorem minTK {X : Cx} (K : PySem.W.Frag) (h : X.K = K := by rfl) (hc : X.calm = true := by rfl) : CallR X (.builtin "min") (rMinT K) := by
  subst h
  rintro pins sh σ H _ us Q I rel ⟨p, x, y, rfl, hp, want⟩
  obtain ⟨its, rv, tup, _⟩ := I.tuple hp
  obtain ⟨_, _, rfl, ⟨tx, rfl⟩, ⟨ty, rfl⟩⟩ := vals2 rv
  rw [Vals.ref1 rel]
  refine call_min_walk (pair_walk (I.ok.hd hc) tup (CmpOf.ints_lt (fun i => if i = 0 then x else y) fun i v hv => ?_) fun v hh tt hv keep => ?_)
  · match i, hv with
    | 0, hv => exact ⟨tx, (Option.some.inj hv).symm⟩
    | 1, hv => exact ⟨ty, (Option.some.inj hv).symm⟩
    | _ + 2, hv => simp at hv
  · refine ⟨.int (min x y), H, I.kept keep, ?_, want⟩
    rcases hv with ⟨rfl, z⟩ | ⟨rfl, z⟩
    · have z2 : ¬ y < x := of_decide_eq_false z
      exact ⟨tx, by rw [show min x y = x by omega]⟩
    · have z2 : y < x := of_decide_eq_true z
      exact ⟨ty, by rw [show min x y = y by omega]⟩
/-! ### how many unlike numbers -/
theorem firstMet_facts (val : Nat → Int) : ∀ i, (firstMet val i).Nodup ∧ ∀ x, x ∈ firstMet val i ↔ ∃ j, j < i ∧ val j = x
  | 0 => by
    rw [firstMet_zero]
    exact ⟨List.nodup_nil, fun x => ⟨fun h => by simp at h, fun ⟨j, h, _⟩ => by omega⟩⟩
  | i + 1 => by
    obtain ⟨h1, h2⟩ := firstMet_facts val i
    have e : firstMet val (i + 1) = if (firstMet val i).any (· == val i) then firstMet val i else firstMet val i ++ [val i] := by rw [firstMet_succ]; rfl
    rw [e]
    by_cases hb : (firstMet val i).any (· == val i) = true
    · rw [if_pos hb]
      refine ⟨h1, fun x => ⟨fun hx => ?_, fun ⟨j, hj, ej⟩ => ?_⟩⟩
      · obtain ⟨j, hj, ej⟩ := (h2 x).mp hx
        exact ⟨j, by omega, ej⟩
      · by_cases hji : j < i
        · exact (h2 x).mpr ⟨j, hji, ej⟩
        · have : j = i := by omega
          subst this
          obtain ⟨y, hy, ey⟩ := List.any_eq_true.mp hb
          have ey2 : y = val j := eq_of_beq ey
          rw [← ej, ← ey2]
          exact hy
    · rw [if_neg hb]
      have hni : val i ∉ firstMet val i := fun hm => hb (List.any_eq_true.mpr ⟨_, hm, beq_self_eq_true _⟩)
      refine ⟨?_, fun x => ⟨fun hx => ?_, fun ⟨j, hj, ej⟩ => ?_⟩⟩
      · rw [List.nodup_append]
        refine ⟨h1, by simp, fun a ha b hb' e2 => ?_⟩
        have e3 : b = val i := by simpa using hb'
        exact hni (by rw [← e3, ← e2]; exact ha)
      · rcases List.mem_append.mp hx with hx | hx
        · obtain ⟨j, hj, ej⟩ := (h2 x).mp hx
          exact ⟨j, by omega, ej⟩
        · have e3 : x = val i := by simpa using hx
          exact ⟨i, by omega, e3.symm⟩
      · by_cases hji : j < i
        · exact List.mem_append_left _ ((h2 x).mpr ⟨j, hji, ej⟩)
        · have : j = i := by omega
          subst this
          rw [← ej]
          exact List.mem_append_right _ (List.mem_singleton.mpr rfl)
theorem firstMet_list (ns : List Int) : (firstMet (fun i => ns.getD i 0) ns.length).Nodup ∧ ∀ x, x ∈ firstMet (fun i => ns.getD i 0) ns.length ↔ x ∈ ns := by
  obtain ⟨h1, h2⟩ := firstMet_facts (fun i => ns.getD i 0) ns.length
  refine ⟨h1, fun x => (h2 x).trans ⟨fun ⟨j, hj, ej⟩ => ?_, fun hx => ?_⟩⟩
  · rw [← ej]
    show ns.getD j 0 ∈ ns
    rw [List.getD_eq_getElem?_getD, List.getElem?_eq_getElem hj]
    exact List.getElem_mem hj
  · obtain ⟨j, hj, ej⟩ := List.mem_iff_getElem.mp hx
    refine ⟨j, hj, ?_⟩
    show ns.getD j 0 = x
    rw [List.getD_eq_getElem?_getD, List.getElem?_eq_getElem hj]
    exact ej
/-- set(xs): a new set of what is in xs -/
def rSetL (K : PySem.W.Frag) : List V → Hp → VK → Prop := fun vs H Q => ∃ (l : Addr) (ns : List Int), vs = [.ref l] ∧ SqL K H l (ns.map V.int) ∧ ns.length ≤ 4000 ∧ ∀ (p : Addr) (d : List Int), H p = none → d.Nodup → (∀ x, x ∈ d ↔ x ∈ ns) → d.length ≤ ns.length → Q (.ref p) (upd H p (.set (fun k => d.any (· == k)) d.length))
theorem setLK {X : Cx} (K : PySem.W.Frag) (h : X.K = K := by rfl) (hc : X.calm = true := by rfl) : CallR X (.type "set") (rSetL K) := by
  subst h
  rintro pins sh σ H _ us Q I rel ⟨l, ns, rfl, hl, small, want⟩
  obtain ⟨its, rv, pl, _⟩ := I.list hl
  have len : its.length = ns.length := by simpa using rv.length.symm
  obtain ⟨u1, u2⟩ := firstMet_list ns
  rw [Vals.ref1 rel]
  have size : its.toArray.size = ns.length := by simpa using len
  apply call_set_list (I.ok.hd hc) pl.isList (ns := ns) (by simpa using rv.ints) (by rw [size]; unfold scanBound; omega)
  intro hh tt new keep
  rw [size] at new
  exact ⟨.ref _, _, I.laid (o := .set _ _) (fun c o ho => keep c o (Heap.lt_size ho) ho) (Nat.le_refl _) new, rfl, want _ _ (I.hok.fresh (Nat.le_refl _)) u1 u2 (firstMet_length_le _ _)⟩
/-- len of such a set -/
def rLenZ : List V → Hp → VK → Prop := fun vs H Q => ∃ (p : Addr) (S : Int → Bool) (n : Nat), vs = [.ref p] ∧ H p = some (.set S n) ∧ n ≤ 4000 ∧ Q (.int (n : Nat)) H
theorem lenZ {X : Cx} : CallR X (.builtin "len") rLenZ := by
  rintro pins sh σ H _ us Q I rel ⟨p, S, n, rfl, hp, small, want⟩
  rw [Vals.ref1 rel]
  obtain ⟨ob, es, ep, tb, at1, ex, dat, _, _, _, fit, num⟩ := (show sh.heap.SetOf (intKind X.prog X.w) p S n from I.hok p _ hp)
  apply call_len_set at1 ex dat fit (by omega)
  exact ⟨.int (n : Nat), H, I.tok _, ⟨_, by rw [num]⟩, want⟩
end Hc
namespace Hc
open PySem PySem.Spec PyProof.Rows L2 Evl
/-! ### instances of own classes -/
/-- an instance of C has C as its type -/
def Typ (K : PySem.W.Frag) (C : Addr) : Prop := ∀ (H : Hp) (a dx : Addr) (fs : List (Str × V)), H a = some (.ins C dx fs) → TyX K H (.ref a) (.ref C)
theorem tyx_ins {K : PySem.W.Frag} {H : Hp} {a C dx : Addr} {fs : List (Str × V)} (e : H a = some (.ins C dx fs)) (_cl : Cls K C) (y : Typ K C) : TyX K H (.ref a) (.ref C) := y H a dx fs e
end Hc
namespace Hc
open PySem PySem.Spec PyProof.Rows L2 Evl
/-! ### ranges by counts -/
theorem walk_rg0 {n : Nat} : Walk (Itr 0 n) n (fun _ => True) (fun i H x H' => H' = H ∧ x = .int ((i : Nat) : Int)) :=
  walk_range.mono (fun _ h => h) fun i H x H' _ _ y => ⟨y.1, y.2.trans (by show V.int (0 + (i : Int)) = _; rw [Int.zero_add])⟩
theorem walk_rg {a n : Nat} : Walk (Itr (a : Int) n) n (fun _ => True) (fun i H x H' => H' = H ∧ x = .int ((a + i : Nat) : Int)) :=
  walk_range.mono (fun _ h => h) fun i H x H' _ _ y => ⟨y.1, y.2.trans (by show V.int ((a : Int) + (i : Int)) = _; rw [Int.natCast_add])⟩
end Hc
namespace Hc
open PySem PySem.Spec PyProof.Rows L2 Evl
/-! ### three comparisons in a row, as a value -/
/-- one link: the next thing, the comparison, and, if it holds, what is left of the row -/
def tLink (r : R2) (tb : TE) (Nx : V → Hp → Prop) (No : Hp → Prop) (x : V) : L2.St → Hp → Prop := fun σ H => tb σ H fun y H1 => r x y H1 fun z H2 => ∃ k, z = .bl k ∧ (if k = true then Nx y H2 else No H2)
theorem link_run {X : Cx} {b : Expr} {tb : TE} {pos : Pos} {op op' : CmpOp} {ops : List CmpOp} {r : R2} {more : Sem Value} {rest : List (Sem Value)} {Nx : V → Hp → Prop} {Q : VK} {pins : List (Addr × Obj)} {sh : Shared} {σ : L2.St} {H : Hp} {x : V} {u : Value}
    (ho : OpR X (compareOp op) r) (hb : PE X b tb) (I : Inv X pins σ H sh) (rx : RelV x u) (h : tLink r tb Nx (Q (.bl false)) x σ H)
    (go : ∀ y v s' H', Inv X pins σ H' s' → RelV y v → Nx y H' → wpAny (model X.prog X.w) X.A (compareChain pos v (op' :: ops) (more :: rest)) (EP X pins σ Q) X.xe s') :
    wpAny (model X.prog X.w) X.A (compareChain pos u (op :: op' :: ops) (eval b X.env :: more :: rest)) (EP X pins σ Q) X.xe sh := by
  apply chain_link
  refine thn (hb.run pins sh σ H _ I h) ?_
  rintro v s1 ⟨y, H1, I1, ry, q1⟩
  refine thn (ho pins s1 σ H1 x y u v _ I1 rx ry q1) ?_
  rintro c s2 ⟨_, H2, I2, rc, k, rfl, q2⟩
  cases rc
  apply wpAny_truthy_bool
  by_cases hk : k = true
  · subst hk
    exact go y v s2 H2 I2 ry q2
  · have : k = false := by simpa using hk
    subst this
    exact ⟨.bl false, H2, I2, rfl, q2⟩
def tChain3 (r r' r'' : R2) (ta tb tc td : TE) : TE := fun σ H Q => ta σ H fun x H1 => tLink r tb (fun y H2 => tLink r' tc (fun w' H3 => td σ H3 fun v' H4 => r'' w' v' H4 Q) (Q (.bl false)) y σ H2) (Q (.bl false)) x σ H1
theorem pe_chain3 {X : Cx} {a b c d : Expr} {ta tb tc td : TE} {pos : Pos} {op op' op'' : CmpOp} {r r' r'' : R2} (ho : OpR X (compareOp op) r) (ho' : OpR X (compareOp op') r') (ho'' : OpR X (compareOp op'') r'') (ha : PE X a ta) (hb : PE X b tb) (hc : PE X c tc) (hd : PE X d td)
    (hm : lastMarks [op, op', op''] [b, c, d] = false := by with_unfolding_all rfl) : PE X (.Compare a [op, op', op''] [b, c, d] pos) (tChain3 r r' r'' ta tb tc td) := by
  constructor
  intro pins sh σ H Q I h
  apply Compare_chain (hm := hm)
  refine thn (ha.run pins sh σ H _ I h) ?_
  rintro u s1 ⟨x, H1, I1, rx, q1⟩
  refine link_run ho hb I1 rx q1 fun y v s2 H2 I2 ry q2 => link_run ho' hc I2 ry q2 fun w' z s3 H3 I3 rz q3 => chain_last ?_
  exact thn (hd.run pins s3 σ H3 _ I3 q3) fun e s4 ⟨v', H4, I4, rv, q4⟩ => ho'' pins s4 σ H4 w' v' z e Q I4 rz rv q4
end Hc
namespace Hc
open PySem PySem.Spec PyProof.Rows L2 Evl
theorem BalsN.exB {H0 H H' : Hp} {x D : Addr} {ts ls : List Addr} {bs : List (List Nat × Int)} (B : BalsN H0 H D ts ls bs) (hx : H0 x ≠ none) (e : ExB x H H') : BalsN H0 H' D ts ls bs := by
  have nD : D ≠ x := fun q => hx (q ▸ B.fD)
  refine ⟨e _ _ nD B.top, B.lt, B.ll, fun i t l b ht hl hb => ?_, B.nd, B.fl, B.ft, B.fD⟩
  obtain ⟨h1, h2⟩ := B.at_ i t l b ht hl hb
  exact ⟨e _ _ (fun q => hx (q ▸ B.ft t (List.mem_of_getElem? ht))) h1, e _ _ (fun q => hx (q ▸ B.fl l (List.mem_of_getElem? hl))) h2⟩
theorem BalsN.mono {H0 H H' : Hp} {D : Addr} {ts ls : List Addr} {bs : List (List Nat × Int)} (B : BalsN H0 H D ts ls bs) (e : Ex H H') : BalsN H0 H' D ts ls bs :=
  ⟨e _ _ B.top, B.lt, B.ll, fun i t l b ht hl hb => ⟨e _ _ (B.at_ i t l b ht hl hb).1, e _ _ (B.at_ i t l b ht hl hb).2⟩, B.nd, B.fl, B.ft, B.fD⟩
theorem BalsN.base {Hb H0 H : Hp} {D : Addr} {ts ls : List Addr} {bs : List (List Nat × Int)} (B : BalsN H0 H D ts ls bs) (e : Ex Hb H0) : BalsN Hb H D ts ls bs :=
  ⟨B.top, B.lt, B.ll, B.at_, B.nd, fun l h => fresh_back e (B.fl l h), fun t h => fresh_back e (B.ft t h), fresh_back e B.fD⟩
end Hc
namespace Hc
open PySem PySem.Spec PyProof.Rows L2 Evl
section
variable {J : It} {n : Nat} {G : Hp → Prop} {Y : Nat → Hp → V → Hp → Prop} {g : TG} {tt : TT} {te : TE} {vs : List Nat} {σ : L2.St} {H1 : Hp} {D : Addr} {Qd : Hp → Prop}
/-- some of the items, by value -/
theorem lc_filt (w : Walk J n G Y) (hD : H1 D = none) (hn : n ≤ 90000) (hG : ∀ H, Ex H1 H → G H) (p : Nat → Bool) (v : Nat → V)
    (hs : ∀ (i : Nat) (x : V) (H H' : Hp), i < n → Ex H1 H → Y i H x H' → ∀ (A : Hp → Prop) (Qc : VK), (∀ H3, Ex H H3 → p i = false → A H3) → (∀ H4, Ex H H4 → p i = true → Qc (v i) H4) → g x (wipe σ vs) H' fun σ2 H2 => wipe σ2 vs = wipe σ vs ∧ tt σ2 H2 fun b H3 => if b = true then te σ2 H3 Qc else A H3)
    (hd : ∀ H, Ex H1 H → H D = some (.lst (((List.range n).filter p).map v)) → Qd H) :
    ∃ W : Nat → Nat → Hp → Prop, (∃ m, W 0 m (upd H1 D (.lst []))) ∧ ∀ i m H, W i m H → (J.stop i H ∧ Qd H) ∨ (J.go i H ∧ ∃ Nx : Hp → Prop, (∀ H', Nx H' → ∃ m', m' < m ∧ W (i + 1) m' H') ∧ ∀ x H', J.yld i H x H' → g x (wipe σ vs) H' fun σ2 H2 => wipe σ2 vs = wipe σ vs ∧ tt σ2 H2 fun b H3 => if b = true then te σ2 H3 fun y H4 => ∃ acc, H4 D = some (.lst acc) ∧ acc.length < sizeLine ∧ Nx (upd H4 D (.lst (acc ++ [y]))) else Nx H3) := by
  refine lc_it w (fun i H => i ≤ n ∧ Ex H1 H ∧ H D = some (.lst (((List.range i).filter p).map v))) ⟨Nat.zero_le _, Ex.new hD, upd_same⟩ (fun i H _ ⟨_, e, _⟩ => hG H e) ?_ (fun H ⟨_, e, h1⟩ => hd H e h1)
  rintro i x H H' hi ⟨_, e, h1⟩ hy
  refine hs i x H H' hi e hy _ _ (fun H3 e3 hp => ⟨hi, e.trans e3, ?_⟩) (fun H4 e4 hp => ⟨_, e4 _ _ h1, ?_, hi, (e.trans e4).mut hD, ?_⟩)
  · rw [e3 _ _ h1, List.range_succ, List.filter_append]
    simp [hp]
  · refine sz_lt ?_
    rw [List.length_map]
    have := List.length_filter_le p (List.range i)
    rw [List.length_range] at this
    omega
  · rw [upd_same, List.range_succ, List.filter_append]
    simp [hp]
end
theorem eqV_int (i j : Int) : eqV (.int i) (.int j) = (i == j) := rfl
theorem dec_int (i j : Int) : decide (V.int i = V.int j) = decide (i = j) := by
  by_cases h : i = j
  · rw [decide_eq_true h, decide_eq_true (by rw [h])]
  · rw [decide_eq_false h, decide_eq_false (fun e => h (by injection e))]
theorem dec_bl (i j : Bool) : decide (V.bl i = V.bl j) = (i == j) := by
  cases i <;> cases j <;> rfl
/-- two new ballots -/
theorem balsN_two {H0 H : Hp} {D t1 t2 l1 l2 : Addr} {b1 b2 : List Nat × Int} (top : H D = some (.lst [.ref t1, .ref t2])) (h1 : H t1 = some (.tup [.ref l1, .int b1.2])) (h2 : H l1 = some (.lst (nv b1.1))) (h3 : H t2 = some (.tup [.ref l2, .int b2.2])) (h4 : H l2 = some (.lst (nv b2.1)))
    (ne : l1 ≠ l2) (f1 : H0 l1 = none) (f2 : H0 l2 = none) (f3 : H0 t1 = none) (f4 : H0 t2 = none) (f5 : H0 D = none) : BalsN H0 H D [t1, t2] [l1, l2] [b1, b2] := by
  refine ⟨top, rfl, rfl, fun i t l b ht hl hb => ?_, ?_, fun l hl => ?_, fun t ht => ?_, f5⟩
  · match i with
    | 0 =>
      cases (show some t1 = some t from ht)
      cases (show some l1 = some l from hl)
      cases (show some b1 = some b from hb)
      exact ⟨h1, h2⟩
    | 1 =>
      cases (show some t2 = some t from ht)
      cases (show some l2 = some l from hl)
      cases (show some b2 = some b from hb)
      exact ⟨h3, h4⟩
    | k + 2 => simp at ht
  · simp [ne]
  · rcases List.mem_cons.mp hl with rfl | hl
    · exact f1
    · have e : l = l2 := by simpa using hl
      rw [e]
      exact f2
  · rcases List.mem_cons.mp ht with rfl | ht
    · exact f3
    · have e : t = t2 := by simpa using ht
      rw [e]
      exact f4
theorem ne_of_fresh {H : Hp} {a b : Addr} {o : HO} (h : H a = some o) (hb : H b = none) : a ≠ b := fun e => by
  rw [e, hb] at h
  cases h
theorem paired_of {K : PySem.W.Frag} {H : Hp} : ∀ (ts ls : List Addr) (bs : List (List Nat × Int)), ts.length = bs.length → ls.length = bs.length → (∀ (i : Nat) (t l : Addr) (b : List Nat × Int), ts[i]? = some t → ls[i]? = some l → bs[i]? = some b → H t = some (.tup [.ref l, .int b.2]) ∧ H l = some (.lst (nv b.1))) → Paired (BalR K H) (ts.map V.ref) bs
  | [], _, [], _, _, _ => .nil
  | [], _, _ :: _, hl, _, _ => by simp at hl
  | _ :: _, _, [], hl, _, _ => by simp at hl
  | _ :: _, [], _ :: _, _, hl, _ => by simp at hl
  | t :: ts, l :: ls, b :: bs, hl, hl2, h => by
    obtain ⟨q1, q2⟩ := h 0 t l b rfl rfl rfl
    exact .cons ⟨t, l, rfl, st_of q1, sq_of q2⟩ (paired_of ts ls bs (by simpa using hl) (by simpa using hl2) fun i t' l' b' a1 a2 a3 => h (i + 1) t' l' b' (by simpa using a1) (by simpa using a2) (by simpa using a3))
theorem BalsN.paired {K : PySem.W.Frag} {H0 H : Hp} {D : Addr} {ts ls : List Addr} {bs : List (List Nat × Int)} (B : BalsN H0 H D ts ls bs) : Paired (BalR K H) (ts.map V.ref) bs := paired_of ts ls bs B.lt B.ll B.at_
/-- new ballots without F -/
theorem BalsN.rem {K : PySem.W.Frag} {H0 H : Hp} {F D : Addr} {ts ls : List Addr} {bs : List (List Nat × Int)} (B : BalsN H0 H D ts ls bs) (hF : H0 F ≠ none) : Paired (BalR K (Hc.rem H F)) (ts.map V.ref) bs := by
  have ne : ∀ a, H0 a = none → a ≠ F := fun a h e => hF (by rw [← e]; exact h)
  refine paired_of ts ls bs B.lt B.ll fun i t l b ht hl hb => ?_
  rw [rem_ne (ne _ (B.ft t (List.mem_of_getElem? ht))), rem_ne (ne _ (B.fl l (List.mem_of_getElem? hl)))]
  exact B.at_ i t l b ht hl hb
end Hc
namespace Hc
open PySem PySem.Spec PyProof.Rows L2 Evl
theorem ex_made {H : Hp} {x dx C : Addr} (nx : H x = none) (ndx : H dx = none) (ne : dx ≠ x) : Ex H (upd (upd H dx (.own x)) x (.ins C dx [])) := (Ex.new ndx).trans (Ex.new (by rw [upd_ne ne.symm]; exact nx))
theorem ex_after {H H3 : Hp} {x dx C : Addr} (nx : H x = none) (ndx : H dx = none) (ne : dx ≠ x) (eB : ExB x (upd (upd H dx (.own x)) x (.ins C dx [])) H3) : Ex H H3 := fun a o ha => eB a o (ne_of_fresh ha nx) (ex_made nx ndx ne a o ha)
end Hc
namespace Hc
open PySem PySem.Spec PyProof.Rows L2 Evl
/-! ### ballots whose lists are the program's own -/
def BalW (H : Hp) (x : V) (b : List Nat × Int) : Prop := ∃ (t l : Addr), x = .ref t ∧ H t = some (.tup [.ref l, .int b.2]) ∧ H l = some (.lst (nv b.1))
def BalsW (H : Hp) (v : V) (bs : List (List Nat × Int)) : Prop := ∃ (a : Addr) (xs : List V), v = .ref a ∧ H a = some (.lst xs) ∧ Paired (BalW H) xs bs
section
variable {K : PySem.W.Frag} {H H' : Hp} {v x : V} {bs : List (List Nat × Int)} {b : List Nat × Int}
theorem BalW.mono (h : BalW H x b) (e : Ex H H') : BalW H' x b := by
  obtain ⟨t, l, h1, h2, h3⟩ := h
  exact ⟨t, l, h1, e _ _ h2, e _ _ h3⟩
theorem BalsW.mono (h : BalsW H v bs) (e : Ex H H') : BalsW H' v bs := by
  obtain ⟨a, xs, h1, h2, h3⟩ := h
  exact ⟨a, xs, h1, e _ _ h2, Paired.mapP h3 fun _ _ q => q.mono e⟩
theorem BalW.rd (h : BalW H x b) : BalR K H x b := by
  obtain ⟨t, l, h1, h2, h3⟩ := h
  exact ⟨t, l, h1, st_of h2, sq_of h3⟩
theorem BalsW.rd (h : BalsW H v bs) : BalsR K H v bs := by
  obtain ⟨a, xs, h1, h2, h3⟩ := h
  exact ⟨a, xs, h1, sq_of h2, Paired.mapP h3 fun _ _ q => q.rd⟩
end
theorem pairedW_of {H : Hp} : ∀ (ts ls : List Addr) (bs : List (List Nat × Int)), ts.length = bs.length → ls.length = bs.length → (∀ (i : Nat) (t l : Addr) (b : List Nat × Int), ts[i]? = some t → ls[i]? = some l → bs[i]? = some b → H t = some (.tup [.ref l, .int b.2]) ∧ H l = some (.lst (nv b.1))) → Paired (BalW H) (ts.map V.ref) bs
  | [], _, [], _, _, _ => .nil
  | [], _, _ :: _, hl, _, _ => by simp at hl
  | _ :: _, _, [], hl, _, _ => by simp at hl
  | _ :: _, [], _ :: _, _, hl, _ => by simp at hl
  | t :: ts, l :: ls, b :: bs, hl, hl2, h => by
    obtain ⟨q1, q2⟩ := h 0 t l b rfl rfl rfl
    exact .cons ⟨t, l, rfl, q1, q2⟩ (pairedW_of ts ls bs (by simpa using hl) (by simpa using hl2) fun i t' l' b' a1 a2 a3 => h (i + 1) t' l' b' (by simpa using a1) (by simpa using a2) (by simpa using a3))
theorem BalsN.w {H0 H : Hp} {D : Addr} {ts ls : List Addr} {bs : List (List Nat × Int)} (B : BalsN H0 H D ts ls bs) : BalsW H (.ref D) bs := ⟨D, _, rfl, B.top, pairedW_of ts ls bs B.lt B.ll B.at_⟩
end Hc
namespace Hc
open PySem PySem.Spec PyProof.Rows L2 Evl
theorem rowV_take {n i : Nat} {g : Nat → Int} (h : i ≤ n) : (rowV n g).take i = rowV i g := by
  unfold rowV
  rw [← List.map_take, List.take_range, Nat.min_eq_left h]
end Hc
namespace Hc
open PySem PySem.Spec PyProof.Rows L2 Evl
/-! ### told ballots, the first one's line made longer, one more behind -/
theorem balsN_neB {H0 H : Hp} {B : Addr} {ts ls : List Addr} {bs : List (List Nat × Int)} (BN : BalsN H0 H B ts ls bs) {i : Nat} {l : Addr} (hl : ls[i]? = some l) : l ≠ B := fun e => by
  subst e
  have hi : i < ls.length := (List.getElem?_eq_some_iff.mp hl).1
  have hb : i < bs.length := by rw [← BN.ll]; exact hi
  have ht : i < ts.length := by rw [BN.lt]; exact hb
  obtain ⟨_, h2⟩ := BN.at_ i _ l _ (List.getElem?_eq_getElem ht) hl (List.getElem?_eq_getElem hb)
  rw [BN.top] at h2
  have h3 : ts.map V.ref = nv bs[i].1 := by injection Option.some.inj h2
  cases hts : ts with
  | nil => rw [hts] at ht; simp at ht
  | cons t0 ts' =>
    rw [hts] at h3
    unfold nv at h3
    cases hb1 : bs[i].1 with
    | nil => rw [hb1] at h3; simp at h3
    | cons k ks =>
      rw [hb1] at h3
      simp at h3
theorem balsW_bent {H0 H H' : Hp} {B tp p : Addr} {ts ls : List Addr} {bs : List (List Nat × Int)} (BN : BalsN H0 H B ts ls bs) (hB : H' B = some (.lst (ts.map V.ref ++ [.ref tp]))) (htp : H' tp = some (.tup [.ref p, .int 1])) (hp : H' p = some (.lst (nv [0])))
    (hl : ∀ l b, ls[0]? = some l → bs[0]? = some b → H' l = some (.lst (nv (b.1 ++ [0])))) (hk : ∀ a o, a ≠ B → ls[0]? ≠ some a → H a = some o → H' a = some o) :
    BalsW H' (.ref B) ((bs.take 1).map (fun b => (b.1 ++ [0], b.2)) ++ bs.drop 1 ++ [([0], 1)]) := by
  refine ⟨B, _, rfl, hB, Paired.append ?_ (.cons ⟨tp, p, rfl, htp, hp⟩ .nil)⟩
  cases hbs : bs with
  | nil =>
    have h1 := BN.lt
    rw [hbs] at h1
    have h2 : ts = [] := List.length_eq_zero_iff.mp h1
    rw [h2]
    exact .nil
  | cons b0 bs' =>
    subst hbs
    have h1 := BN.lt
    have h2 := BN.ll
    cases hts : ts with
    | nil => rw [hts] at h1; simp at h1
    | cons t0 ts' =>
      cases hls : ls with
      | nil => rw [hls] at h2; simp at h2
      | cons l0 ls' =>
        subst hts hls
        have ne0 : ∀ {i : Nat} {t : Addr}, (t0 :: ts')[i]? = some t → t ≠ B ∧ (l0 :: ls')[0]? ≠ some t := fun {i t} ht => by
          have hi : i < (t0 :: ts').length := (List.getElem?_eq_some_iff.mp ht).1
          obtain ⟨q1, q2⟩ := BN.at_ i t _ _ ht (List.getElem?_eq_getElem (by omega : i < (l0 :: ls').length)) (List.getElem?_eq_getElem (by omega : i < (b0 :: bs').length))
          refine ⟨fun e => ?_, fun e => ?_⟩
          · rw [e, BN.top] at q1
            cases q1
          · have e2 : l0 = t := by simpa using e
            obtain ⟨_, q4⟩ := BN.at_ 0 t0 l0 b0 rfl rfl rfl
            rw [e2, q1] at q4
            cases q4
        refine .cons ⟨t0, l0, rfl, ?_, hl l0 b0 rfl rfl⟩ (pairedW_of ts' ls' bs' (by simpa using h1) (by simpa using h2) fun i t l b a1 a2 a3 => ?_)
        · obtain ⟨q1, q2⟩ := BN.at_ 0 t0 l0 b0 rfl rfl rfl
          exact hk _ _ (ne0 (i := 0) rfl).1 (ne0 (i := 0) rfl).2 q1
        · obtain ⟨q1, q2⟩ := BN.at_ (i + 1) t l b (by simpa using a1) (by simpa using a2) (by simpa using a3)
          have n1 := ne0 (i := i + 1) (t := t) (by simpa using a1)
          refine ⟨hk _ _ n1.1 n1.2 q1, hk _ _ (balsN_neB BN (i := i + 1) (by simpa using a2)) (fun e => ?_) q2⟩
          have e2 : l0 = l := by simpa using e
          have := nd_ix BN.nd (i := 0) (j := i + 1) (x := l) (by simpa using e) (by simpa using a2)
          omega
def dLines (bs : List (List Nat × Int)) : PyData := .list (bs.map fun b => .list (b.1.map fun (k : Nat) => .int (k : Int)))
theorem lay_line (ks : List Nat) : (PyData.list (ks.map fun (k : Nat) => .int (k : Int))).canLay0 = true := lay_list _ fun d hd => by
  obtain ⟨j, _, rfl⟩ := List.mem_map.mp hd
  exact lay_int _
theorem lay_lines (bs : List (List Nat × Int)) : (dLines bs).canLay0 = true := lay_list _ fun d hd => by
  obtain ⟨j, _, rfl⟩ := List.mem_map.mp hd
  exact lay_line _
theorem shaped_lines (bs : List (List Nat × Int)) : SeqAt.shaped (dLines bs) = true := shaped_of (lay_lines bs) (depth_list (k := 1) fun d hd => by
  obtain ⟨j, _, rfl⟩ := List.mem_map.mp hd
  refine depth_list (k := 0) fun e he => ?_
  obtain ⟨i, _, rfl⟩ := List.mem_map.mp he
  exact depth_int _) (by decide)
theorem dp_nv {K : PySem.W.Frag} {H : Hp} {a : Addr} {ks : List Nat} (h : SqL K H a (nv ks)) : Dp K H (.ref a) (.list (ks.map fun (k : Nat) => .int (k : Int))) := by
  rw [nv_iv] at h
  have e := dp_ints h
  rw [List.map_map] at e
  exact e
theorem dp_lines {K : PySem.W.Frag} {H : Hp} {a : Addr} {ps : List Addr} {bs : List (List Nat × Int)} (h : H a = some (.lst (ps.map V.ref))) (hl : ps.length = bs.length) (hp : ∀ (i : Nat) (p : Addr) (b : List Nat × Int), ps[i]? = some p → bs[i]? = some b → H p = some (.lst (nv b.1))) : Dp K H (.ref a) (dLines bs) := by
  refine .lst (sq_of h) (dpAll_of (by rw [List.length_map, List.length_map, hl]) fun i x d hx hd => ?_)
  rw [List.getElem?_map] at hx hd
  cases e : ps[i]? with
  | none => rw [e] at hx; cases hx
  | some p =>
    rw [e] at hx
    cases hx
    cases e2 : bs[i]? with
    | none => rw [e2] at hd; cases hd
    | some b =>
      rw [e2] at hd
      cases hd
      exact dp_nv (sq_of (hp i p b e e2))
theorem ecut1 (l : List Addr) : cutV (l.map V.ref) (some 1) none = (l.drop 1).map V.ref := by
  rw [show (1 : Int) = ((1 : Nat) : Int) from rfl, cut_from, List.map_drop]
theorem ecut0 (l : List Addr) : cutV (l.map V.ref) none (some 1) = (l.take 1).map V.ref := by
  rw [show (1 : Int) = ((1 : Nat) : Int) from rfl, cut_to, List.map_take]
end Hc
namespace Hc
open PySem PySem.Spec PyProof.Rows L2 Evl
theorem fldK {X : Cx} {e : Expr} {ta : TE} {f : Str} {pos : Pos} (K : PySem.W.Frag) (he : PE X e ta) (hb : attributeBase e f X.env (eval e X.env) = eval e X.env := by rfl) (h : X.K = K := by rfl) : PE X (.Attribute e f pos) (tFld K ta f) := by
  cases h
  exact pe_fld he hb
end Hc
namespace Hc
open PySem PySem.Spec PyProof.Rows L2 Evl
theorem rowV_reverse {n : Nat} {g : Nat → Int} : (rowV n g).reverse = rowV n (fun j => g (n - 1 - j)) := by
  apply List.ext_getElem?
  intro j
  by_cases hj : j < n
  · rw [List.getElem?_reverse (by rw [rowV_length]; exact hj), rowV_length, rowV_get (by omega), rowV_get hj]
  · rw [List.getElem?_eq_none (by rw [List.length_reverse, rowV_length]; omega), List.getElem?_eq_none (by rw [rowV_length]; omega)]
/-! ### written tables -/
def litF (ls : List (List Int)) (i j : Nat) : Int := (ls.getD i []).getD j 0
theorem rowV_lit {n : Nat} {l : List Int} (h : l.length = n) : rowV n (fun j => l.getD j 0) = iv l := by
  apply List.ext_getElem?
  intro j
  by_cases hj : j < n
  · unfold iv
    rw [rowV_get hj, List.getElem?_map, List.getElem?_eq_getElem (by omega), List.getD_eq_getElem?_getD, List.getElem?_eq_getElem (by omega)]
    rfl
  · rw [List.getElem?_eq_none (by rw [rowV_length]; omega), List.getElem?_eq_none (by rw [iv_length]; omega)]
theorem tabR_lit {K : PySem.W.Frag} {H : Hp} {t : Addr} {rs : List Addr} (ls : List (List Int)) (top : H t = some (.lst (rs.map V.ref))) (hsq : ∀ l ∈ ls, l.length = ls.length) (hr : Paired (fun r l => H r = some (.lst (iv l))) rs ls) : TabR K H (.ref t) ls.length (litF ls) := by
  refine ⟨t, rs, rfl, Paired.len hr, sq_of top, fun i r h => ?_⟩
  obtain ⟨l, h1, h2⟩ := Paired.get hr h
  have e : rowV ls.length (litF ls i) = iv l := by
    rw [← rowV_lit (hsq l (List.mem_of_getElem? h1))]
    refine rowV_congr fun j _ => ?_
    unfold litF
    rw [show ls.getD i [] = l by rw [List.getD_eq_getElem?_getD, h1]; rfl]
  rw [e]
  exact sq_of h2
end Hc
namespace Hc
open PySem PySem.Spec PyProof.Rows L2 Evl
theorem catTK {X : Cx} (K : PySem.W.Frag) (h : X.K = K := by rfl) : OpR X (binaryOp .Add) (rCatT K) := by cases h; exact op_catT
theorem ex_rem {H H' : Hp} {F : Addr} (e : Ex H H') (hF : H F = none) : Ex H (rem H' F) := fun a o ha => by
  rw [rem_ne (ne_of_fresh ha hF)]
  exact e a o ha
end Hc
namespace Hc
open PySem PySem.Spec PyProof.Rows L2 Evl
/-! ### a list of lists of ballots that grows -/
def GoodB (H : Hp) (x : V) : Prop := ∃ bs, BalsW H x bs ∧ bs.length ≤ 100 ∧ ∀ b ∈ bs, b.1.length < 60
theorem GoodB.mono {H H' : Hp} {x : V} (h : GoodB H x) (e : Ex H H') : GoodB H' x := by
  obtain ⟨bs, h1, h2, h3⟩ := h
  exact ⟨bs, h1.mono e, h2, h3⟩
def Tried (H : Hp) (F : Addr) (k : Nat) : Prop := ∃ xs, H F = some (.lst xs) ∧ xs.length ≤ k ∧ ∀ x ∈ xs, GoodB (rem H F) x
theorem Tried.push {H' H'' : Hp} {F : Addr} {k : Nat} {xs : List V} {p : V} (hl : xs.length ≤ k) (h : ∀ x ∈ xs, GoodB (rem H' F) x) (e : Ex H' H'') (hp : GoodB (rem H'' F) p) : Tried (upd H'' F (.lst (xs ++ [p]))) F (k + 1) := by
  refine ⟨_, upd_same, by rw [List.length_append]; show _ + 1 ≤ _; omega, fun x hx => ?_⟩
  rw [rem_upd]
  rcases List.mem_append.mp hx with hx | hx
  · exact (h x hx).mono (rem_mono e)
  · have : x = p := by simpa using hx
    rw [this]
    exact hp
theorem BalsN.remW {H0 H : Hp} {F D : Addr} {ts ls : List Addr} {bs : List (List Nat × Int)} (B : BalsN H0 H D ts ls bs) (hF : H0 F ≠ none) : BalsW (Hc.rem H F) (.ref D) bs := by
  have ne : ∀ a, H0 a = none → a ≠ F := fun a h e => hF (by rw [← e]; exact h)
  refine ⟨D, _, rfl, by rw [rem_ne (ne _ B.fD)]; exact B.top, pairedW_of ts ls bs B.lt B.ll fun i t l b ht hl hb => ?_⟩
  rw [rem_ne (ne _ (B.ft t (List.mem_of_getElem? ht))), rem_ne (ne _ (B.fl l (List.mem_of_getElem? hl)))]
  exact B.at_ i t l b ht hl hb
/-- ballots and more behind -/
theorem goodB_cat {H : Hp} {a : Addr} {xs ys : List V} {bs cs : List (List Nat × Int)} (h : H a = some (.lst (xs ++ ys))) (h1 : Paired (BalW H) xs bs) (h2 : Paired (BalW H) ys cs) (hl : bs.length + cs.length ≤ 100) (k1 : ∀ b ∈ bs, b.1.length < 60) (k2 : ∀ b ∈ cs, b.1.length < 60) : GoodB H (.ref a) :=
  ⟨bs ++ cs, ⟨a, _, rfl, h, Paired.append h1 h2⟩, by rw [List.length_append]; exact hl, fun b hb => (List.mem_append.mp hb).elim (k1 b) (k2 b)⟩
theorem rep_nv (n : Nat) : (List.replicate n [V.int 0]).flatten = nv (List.replicate n 0) := by
  unfold nv
  rw [List.map_replicate]
  induction n with
  | zero => rfl
  | succ n ih => rw [List.replicate_succ, List.flatten_cons, ih, List.replicate_succ]; rfl
end Hc
namespace Hc
open PySem PySem.Spec PyProof.Rows L2 Evl
theorem named {H H' : Hp} (e : Ex H H') : ∃ H5, H5 = H' := ⟨_, rfl⟩
end Hc

/-! Plain laws of rings and of lists without a thing twice: no program in sight. -/
namespace Hc
theorem perm_of_sub : ∀ (d l : List Int), d.Nodup → (∀ x ∈ d, x ∈ l) → l.length ≤ d.length → d.Perm l
  | [], l, _, _, hl => by
    have : l = [] := List.length_eq_zero_iff.mp (by simpa using hl)
    rw [this]
  | x :: d, l, hd, hs, hl => by
    rw [List.nodup_cons] at hd
    have hx : x ∈ l := hs x (List.mem_cons_self ..)
    have h1 : l.Perm (x :: l.erase x) := List.perm_cons_erase hx
    have h2 : d.Perm (l.erase x) := by
      refine perm_of_sub d (l.erase x) hd.2 (fun y hy => ?_) ?_
      · have hy2 : y ∈ l := hs y (List.mem_cons_of_mem _ hy)
        have hne : y ≠ x := fun e => hd.1 (e ▸ hy)
        exact (List.mem_erase_of_ne hne).mpr hy2
      · rw [List.length_erase_of_mem hx]
        have : l.length ≤ d.length + 1 := by simpa using hl
        omega
    exact (h2.cons x).trans h1.symm
theorem sub_len (d l : List Int) (hd : d.Nodup) (hs : ∀ x ∈ d, x ∈ l) : d.length ≤ l.length := by
  induction d generalizing l with
  | nil => simp
  | cons x d ih =>
    rw [List.nodup_cons] at hd
    have hx : x ∈ l := hs x (List.mem_cons_self ..)
    have h2 := ih (l.erase x) hd.2 (fun y hy => by
      have hy2 : y ∈ l := hs y (List.mem_cons_of_mem _ hy)
      have hne : y ≠ x := fun e => hd.1 (e ▸ hy)
      exact (List.mem_erase_of_ne hne).mpr hy2)
    rw [List.length_erase_of_mem hx] at h2
    have := List.length_pos_of_mem hx
    rw [List.length_cons]
    omega
theorem set_len {d l : List Int} (hd : d.Nodup) (hm : ∀ x, x ∈ d ↔ x ∈ l) : d.length = l.length ↔ l.Nodup := by
  constructor
  · intro h
    exact (perm_of_sub d l hd (fun x hx => (hm x).mp hx) (by omega)).nodup hd
  · intro h
    exact ((List.perm_ext_iff_of_nodup hd h).mpr hm).length_eq
/-! ### around -/
def at0 (ns : List Int) (i : Nat) : Int := ns.getD i 0
def ringBack (f : Nat → Nat → Int) (ns : List Int) : Bool := (List.range ns.length).all fun i => decide (0 < f (at0 ns (if i = 0 then ns.length - 1 else i - 1)).toNat (at0 ns i).toNat)
def ringFore (f : Nat → Nat → Int) (ns : List Int) : Bool := (List.range ns.length).all fun i => decide (0 < f (at0 ns i).toNat (at0 ns (if i + 1 = ns.length then 0 else i + 1)).toNat)
theorem ring_turn (f : Nat → Nat → Int) (ns : List Int) : ringBack f ns = ringFore f ns := by
  unfold ringBack ringFore
  rw [Bool.eq_iff_iff, List.all_eq_true, List.all_eq_true]
  constructor
  · intro h i hi
    rw [List.mem_range] at hi
    by_cases e : i + 1 = ns.length
    · have h1 := of_decide_eq_true (h 0 (List.mem_range.mpr (by omega)))
      rw [if_pos rfl] at h1
      rw [if_pos e]
      rw [show ns.length - 1 = i by omega] at h1
      exact decide_eq_true h1
    · have h1 := of_decide_eq_true (h (i + 1) (List.mem_range.mpr (by omega)))
      rw [if_neg (by omega), show i + 1 - 1 = i by omega] at h1
      rw [if_neg e]
      exact decide_eq_true h1
  · intro h i hi
    rw [List.mem_range] at hi
    by_cases e : i = 0
    · subst e
      have h1 := of_decide_eq_true (h (ns.length - 1) (List.mem_range.mpr (by omega)))
      rw [if_pos (by omega)] at h1
      rw [if_pos rfl]
      exact decide_eq_true h1
    · have h1 := of_decide_eq_true (h (i - 1) (List.mem_range.mpr (by omega)))
      rw [if_neg (by omega), show i - 1 + 1 = i by omega] at h1
      rw [if_neg e]
      exact decide_eq_true h1
def inB (n : Nat) (k : Int) : Bool := decide (0 ≤ k) && decide (k < (n : Int))
def shN (n : Nat) (f : Nat → Nat → Int) (w : Int) : Bool := inB n w && (List.range n).all fun j => decide (0 ≤ f w.toNat j)
def shR (n : Nat) (f : Nat → Nat → Int) (ns : List Int) : Bool := !ns.isEmpty && (decide ns.Nodup && (ns.all (inB n) && ringBack f ns))
end Hc

/-! Plain laws of peaked orders: no program in sight. -/
namespace Hc
/-- falls off both ways: from lo to hi are taken -/
def pk : Int → Int → List Nat → Bool
  | _, _, [] => true
  | lo, hi, x :: l => if (x : Int) = lo - 1 then pk x hi l else if (x : Int) = hi + 1 then pk lo x l else false
def isPk : List Nat → Bool
  | [] => true
  | x :: l => pk x x l
/-- a peaked rest: whoever lies between what is taken and another one stands ahead of it -/
theorem pk_between : ∀ (l : List Nat) (lo hi : Int), lo ≤ hi → pk lo hi l = true → ∀ a b : Nat, b ∈ l → (hi < (a : Int) ∧ a < b) ∨ ((a : Int) < lo ∧ b < a) → ∃ p q, l = p ++ q ∧ a ∈ p ∧ b ∈ q
  | [], _, _, _, _, _, _, hb, _ => by simp at hb
  | x :: l, lo, hi, hlh, h, a, b, hb, hab => by
    unfold pk at h
    by_cases e : a = x
    · subst e
      refine ⟨[a], l, rfl, by simp, ?_⟩
      rcases List.mem_cons.mp hb with q | q
      · omega
      · exact q
    · by_cases c1 : (x : Int) = lo - 1
      · rw [if_pos c1] at h
        have hbl : b ∈ l := (List.mem_cons.mp hb).resolve_left fun q => by omega
        obtain ⟨p, q, e1, e2, e3⟩ := pk_between l x hi (by omega) h a b hbl (by omega)
        exact ⟨x :: p, q, by rw [e1]; rfl, List.mem_cons_of_mem _ e2, e3⟩
      · rw [if_neg c1] at h
        by_cases c2 : (x : Int) = hi + 1
        · rw [if_pos c2] at h
          have hbl : b ∈ l := (List.mem_cons.mp hb).resolve_left fun q => by omega
          obtain ⟨p, q, e1, e2, e3⟩ := pk_between l lo x (by omega) h a b hbl (by omega)
          exact ⟨x :: p, q, by rw [e1]; rfl, List.mem_cons_of_mem _ e2, e3⟩
        · rw [if_neg c2] at h
          cases h
/-- in a peaked order one between the top and another one is ahead of it -/
theorem isPk_ahead {x : Nat} {l : List Nat} (h : isPk (x :: l) = true) {a b : Nat} (hb : b ∈ x :: l) (hab : (x ≤ a ∧ a < b) ∨ (a ≤ x ∧ b < a)) : ∃ p q, x :: l = p ++ q ∧ a ∈ p ∧ b ∈ q := by
  have hbl : b ∈ l := (List.mem_cons.mp hb).resolve_left fun q => by omega
  by_cases e : a = x
  · subst e
    exact ⟨[a], l, rfl, by simp, hbl⟩
  · obtain ⟨p, q, e1, e2, e3⟩ := pk_between l x x (Int.le_refl _) h a b hbl (by omega)
    exact ⟨x :: p, q, by rw [e1]; rfl, List.mem_cons_of_mem _ e2, e3⟩
/-! ### ahead, by the count of pairs -/
theorem psum_append (i j : Nat) : ∀ p q : List Nat, psum i j (p ++ q) = psum i j p + psum i j q + (p.map fun a => dsum i j a q).sum
  | [], q => by show psum i j q = 0 + psum i j q + 0; omega
  | a :: p, q => by
    show dsum i j a (p ++ q) + psum i j (p ++ q) = dsum i j a p + psum i j p + psum i j q + (dsum i j a q + (p.map fun a => dsum i j a q).sum)
    rw [dsum_append, psum_append i j p q]
    omega
theorem dsum_none (i j a : Nat) : ∀ l : List Nat, (i ∉ l → j ∉ l → dsum i j a l = 0)
  | [], _, _ => rfl
  | b :: l, hi, hj => by
    rw [dsum_cons, dsum_none i j a l (fun h => hi (List.mem_cons_of_mem _ h)) fun h => hj (List.mem_cons_of_mem _ h)]
    have h1 : b ≠ i := fun e => hi (e ▸ List.mem_cons_self ..)
    have h2 : b ≠ j := fun e => hj (e ▸ List.mem_cons_self ..)
    unfold dlt
    rw [if_neg (fun z => h2 z.2), if_neg (fun z => h1 z.1)]
    rfl
theorem dsum_other (i j a : Nat) (hi : a ≠ i) (hj : a ≠ j) : ∀ l : List Nat, dsum i j a l = 0
  | [] => rfl
  | b :: l => by
    rw [dsum_cons, dsum_other i j a hi hj l]
    unfold dlt
    rw [if_neg (fun z => hi z.1), if_neg (fun z => hj z.2)]
    rfl
/-- an order without a thing twice, a ahead of b: one for a -/
theorem psum_ahead {a b : Nat} (hab : a ≠ b) : ∀ {l : List Nat}, l.Nodup → ∀ p q, l = p ++ q → a ∈ p → b ∈ q → psum a b l = 1
  | [], _, p, q, e, ha, _ => by
    have : p = [] := (List.append_eq_nil_iff.mp e.symm).1
    rw [this] at ha
    cases ha
  | x :: l, hd, p, q, e, ha, hb => by
    cases p with
    | nil => cases ha
    | cons y p =>
      have e2 : x = y ∧ l = p ++ q := by simpa using e
      obtain ⟨rfl, rfl⟩ := e2
      rw [List.nodup_cons] at hd
      show dsum a b x (p ++ q) + psum a b (p ++ q) = 1
      by_cases c : a = x
      · subst c
        have hbm : b ∈ p ++ q := List.mem_append_right _ hb
        have h1 : ∀ l : List Nat, l.Nodup → b ∈ l → a ∉ l → dsum a b a l = 1 := by
          intro l
          induction l with
          | nil => intro _ h _; cases h
          | cons z l ih =>
            intro hn hm hna
            rw [List.nodup_cons] at hn
            rw [dsum_cons]
            have hza : z ≠ a := fun e => hna (e ▸ List.mem_cons_self ..)
            by_cases cz : z = b
            · subst cz
              rw [dsum_none a z a l (fun h => hna (List.mem_cons_of_mem _ h)) hn.1]
              unfold dlt
              rw [if_pos ⟨rfl, rfl⟩, if_neg (fun w => hza w.1)]
              rfl
            · rw [ih hn.2 ((List.mem_cons.mp hm).resolve_left fun e => cz e.symm) fun h => hna (List.mem_cons_of_mem _ h)]
              unfold dlt
              rw [if_neg (fun w => cz w.2), if_neg (fun w => hza w.1)]
              rfl
        have h2 : ∀ l : List Nat, a ∉ l → psum a b l = 0 := by
          intro l
          induction l with
          | nil => intro _; rfl
          | cons z l ih =>
            intro hna
            show dsum a b z l + psum a b l = 0
            rw [ih fun h => hna (List.mem_cons_of_mem _ h)]
            have hza : z ≠ a := fun e => hna (e ▸ List.mem_cons_self ..)
            by_cases cz : z = b
            · subst cz
              have h3 : ∀ l : List Nat, a ∉ l → dsum a z z l = 0 := by
                intro l
                induction l with
                | nil => intro _; rfl
                | cons u l ih2 =>
                  intro hn2
                  rw [dsum_cons, ih2 fun h => hn2 (List.mem_cons_of_mem _ h)]
                  have hua : u ≠ a := fun e => hn2 (e ▸ List.mem_cons_self ..)
                  unfold dlt
                  rw [if_neg (fun w => hza w.1), if_neg (fun w => hua w.1)]
                  rfl
              rw [h3 l fun h => hna (List.mem_cons_of_mem _ h)]
              rfl
            · rw [dsum_other a b z hza cz l]
              rfl
        rw [h1 _ hd.2 hbm hd.1, h2 _ hd.1]
        rfl
      · have hap : a ∈ p := (List.mem_cons.mp ha).resolve_left c
        have hxb : x ≠ b := fun e => hd.1 (e ▸ List.mem_append_right _ hb)
        rw [dsum_other a b x (fun e => c e.symm) hxb, psum_ahead hab hd.2 p q rfl hap hb]
        rfl
theorem one_ahead {a b : Nat} (hab : a ≠ b) : ∀ {l : List Nat}, a ∈ l → b ∈ l → (∃ p q, l = p ++ q ∧ a ∈ p ∧ b ∈ q) ∨ (∃ p q, l = p ++ q ∧ b ∈ p ∧ a ∈ q)
  | [], h, _ => by cases h
  | x :: l, ha, hb => by
    by_cases c1 : a = x
    · exact .inl ⟨[x], l, rfl, by simp [c1], (List.mem_cons.mp hb).resolve_left fun e => hab (c1.trans e.symm)⟩
    · by_cases c2 : b = x
      · exact .inr ⟨[x], l, rfl, by simp [c2], (List.mem_cons.mp ha).resolve_left c1⟩
      · rcases one_ahead hab ((List.mem_cons.mp ha).resolve_left c1) ((List.mem_cons.mp hb).resolve_left c2) with ⟨p, q, e, h1, h2⟩ | ⟨p, q, e, h1, h2⟩
        · exact .inl ⟨x :: p, q, by rw [e]; rfl, List.mem_cons_of_mem _ h1, h2⟩
        · exact .inr ⟨x :: p, q, by rw [e]; rfl, List.mem_cons_of_mem _ h1, h2⟩
theorem psum_low {a b : Nat} (hab : a ≠ b) {l : List Nat} (hd : l.Nodup) (ha : a ∈ l) (hb : b ∈ l) : -1 ≤ psum a b l := by
  rcases one_ahead hab ha hb with ⟨p, q, e, h1, h2⟩ | ⟨p, q, e, h1, h2⟩
  · rw [psum_ahead hab hd p q e h1 h2]
    decide
  · have := psum_ahead (fun e => hab e.symm) hd p q e h1 h2
    rw [psum_swap b a l, this]
    decide
/-! ### the middle one's top -/
def topOf (b : List Nat × Int) : Nat := b.1.headD 0
def held (bs : List (List Nat × Int)) (w : Nat) : Int := (bs.map fun b => if topOf b ≤ w then b.2 else 0).sum
def heldB (bs : List (List Nat × Int)) (w : Nat) : Int := (bs.map fun b => if topOf b < w then b.2 else 0).sum
def wholeOf (bs : List (List Nat × Int)) : Int := (bs.map fun b => b.2).sum
theorem heldB_succ (bs : List (List Nat × Int)) (w : Nat) : heldB bs (w + 1) = held bs w := by
  unfold heldB held
  congr 1
  refine List.map_congr_left fun b _ => ?_
  by_cases h : topOf b ≤ w
  · rw [if_pos h, if_pos (by omega)]
  · rw [if_neg h, if_neg (by omega)]
/-- what is asked of each ballot -/
def PkB (n : Nat) (b : List Nat × Int) : Prop := b.1.Perm (List.range n) ∧ isPk b.1 = true ∧ 1 ≤ b.2
theorem pkB_ahead {n : Nat} {b : List Nat × Int} (h : PkB n b) {w o : Nat} (hw : w < n) (ho : o < n) (hab : (topOf b ≤ w ∧ w < o) ∨ (w ≤ topOf b ∧ o < w)) : psum w o b.1 = 1 := by
  obtain ⟨l, m⟩ := b
  cases l with
  | nil =>
    have := h.1.length_eq
    rw [List.length_range] at this
    simp at this
    omega
  | cons x l =>
    have hm : ∀ k, k < n → k ∈ x :: l := fun k hk => h.1.mem_iff.mpr (List.mem_range.mpr hk)
    obtain ⟨p, q, e, h1, h2⟩ := isPk_ahead h.2.1 (hm o ho) hab
    exact psum_ahead (by omega) (h.1.nodup_iff.mpr List.nodup_range) p q e h1 h2
theorem pkB_low {n : Nat} {b : List Nat × Int} (h : PkB n b) {w o : Nat} (hw : w < n) (ho : o < n) (hne : w ≠ o) : -1 ≤ psum w o b.1 :=
  psum_low hne (h.1.nodup_iff.mpr List.nodup_range) (h.1.mem_iff.mpr (List.mem_range.mpr hw)) (h.1.mem_iff.mpr (List.mem_range.mpr ho))
theorem cnt_high {n w o : Nat} (hw : w < n) (ho : o < n) (hwo : w < o) : ∀ bs : List (List Nat × Int), (∀ b ∈ bs, PkB n b) → 2 * held bs w - wholeOf bs ≤ cnt bs w o
  | [], _ => by show 2 * 0 - 0 ≤ 0; decide
  | b :: bs, h => by
    have ih := cnt_high hw ho hwo bs fun c hc => h c (List.mem_cons_of_mem _ hc)
    have hb := h b (List.mem_cons_self ..)
    rw [cnt_cons]
    have e1 : held (b :: bs) w = (if topOf b ≤ w then b.2 else 0) + held bs w := by unfold held; rw [List.map_cons, List.sum_cons]
    have e2 : wholeOf (b :: bs) = b.2 + wholeOf bs := by unfold wholeOf; rw [List.map_cons, List.sum_cons]
    rw [e1, e2]
    have hm := hb.2.2
    by_cases c : topOf b ≤ w
    · rw [if_pos c, pkB_ahead hb hw ho (.inl ⟨c, hwo⟩)]
      omega
    · rw [if_neg c]
      have h1 := Int.mul_le_mul_of_nonneg_left (pkB_low hb hw ho (by omega)) (show 0 ≤ b.2 by omega)
      omega
theorem cnt_below {n w o : Nat} (hw : w < n) (ho : o < n) (hwo : o < w) : ∀ bs : List (List Nat × Int), (∀ b ∈ bs, PkB n b) → wholeOf bs - 2 * heldB bs w ≤ cnt bs w o
  | [], _ => by show 0 - 2 * 0 ≤ 0; decide
  | b :: bs, h => by
    have ih := cnt_below hw ho hwo bs fun c hc => h c (List.mem_cons_of_mem _ hc)
    have hb := h b (List.mem_cons_self ..)
    rw [cnt_cons]
    have e1 : heldB (b :: bs) w = (if topOf b < w then b.2 else 0) + heldB bs w := by unfold heldB; rw [List.map_cons, List.sum_cons]
    have e2 : wholeOf (b :: bs) = b.2 + wholeOf bs := by unfold wholeOf; rw [List.map_cons, List.sum_cons]
    rw [e1, e2]
    have hm := hb.2.2
    by_cases c : topOf b < w
    · rw [if_pos c]
      have h1 := Int.mul_le_mul_of_nonneg_left (pkB_low hb hw ho (by omega)) (show 0 ≤ b.2 by omega)
      omega
    · rw [if_neg c, pkB_ahead hb hw ho (.inr ⟨by omega, hwo⟩)]
      omega
/-- nobody is ahead of the middle one's top -/
theorem middle_free {n w : Nat} {bs : List (List Nat × Int)} (hw : w < n) (hb : ∀ b ∈ bs, PkB n b) (h1 : wholeOf bs ≤ 2 * held bs w) (h2 : ∀ v, v < w → 2 * held bs v < wholeOf bs) : ∀ o, o < n → 0 ≤ cnt bs w o := fun o ho => by
  by_cases c1 : w < o
  · have := cnt_high hw ho c1 bs hb
    omega
  · by_cases c2 : o < w
    · have k1 := cnt_below hw ho c2 bs hb
      have k2 := h2 (w - 1) (by omega)
      rw [← heldB_succ, show w - 1 + 1 = w by omega] at k2
      omega
    · have e : o = w := by omega
      subst e
      have := cnt_swap bs o o
      omega
/-! ### the same by a rising list of tops -/
def sumP (l : List (Nat × Int)) : Int := (l.map fun p => p.2).sum
def heldP (l : List (Nat × Int)) (w : Nat) : Int := (l.map fun p => if p.1 ≤ w then p.2 else 0).sum
theorem sumP_append (l m : List (Nat × Int)) : sumP (l ++ m) = sumP l + sumP m := by
  unfold sumP
  rw [List.map_append, sum_append_int]
theorem heldP_append (l m : List (Nat × Int)) (w : Nat) : heldP (l ++ m) w = heldP l w + heldP m w := by
  unfold heldP
  rw [List.map_append, sum_append_int]
theorem heldP_all {w : Nat} : ∀ l : List (Nat × Int), (∀ p ∈ l, p.1 ≤ w) → heldP l w = sumP l
  | [], _ => rfl
  | a :: l, h => by
    have ih := heldP_all l fun p hp => h p (List.mem_cons_of_mem _ hp)
    unfold heldP sumP at ih ⊢
    rw [List.map_cons, List.map_cons, List.sum_cons, List.sum_cons, ih, if_pos (h a (List.mem_cons_self ..))]
theorem heldP_none {w : Nat} : ∀ l : List (Nat × Int), (∀ p ∈ l, w < p.1) → heldP l w = 0
  | [], _ => rfl
  | a :: l, h => by
    have ih := heldP_none l fun p hp => h p (List.mem_cons_of_mem _ hp)
    have ha := h a (List.mem_cons_self ..)
    unfold heldP at ih ⊢
    rw [List.map_cons, List.sum_cons, ih, if_neg (by omega)]
    rfl
theorem heldP_bounds {w : Nat} : ∀ l : List (Nat × Int), (∀ p ∈ l, 1 ≤ p.2) → 0 ≤ heldP l w ∧ heldP l w ≤ sumP l
  | [], _ => ⟨Int.le_refl _, Int.le_refl _⟩
  | a :: l, h => by
    have ih := heldP_bounds (w := w) l fun p hp => h p (List.mem_cons_of_mem _ hp)
    have ha := h a (List.mem_cons_self ..)
    unfold heldP sumP at ih ⊢
    rw [List.map_cons, List.map_cons, List.sum_cons, List.sum_cons]
    by_cases c : a.1 ≤ w
    · rw [if_pos c]
      omega
    · rw [if_neg c]
      omega
/-- the first one at which half is reached has the least such top -/
theorem first_half {pre post : List (Nat × Int)} {x : Nat × Int} {W : Int} (hpos : ∀ p ∈ pre ++ x :: post, 1 ≤ p.2) (hs : (pre ++ x :: post).Pairwise fun a b => a.1 ≤ b.1) (hlow : pre = [] ∨ 2 * sumP pre < W) (h0 : pre = [] → 0 < W) (hx : W ≤ 2 * (sumP pre + x.2)) :
    W ≤ 2 * heldP (pre ++ x :: post) x.1 ∧ ∀ v, v < x.1 → 2 * heldP (pre ++ x :: post) v < W := by
  rw [List.pairwise_append] at hs
  obtain ⟨_, h2, h3⟩ := hs
  rw [List.pairwise_cons] at h2
  have ex : ∀ w, heldP (x :: post) w = (if x.1 ≤ w then x.2 else 0) + heldP post w := fun w => by
    unfold heldP
    rw [List.map_cons, List.sum_cons]
  constructor
  · rw [heldP_append, ex, if_pos (Nat.le_refl _), heldP_all pre fun p hp => h3 p hp x (List.mem_cons_self ..)]
    have := (heldP_bounds (w := x.1) post fun p hp => hpos p (List.mem_append_right _ (List.mem_cons_of_mem _ hp))).1
    omega
  · intro v hv
    rw [heldP_append, ex, if_neg (by omega), heldP_none post fun p hp => by
      have := h2.1 p hp
      omega]
    have k := (heldP_bounds (w := v) pre fun p hp => hpos p (List.mem_append_left _ hp)).2
    rcases hlow with e | e
    · subst e
      have := h0 rfl
      have : heldP [] v = 0 := rfl
      omega
    · omega
/-- two least ones are one -/
theorem least_uniq {P : Nat → Prop} {a b : Nat} (ha : P a) (hb : P b) (la : ∀ v, v < a → ¬ P v) (lb : ∀ v, v < b → ¬ P v) : a = b := by
  by_cases c1 : a < b
  · exact absurd ha (lb a c1)
  · by_cases c2 : b < a
    · exact absurd hb (la b c2)
    · omega
theorem held_pairs (bs : List (List Nat × Int)) (w : Nat) : heldP (bs.map fun b => (topOf b, b.2)) w = held bs w := by
  unfold heldP held
  rw [List.map_map]
  rfl
theorem sumP_pairs (bs : List (List Nat × Int)) : sumP (bs.map fun b => (topOf b, b.2)) = wholeOf bs := by
  unfold sumP wholeOf
  rw [List.map_map]
  rfl
theorem sum_permI {l m : List Int} (h : l.Perm m) : l.sum = m.sum := by
  induction h with
  | nil => rfl
  | cons a _ ih => rw [List.sum_cons, List.sum_cons, ih]
  | swap a b l => rw [List.sum_cons, List.sum_cons, List.sum_cons, List.sum_cons]; omega
  | trans _ _ h1 h2 => rw [h1, h2]
theorem heldP_perm {l m : List (Nat × Int)} (h : l.Perm m) (w : Nat) : heldP l w = heldP m w := sum_permI (h.map _)
theorem sumP_perm {l m : List (Nat × Int)} (h : l.Perm m) : sumP l = sumP m := sum_permI (h.map _)
end Hc

/-! any(xs) of a list of bools while an exception is handled. -/
namespace Hc
open PySem PySem.Spec PyProof.Rows L2 HotX L2H
section
variable {prog : Program} {w : World} {A : Around} {E : Value → Shared → Prop} {s : Shared}
/-- an object is pushed behind h, then changed: what stood is kept -/
theorem grown {h : Heap} {p : Obj} {f : Obj → Obj} {b : Addr} {u : Obj} (z : h.get? b = some u) : ((h.push p).update h.objs.size f).get? b = some u :=
  (Heap.get?_update_other _ _ (Nat.ne_of_gt (Heap.lt_size z))).trans (Heap.get?_push_of_some _ z)
/-- StopIteration is raised while x1 is handled: what stood is kept -/
theorem stop_hot {α : Type} {x1 : Addr} {Q : α → Shared → Prop} (hot : HotAt A x1 s.heap)
    (q : ∀ (h' : Heap) (e : Addr) (oe : Obj), (∀ b o, s.heap.get? b = some o → h'.get? b = some o) → h'.get? e = some oe → oe.cls = .type "StopIteration" → E (.ref e) { s with heap := h' }) :
    wpAny (model prog w) A (Builtin.SmallTypes.stopIteration : Sem α) Q E s := by
  unfold Builtin.SmallTypes.stopIteration
  obtain ⟨hh, o, vs, g, d, c⟩ := hot
  have fam : firstArgMember (.type "StopIteration") [] = pure .none := by unfold firstArgMember; rfl
  apply wpAny_bind
  unfold newExc newTuple
  rw [fam]
  apply wpAny_bind
  apply wpAny_newObj_type
  rotate_left
  · size_fits
  apply wpAny_bind
  apply wpAny_pure
  apply wpAny_newObj_type
  rotate_left
  · size_fits
  have g1 := fun (p : Obj) => Heap.get?_push_of_some (h := s.heap) p g
  apply raiseNew_hot (x1 := x1) ⟨hh, o, vs, Heap.get?_push_of_some _ (g1 _), d, c⟩
  · exact Nat.ne_of_lt (Heap.lt_size (g1 _))
  · exact Heap.get?_push_size _ rfl
  · rfl
  · simp
    omega
  · exact q _ _ _ (fun b u z => grown (Heap.get?_push_of_some _ z)) (Heap.get?_update_self _ (Heap.get?_push_size _ rfl) rfl) rfl
/-- the walk of a list is over while x1 is handled -/
theorem next_end_hot {it l x1 : Addr} {i : Nat} {items : Array Value} {Q : Option Value → Shared → Prop} (hot : HotAt A x1 s.heap) (hx : x1 ≠ it) (hit : s.heap.IsListIter it l i) (hl : s.heap.IsList l items) (hi : items[i]? = none)
    (q : ∀ h', (∀ b o, b ≠ it → s.heap.get? b = some o → h'.get? b = some o) → Q none { s with heap := h' }) : wpAny (model prog w) A (pyNext (.ref it)) Q E s := by
  obtain ⟨hh, o1, vs, g, d, c⟩ := hot
  obtain ⟨o, ho, _, hd⟩ := id hit
  obtain ⟨ol, hol, _, nl, hdl⟩ := hl
  have kept : ∀ (f : Obj → Obj) (b : Addr) (u : Obj), b ≠ it → s.heap.get? b = some u → (s.heap.update it f).get? b = some u := fun f b u n z => (Heap.get?_update_other _ _ n.symm).trans z
  have over : ∀ (e : Addr) (oe : Obj) (h' : Heap), h'.get? e = some oe → oe.cls = .type "StopIteration" → (∀ b u, b ≠ it → s.heap.get? b = some u → h'.get? b = some u) →
      wpAny (model prog w) A (do if ← isInstance (.ref e) (.type "StopIteration") then pure none else throw (.ref e)) Q E { s with heap := h' } := fun e oe h' ge ce k =>
    wpAny_bind (wpAny_isInstance (T := "StopIteration") (b := true) ⟨oe, ge, ce⟩ isSubtype_stop (wpAny_pure (q h' k)))
  unfold pyNext
  apply wpAny_bind
  apply wpAny_attempt
  apply wpAny_callSpecial?_slot (name := Str.ofString "__next__") hit.typeIs slot_listiter_next
  apply wpAny_call_entry slot_listiter_next hit.typeIs entry_listiter_next
  show wpAny _ _ (field (.ref it) 0 >>= _) _ _ _
  apply wpAny_bind
  apply wpAny_field ho hd (x := .ref l) rfl
  show wpAny _ _ (field (.ref it) 1 >>= _) _ _ _
  apply wpAny_bind
  apply wpAny_field ho hd (x := .int i 0) rfl
  show wpAny _ _ (seqItems? (.ref l) >>= _) _ _ _
  apply wpAny_bind
  apply wpAny_seqItems hol hdl
  dsimp only
  rw [show (Int.toNat (i : Int)) = i from Int.toNat_natCast i, hi]
  apply wpAny_bind
  apply wpAny_rule
  apply wpAny_bind
  apply wpAny_setField ho hd (by simp)
  apply stop_hot (A := A.in1) (x1 := x1) ⟨hh, o1, vs, kept _ _ _ hx g, d, c⟩
  intro h' e oe k ge ce
  exact over e oe h' ge ce fun b u n z => k b u (kept _ _ _ n z)
/-- the walk of a list while x1 is handled -/
theorem walks_hot {it l : Addr} {x1 : Addr} {o1 : Obj} {v1 : Array Value} (hh : A.handled = some (.ref x1)) (d : o1.data = .fields v1) (c : v1[2]? = some .none) (hx : x1 ≠ it) (hne : l ≠ it) (items : Array Value) :
    Walks prog w A it [it, l, x1] [it] items.size (fun i v => items[i]? = some v) (fun i h => (h.IsListIter it l i ∧ h.IsList l items) ∧ h.get? x1 = some o1) := by
  have m1 : it ∈ [it, l, x1] := List.mem_cons_self
  have m2 : l ∈ [it, l, x1] := List.mem_cons_of_mem _ List.mem_cons_self
  have m3 : x1 ∈ [it, l, x1] := List.mem_cons_of_mem _ (List.mem_cons_of_mem _ List.mem_cons_self)
  constructor
  · intro b hb
    rw [List.mem_singleton.mp hb]
    exact m1
  · intro i h h' st k
    exact ⟨⟨st.1.1.at (k it m1), st.1.2.at (k l m2)⟩, k x1 m3 _ st.2⟩
  · intro i s Q E hi st q
    have hget : items[i]? = some items[i] := Array.getElem?_eq_getElem hi
    apply wpAny_pyNext_list_item st.1.1 st.1.2 hget
    intro h' st' sb
    have k : ∀ b o, b ≠ it → s.heap.get? b = some o → h'.get? b = some o := sb.extBut
    exact q items[i] h' s.toks hget ⟨⟨st', st.1.2.at fun o e => k l o hne e⟩, k x1 _ hx st.2⟩ fun b o nb e => k b o (fun z => nb (z ▸ List.mem_singleton.mpr rfl)) e
  · intro s Q E st q
    exact next_end_hot ⟨hh, o1, v1, st.2, d, c⟩ hx st.1.1 st.1.2 (Array.getElem?_eq_none (Nat.le_refl _)) fun h' k => q h' s.toks fun b o nb e => k b o (fun z => nb (z ▸ List.mem_singleton.mpr rfl)) e
  · intro i s Q E st q
    exact wpAny_pyIter_listiter st.1.1 q
end
/-- any(xs) of a list of bools while an exception is handled -/
theorem any_hot {X : Cx} (hc : HotC X) : CallR X (.builtin "any") (rAny X.K) := by
  rintro pins s σ H vs us Q I hV ⟨a, bs, rfl, hs, q⟩
  obtain ⟨its, hv, hl, hlen⟩ := I.list hs
  obtain ⟨p, ⟨hh, v1, d1, c1⟩, hp⟩ := hc
  have hget := (I.pin p (List.mem_append_left _ hp)).1
  have hb := hv.bls
  rw [Vals.ref1 hV]
  apply call_any_walk
  apply iter_any hl.isList
  intro s₂ e2 st hne
  subst e2
  have hx : p.1 ≠ s.heap.objs.size := Nat.ne_of_lt (Heap.lt_size hget)
  have hbig : ∀ b o, s.heap.get? b = some o → b ∉ [s.heap.objs.size] := fun b o e m => Nat.lt_irrefl _ (List.mem_singleton.mp m ▸ Heap.lt_size e)
  refine ⟨_, _, _, _, _, _, _, rfl, walks_hot (A := X.A.in1) hh d1 c1 hx hne its.toArray, ⟨st, Heap.get?_push_of_some _ hget⟩, truth_bools hb, fun h' tk k => ?_⟩
  have hI := I.kept (t' := tk) fun b o e => k b o (hbig b o e) (Heap.get?_push_of_some _ e)
  have hn : its.toArray.size = bs.length := by rw [hb, List.size_toArray, List.length_map]
  refine ⟨.bl (bs.any id), H, hI, ?_, q⟩
  rw [hn, L2.any_range]
  rfl
end Hc

/-! Own errors: raised by a def, caught, asked for their class. -/
namespace Hc
open PySem PySem.Spec PyProof.Rows L2
abbrev upVE : List Value := [.type "ValueError", .type "Exception", .type "BaseException", .type "object"]
/-- what is known of an own error class -/
structure Err (K : PySem.W.Frag) (mg : Str → Option Value) (x : Str) (C : Addr) : Prop where
  g : mg x = some (.ref C)
  x : PySem.W.excIn K C upVE "ValueError.__new__" = true
  k : PySem.W.keepIn K (.ref C) = true
  d : PySem.W.hasDictIn K C = true
  b : PySem.W.subIn K (.ref C) (.type "BaseException") = some true
  t : PySem.W.typeIn K (.ref C) = some (.type "type")
/-- a def that may raise, its error's context None -/
theorem okN {P : Program} {w : World} {K : PySem.W.Frag} {mg : Str → Option Value} {base : Heap} {x qual : Str} {st : Stmt} {f : Addr} {fd : FuncData} {N ps : List Str} {k : Nat} {sp : Sp} (F : Fun K x qual st f fd) (S : FnScope N ps (defScope st))
    (len : ∀ vs H Q E, sp vs H Q E → vs.length = ps.length)
    (body : ∀ (cdv : Value) (A : Around) (outer : List Env) (s : Shared) (H : Hp) (vs : List V) (Q : VK) (E : XK), Room k (A.deeper (envOfC qual (defScope st) s.heap.objs.size f cdv)) → sp vs H Q E →
      ∃ t, PSs (cxOf (L2N.CX P w) P w K mg base N qual (defScope st) f cdv A outer s H E) (defBody st) t ∧ t { nx := fun _ H' => Q .non H', rt := Q } (start N vs) H) : FnOk P w K mg base (L2N.CX P w) (k + 1) f fd ps sp := by
  obtain ⟨_, _, _, _, _, _, cdv, _, _, rfl, lk, hcd⟩ := F.ex
  exact fn_of lk hcd S len (body cdv)
theorem takes0N {X : Cx} : L2N.Takes X (fun _ _ _ _ => False) := fun _ _ ⟨_, _, _, _, _, _, _, _, _, _, _, _, _, _, _, _, z⟩ => z.elim
/-- isinstance(error, C) in the suite that caught it -/
def rIsN (K : PySem.W.Frag) (cls : Value) (d : Option Addr) (a : Addr) : List V → Hp → VK → Prop := fun xs H Q => ∃ D, cls = .ref D ∧ d = none ∧ ExcC K D ∧ rIsE K D a xs H Q
theorem call_isN {X : Cx} {a : Addr} {oe : Obj} {cls : Value} {d : Option Addr} {pn : List (Addr × Obj)} (hz : L2N.Zn cls d oe) (hf : ∃ vs, oe.data = .fields vs) : CallR (X.suite a ((a, oe) :: pn)) (.builtin "isinstance") (rIsN X.K cls d a) := by
  rintro pins s σ H xs us Q I r ⟨D, rfl, rfl, C, h⟩
  exact call_isE C hz.zc hf pins s σ H xs us Q I r h
/-- the suite is hot -/
theorem hot_suite {X : Cx} {a : Addr} {oe : Obj} {cls : Value} {d : Option Addr} {pn : List (Addr × Obj)} (hz : L2N.Zn cls d oe) (hf : ∃ vs, oe.data = .fields vs) : L2H.HotC (X.suite a ((a, oe) :: pn)) := by
  obtain ⟨vs, e⟩ := hf
  exact ⟨(a, oe), ⟨rfl, vs, e, hz.2.2 vs e⟩, List.mem_cons_self⟩
/-- as above, K given -/
theorem isN (K : PySem.W.Frag) {X : Cx} {a : Addr} {oe : Obj} {cls : Value} {d : Option Addr} {pn : List (Addr × Obj)} (hz : L2N.Zn cls d oe) (hf : ∃ vs, oe.data = .fields vs) (hK : X.K = K := by rfl) : CallR (X.suite a ((a, oe) :: pn)) (.builtin "isinstance") (rIsN K cls d a) := by
  subst hK
  exact call_isN hz hf
theorem anyN (K : PySem.W.Frag) {X : Cx} {a : Addr} {oe : Obj} {cls : Value} {d : Option Addr} {pn : List (Addr × Obj)} (hz : L2N.Zn cls d oe) (hf : ∃ vs, oe.data = .fields vs) (hK : X.K = K := by rfl) : CallR (X.suite a ((a, oe) :: pn)) (.builtin "any") (rAny K) := by
  subst hK
  exact any_hot (hot_suite hz hf)
/-- C is caught by a clause of its own base -/
theorem exm_err {K : PySem.W.Frag} {mg : Str → Option Value} {x : Str} {C : Addr} {cls : Value} {b : Bool} (e : Err K mg x C) (h : PySem.W.subIn K cls (.ref C) = some b) : PySem.W.exmOne K cls (.ref C) = some b := PySem.W.exm_ref e.b e.d e.t h
end Hc

namespace Hc
open PySem PySem.Spec PyProof.Rows L2 Evl
def topS (i : Nat) : Stmt := PySem.Challenge.pw_headcounts_k05_whole_peaks.main.body.getD i (.Pass ⟨0, 0, 0, 0⟩)
abbrev s_is_number : Stmt := topS 8
theorem sc_is_number : FnScope ["thing"] ["thing"] (defScope s_is_number) := ⟨rfl, rfl, rfl, by decide +kernel, rfl, by decide +kernel, by decide +kernel⟩
abbrev s_asked_candidates : Stmt := topS 9
theorem sc_asked_candidates : FnScope ["candidates"] ["candidates"] (defScope s_asked_candidates) := ⟨rfl, rfl, rfl, by decide +kernel, rfl, by decide +kernel, by decide +kernel⟩
abbrev s_are_ballots : Stmt := topS 10
theorem sc_are_ballots : FnScope ["candidates", "ballots", "ballot", "one"] ["candidates", "ballots"] (defScope s_are_ballots) := ⟨rfl, rfl, rfl, by decide +kernel, rfl, by decide +kernel, by decide +kernel⟩
abbrev s_asked_ballots : Stmt := topS 11
theorem sc_asked_ballots : FnScope ["candidates", "ballots"] ["candidates", "ballots"] (defScope s_asked_ballots) := ⟨rfl, rfl, rfl, by decide +kernel, rfl, by decide +kernel, by decide +kernel⟩
abbrev s_count_of : Stmt := topS 12
theorem sc_count_of : FnScope ["candidates", "ballots", "table", "order", "many", "at", "one", "other"] ["candidates", "ballots"] (defScope s_count_of) := ⟨rfl, rfl, rfl, by decide +kernel, rfl, by decide +kernel, by decide +kernel⟩
abbrev s_counted : Stmt := topS 13
theorem sc_counted : FnScope ["candidates", "ballots"] ["candidates", "ballots"] (defScope s_counted) := ⟨rfl, rfl, rfl, by decide +kernel, rfl, by decide +kernel, by decide +kernel⟩
abbrev s_is_peaked : Stmt := topS 15
theorem sc_is_peaked : FnScope ["order", "low", "high", "one"] ["order"] (defScope s_is_peaked) := ⟨rfl, rfl, rfl, by decide +kernel, rfl, by decide +kernel, by decide +kernel⟩
abbrev s_peaked : Stmt := topS 16
theorem sc_peaked : FnScope ["candidates", "ballots", "order", "many"] ["candidates", "ballots"] (defScope s_peaked) := ⟨rfl, rfl, rfl, by decide +kernel, rfl, by decide +kernel, by decide +kernel⟩
abbrev s_middle : Stmt := topS 17
theorem sc_middle : FnScope ["candidates", "ballots", "whole", "held", "who", "order", "many"] ["candidates", "ballots"] (defScope s_middle) := ⟨rfl, rfl, rfl, by decide +kernel, rfl, by decide +kernel, by decide +kernel⟩
abbrev s_law_number : Stmt := topS 19
theorem sc_law_number : FnScope ["_law_cell", "_law_at", "_law_whole", "_law_mixed", "_law_more"] ["_law_cell", "_law_at", "_law_whole"] (defScope s_law_number) := ⟨rfl, rfl, rfl, by decide +kernel, rfl, by decide +kernel, by decide +kernel⟩
abbrev s_law_ballots : Stmt := topS 20
theorem sc_law_ballots : FnScope ["_law_script", "_law_size", "_law_found", "_law_whole", "_law_at", "_law_cell", "_law_number_here", "_law_left", "_law_line"] ["_law_script", "_law_size"] (defScope s_law_ballots) := ⟨rfl, rfl, rfl, by decide +kernel, rfl, by decide +kernel, by decide +kernel⟩
abbrev s_law_peaks : Stmt := topS 21
theorem sc_law_peaks : FnScope ["_law_script", "_law_size", "_law_found", "_law_whole", "_law_at", "_law_cell", "_law_number_here", "_law_low", "_law_high", "_law_line"] ["_law_script", "_law_size"] (defScope s_law_peaks) := ⟨rfl, rfl, rfl, by decide +kernel, rfl, by decide +kernel, by decide +kernel⟩
abbrev s_law_peaked : Stmt := topS 22
theorem sc_law_peaked : FnScope ["_law_line", "_law_many"] ["_law_line"] (defScope s_law_peaked) := ⟨rfl, rfl, rfl, by decide +kernel, rfl, by decide +kernel, by decide +kernel⟩
abbrev s_law_middle : Stmt := topS 23
theorem sc_law_middle : FnScope ["_law_ballots_here", "_law_heads", "_law_whole", "_law_line", "_law_many", "_law_held", "_law_top"] ["_law_ballots_here"] (defScope s_law_middle) := ⟨rfl, rfl, rfl, by decide +kernel, rfl, by decide +kernel, by decide +kernel⟩
abbrev s_law_none : Stmt := topS 24
theorem sc_law_none : FnScope ["_law_size", "_law_ballots_here", "error", "_law_others"] ["_law_size", "_law_ballots_here"] (defScope s_law_none) := ⟨rfl, rfl, rfl, by decide +kernel, rfl, by decide +kernel, by decide +kernel⟩
abbrev s_law : Stmt := topS 25
theorem sc_law : FnScope ["_law_script", "_law_whole", "_law_size", "_law_peaks_here", "_law_any_ones", "_law_bent", "_law_ballots_here", "_law_handed", "_law_due", "_law_said", "_law_who", "_law_line", "_law_many"] ["_law_script"] (defScope s_law) := ⟨rfl, rfl, rfl, by decide +kernel, rfl, by decide +kernel, by decide +kernel⟩
structure Tx (K : PySem.W.Frag) (mg : Str → Option Value) : Type where
  f_is_number : Addr
  d_is_number : FuncData
  F_is_number : Fun K "is_number" "is_number" s_is_number f_is_number d_is_number
  g_is_number : mg "is_number" = some (.ref f_is_number)
  f_asked_candidates : Addr
  d_asked_candidates : FuncData
  F_asked_candidates : Fun K "asked_candidates" "asked_candidates" s_asked_candidates f_asked_candidates d_asked_candidates
  g_asked_candidates : mg "asked_candidates" = some (.ref f_asked_candidates)
  f_are_ballots : Addr
  d_are_ballots : FuncData
  F_are_ballots : Fun K "are_ballots" "are_ballots" s_are_ballots f_are_ballots d_are_ballots
  g_are_ballots : mg "are_ballots" = some (.ref f_are_ballots)
  f_asked_ballots : Addr
  d_asked_ballots : FuncData
  F_asked_ballots : Fun K "asked_ballots" "asked_ballots" s_asked_ballots f_asked_ballots d_asked_ballots
  g_asked_ballots : mg "asked_ballots" = some (.ref f_asked_ballots)
  f_count_of : Addr
  d_count_of : FuncData
  F_count_of : Fun K "count_of" "count_of" s_count_of f_count_of d_count_of
  g_count_of : mg "count_of" = some (.ref f_count_of)
  f_counted : Addr
  d_counted : FuncData
  F_counted : Fun K "counted" "counted" s_counted f_counted d_counted
  g_counted : mg "counted" = some (.ref f_counted)
  f_is_peaked : Addr
  d_is_peaked : FuncData
  F_is_peaked : Fun K "is_peaked" "is_peaked" s_is_peaked f_is_peaked d_is_peaked
  g_is_peaked : mg "is_peaked" = some (.ref f_is_peaked)
  f_peaked : Addr
  d_peaked : FuncData
  F_peaked : Fun K "peaked" "peaked" s_peaked f_peaked d_peaked
  g_peaked : mg "peaked" = some (.ref f_peaked)
  f_middle : Addr
  d_middle : FuncData
  F_middle : Fun K "middle" "middle" s_middle f_middle d_middle
  g_middle : mg "middle" = some (.ref f_middle)
  f_law_number : Addr
  d_law_number : FuncData
  F_law_number : Fun K "_law_number" "_law_number" s_law_number f_law_number d_law_number
  g_law_number : mg "_law_number" = some (.ref f_law_number)
  f_law_ballots : Addr
  d_law_ballots : FuncData
  F_law_ballots : Fun K "_law_ballots" "_law_ballots" s_law_ballots f_law_ballots d_law_ballots
  g_law_ballots : mg "_law_ballots" = some (.ref f_law_ballots)
  f_law_peaks : Addr
  d_law_peaks : FuncData
  F_law_peaks : Fun K "_law_peaks" "_law_peaks" s_law_peaks f_law_peaks d_law_peaks
  g_law_peaks : mg "_law_peaks" = some (.ref f_law_peaks)
  f_law_peaked : Addr
  d_law_peaked : FuncData
  F_law_peaked : Fun K "_law_peaked" "_law_peaked" s_law_peaked f_law_peaked d_law_peaked
  g_law_peaked : mg "_law_peaked" = some (.ref f_law_peaked)
  f_law_middle : Addr
  d_law_middle : FuncData
  F_law_middle : Fun K "_law_middle" "_law_middle" s_law_middle f_law_middle d_law_middle
  g_law_middle : mg "_law_middle" = some (.ref f_law_middle)
  f_law_none : Addr
  d_law_none : FuncData
  F_law_none : Fun K "_law_none" "_law_none" s_law_none f_law_none d_law_none
  g_law_none : mg "_law_none" = some (.ref f_law_none)
  f_law : Addr
  d_law : FuncData
  F_law : Fun K "law" "law" s_law f_law d_law
  g_law : mg "law" = some (.ref f_law)
  g_MOST : ∃ t, mg "MOST" = some (.int 20 t)
  n_all : mg "all" = none
  n_any : mg "any" = none
  n_bool : mg "bool" = none
  n_enumerate : mg "enumerate" = none
  n_int : mg "int" = none
  n_isinstance : mg "isinstance" = none
  n_len : mg "len" = none
  n_list : mg "list" = none
  n_max : mg "max" = none
  n_min : mg "min" = none
  n_range : mg "range" = none
  n_sorted : mg "sorted" = none
  n_sum : mg "sum" = none
  n_tuple : mg "tuple" = none
  c_CountError : Addr
  e_CountError : Err K mg "CountError" c_CountError
  c_BadCandidates : Addr
  e_BadCandidates : Err K mg "BadCandidates" c_BadCandidates
  c_BadBallots : Addr
  e_BadBallots : Err K mg "BadBallots" c_BadBallots
  c_BadTable : Addr
  e_BadTable : Err K mg "BadTable" c_BadTable
  c_NotPeaked : Addr
  e_NotPeaked : Err K mg "NotPeaked" c_NotPeaked
  x_NotPeaked : ExcC K c_NotPeaked
  u_NotPeaked_CountError : PySem.W.subIn K (.ref c_NotPeaked) (.ref c_CountError) = some true
  k_NotPeaked_NotPeaked : PySem.W.kitOne K (.ref c_NotPeaked) (.ref c_NotPeaked) = some true
  k_NotPeaked_BadBallots : PySem.W.kitOne K (.ref c_NotPeaked) (.ref c_BadBallots) = some false
  k_NotPeaked_BadCandidates : PySem.W.kitOne K (.ref c_NotPeaked) (.ref c_BadCandidates) = some false
  k_NotPeaked_BadTable : PySem.W.kitOne K (.ref c_NotPeaked) (.ref c_BadTable) = some false
section
variable {K : PySem.W.Frag} {mg : Str → Option Value}
theorem b_is_number (T : Tx K mg) : Binds K T.d_is_number ["thing"] [] := T.F_is_number.binds fun _ _ _ _ _ _ us hl => match us, hl with | [_], _ => rfl
theorem b_asked_candidates (T : Tx K mg) : Binds K T.d_asked_candidates ["candidates"] [] := T.F_asked_candidates.binds fun _ _ _ _ _ _ us hl => match us, hl with | [_], _ => rfl
theorem b_are_ballots (T : Tx K mg) : Binds K T.d_are_ballots ["candidates", "ballots"] [] := T.F_are_ballots.binds fun _ _ _ _ _ _ us hl => match us, hl with | [_, _], _ => rfl
theorem b_asked_ballots (T : Tx K mg) : Binds K T.d_asked_ballots ["candidates", "ballots"] [] := T.F_asked_ballots.binds fun _ _ _ _ _ _ us hl => match us, hl with | [_, _], _ => rfl
theorem b_count_of (T : Tx K mg) : Binds K T.d_count_of ["candidates", "ballots"] [] := T.F_count_of.binds fun _ _ _ _ _ _ us hl => match us, hl with | [_, _], _ => rfl
theorem b_counted (T : Tx K mg) : Binds K T.d_counted ["candidates", "ballots"] [] := T.F_counted.binds fun _ _ _ _ _ _ us hl => match us, hl with | [_, _], _ => rfl
theorem b_is_peaked (T : Tx K mg) : Binds K T.d_is_peaked ["order"] [] := T.F_is_peaked.binds fun _ _ _ _ _ _ us hl => match us, hl with | [_], _ => rfl
theorem b_peaked (T : Tx K mg) : Binds K T.d_peaked ["candidates", "ballots"] [] := T.F_peaked.binds fun _ _ _ _ _ _ us hl => match us, hl with | [_, _], _ => rfl
theorem b_middle (T : Tx K mg) : Binds K T.d_middle ["candidates", "ballots"] [] := T.F_middle.binds fun _ _ _ _ _ _ us hl => match us, hl with | [_, _], _ => rfl
theorem b_law_number (T : Tx K mg) : Binds K T.d_law_number ["_law_cell", "_law_at", "_law_whole"] [] := T.F_law_number.binds fun _ _ _ _ _ _ us hl => match us, hl with | [_, _, _], _ => rfl
theorem b_law_ballots (T : Tx K mg) : Binds K T.d_law_ballots ["_law_script", "_law_size"] [] := T.F_law_ballots.binds fun _ _ _ _ _ _ us hl => match us, hl with | [_, _], _ => rfl
theorem b_law_peaks (T : Tx K mg) : Binds K T.d_law_peaks ["_law_script", "_law_size"] [] := T.F_law_peaks.binds fun _ _ _ _ _ _ us hl => match us, hl with | [_, _], _ => rfl
theorem b_law_peaked (T : Tx K mg) : Binds K T.d_law_peaked ["_law_line"] [] := T.F_law_peaked.binds fun _ _ _ _ _ _ us hl => match us, hl with | [_], _ => rfl
theorem b_law_middle (T : Tx K mg) : Binds K T.d_law_middle ["_law_ballots_here"] [] := T.F_law_middle.binds fun _ _ _ _ _ _ us hl => match us, hl with | [_], _ => rfl
theorem b_law_none (T : Tx K mg) : Binds K T.d_law_none ["_law_size", "_law_ballots_here"] [] := T.F_law_none.binds fun _ _ _ _ _ _ us hl => match us, hl with | [_, _], _ => rfl
theorem b_law (T : Tx K mg) : Binds K T.d_law ["_law_script"] [] := T.F_law.binds fun _ _ _ _ _ _ us hl => match us, hl with | [_], _ => rfl
end
end Hc
namespace Hc
open PySem PySem.Spec PyProof.Rows L2 Evl
section
variable {P : Program} {w : World} {K : PySem.W.Frag} {mg : Str → Option Value} {base : Heap}
/-! ### types of things -/
section
variable {K : PySem.W.Frag} {H H' : Hp}
theorem tyx_L {a : Addr} {xs : List V} (h : SqL K H a xs) : TyX K H (.ref a) (.type "list") := by
  rcases h with (h | ⟨o, h⟩) | ⟨o, its, n, h1, h2, _⟩
  · exact .base (.lst h)
  · exact .base (.frz h)
  · exact .kList h1 h2
theorem tyx_T {a : Addr} {xs : List V} (h : SqT K H a xs) : TyX K H (.ref a) (.type "tuple") := by
  rcases h with (h | ⟨o, h⟩) | ⟨o, its, n, h1, h2, _⟩
  · exact .base (.tup h)
  · exact .fTuple h
  · exact .kTuple h1 h2
/-- what is_number says of a thing -/
def IsNum (K : PySem.W.Frag) (H : Hp) (x : V) (b : Bool) : Prop := ∃ (t : String) (b1 b2 : Bool), TyX K H x (.type t) ∧ kitB t "int" = some b1 ∧ kitB t "bool" = some b2 ∧ b = (b1 && !b2)
theorem isNum_int (i : Int) : IsNum K H (.int i) true := ⟨"int", true, false, .base (.int i), by decide +kernel, by decide +kernel, rfl⟩
def spIsNum (K : PySem.W.Frag) : Sp := fun vs H Q _ => ∃ (x : V) (b : Bool), vs = [x] ∧ IsNum K H x b ∧ Q (.bl b) H
def okB (n : Nat) (b : List Nat × Int) : Bool := decide (1 ≤ b.2) && b.1.isPerm (List.range n)
def spAskC : Sp := fun vs H Q _ => ∃ c : Int, vs = [.int c] ∧ 1 ≤ c ∧ c ≤ 20 ∧ Q .non H
def spAreB (K : PySem.W.Frag) : Sp := fun vs H Q _ => ∃ (n : Nat) (v : V) (bs : List (List Nat × Int)), vs = [.int (n : Int), v] ∧ n ≤ 20 ∧ BalsR K H v bs ∧ (∀ b ∈ bs, b.1.length < 60) ∧ ∀ H2, Ex H H2 → Q (.bl (bs.all (okB n))) H2
def spAskB (K : PySem.W.Frag) : Sp := fun vs H Q _ => ∃ (n : Nat) (v : V) (bs : List (List Nat × Int)), vs = [.int (n : Int), v] ∧ 1 ≤ n ∧ n ≤ 20 ∧ BalsR K H v bs ∧ bs.all (okB n) = true ∧ ∀ H2, Ex H H2 → Q .non H2
def spCount (K : PySem.W.Frag) : Sp := fun vs H Q _ => ∃ (n : Nat) (v : V) (bs : List (List Nat × Int)), vs = [.int (n : Int), v] ∧ n ≤ 20 ∧ BalsR K H v bs ∧ (∀ b ∈ bs, ∀ k ∈ b.1, k < n) ∧ ∀ H2 t rs, Ex H H2 → Tab H H2 t rs n (cnt bs) → Q (.ref t) H2
def spCounted (K : PySem.W.Frag) : Sp := fun vs H Q _ => ∃ (n : Nat) (v : V) (bs : List (List Nat × Int)), vs = [.int (n : Int), v] ∧ 1 ≤ n ∧ n ≤ 20 ∧ BalsR K H v bs ∧ bs.all (okB n) = true ∧ ∀ H2 t rs, Ex H H2 → Tab H H2 t rs n (cnt bs) → Q (.ref t) H2
end
theorem okB_len {n : Nat} {b : List Nat × Int} (h : okB n b = true) : b.1.length = n := by
  unfold okB at h
  rw [Bool.and_eq_true] at h
  have := (List.isPerm_iff.mp h.2).length_eq
  rw [List.length_range] at this
  exact this
theorem okB_lt {n : Nat} {b : List Nat × Int} (h : okB n b = true) : ∀ k ∈ b.1, k < n := fun k hk => by
  unfold okB at h
  rw [Bool.and_eq_true] at h
  exact List.mem_range.mp ((List.isPerm_iff.mp h.2).mem_iff.mp hk)
/-- a sorted list that is an arrangement of another one -/
theorem sorted_is_range {ns : List Int} {ks : List Nat} {n : Nat} (hp : ns.Perm (ks.map fun (k : Nat) => (k : Int))) (hs : ns.Pairwise (· ≤ ·)) : (ns = (List.range n).map fun (k : Nat) => (k : Int)) ↔ ks.Perm (List.range n) := by
  constructor
  · intro e
    rw [e] at hp
    have h2 := hp.map Int.toNat
    rw [List.map_map, List.map_map] at h2
    have e1 : ∀ l : List Nat, l.map (Int.toNat ∘ fun (k : Nat) => (k : Int)) = l := fun l => by
      have : (Int.toNat ∘ fun (k : Nat) => (k : Int)) = id := by
        funext k
        simp
      rw [this, List.map_id]
    rw [e1, e1] at h2
    exact h2.symm
  · intro h
    have h1 : ns.Perm ((List.range n).map fun (k : Nat) => (k : Int)) := hp.trans (h.map _)
    have h2 : ((List.range n).map fun (k : Nat) => (k : Int)).Pairwise (· ≤ ·) := by
      rw [List.pairwise_map]
      exact List.Pairwise.imp (fun {a b} h => by omega) (List.pairwise_lt_range (n := n))
    exact h1.eq_of_pairwise (le := (· ≤ ·)) (fun a b _ _ h1 h2 => by omega) hs h2
theorem ok_is_number (T : Tx K mg) : FnOk P w K mg base CX0 1 T.f_is_number T.d_is_number ["thing"] (spIsNum K) := by
  refine T.F_is_number.ok sc_is_number (fun vs H Q E h => ?_) (fun cdv A outer s H vs Q E hr h => ?_)
  · obtain ⟨x, b, rfl, _⟩ := h
    rfl
  · obtain ⟨x, b, rfl, ⟨t, b1, b2, hT, k1, k2, rfl⟩, q⟩ := h
    refine ⟨_, pss_one (ps_ret (pe_and (pe_callB (isiK K) (by rfl) T.n_isinstance PyProof.Rows.boot_isinstance (pa_cons (pv 0) (pa_cons (pe_bltn (v := .ty "int") (by rfl) T.n_int bt_int rfl) pa_nil))) (pe_one (pe_not (pe_callB (isiK K) (by rfl) T.n_isinstance PyProof.Rows.boot_isinstance (pa_cons (pv 0) (pa_cons (pe_bltn (v := .ty "bool") (by rfl) T.n_bool bt_bool rfl) pa_nil))))))), ?_⟩
    refine ⟨x, rfl, x, .ty "int", _, _, b1, rfl, .ty _, hT, kit_ty k1, b1, rfl, ?_⟩
    cases b1 with
    | false => exact q
    | true => exact ⟨x, rfl, x, .ty "bool", _, _, b2, rfl, .ty _, hT, kit_ty k2, b2, rfl, q⟩
theorem ok_asked_candidates (T : Tx K mg) : FnOk P w K mg base CX0 2 T.f_asked_candidates T.d_asked_candidates ["candidates"] spAskC := by
  refine T.F_asked_candidates.ok sc_asked_candidates (fun vs H Q E h => ?_) (fun cdv A outer s H vs Q E hr h => ?_)
  · obtain ⟨c, rfl, _⟩ := h
    rfl
  · obtain ⟨c, rfl, h1, h2, q⟩ := h
    refine ⟨_, pss_one (ps_if (PW.pt (pw_or (pt_not (pt_val (pe_call (ok_is_number T) (hr.mono (by decide)) (by rfl) T.g_is_number T.F_is_number.kp (b_is_number T) .nil pass0 (pa_cons (pv 0) pa_nil)))) (pw_or1 (pt_not (pt_chain op_le op_le pe_int (pv 0) (pe_glob (v := .int 20) (by rfl) T.g_MOST.choose_spec ⟨_, rfl⟩)))))) (pss_one (ps_never)) (pss_nil)), ?_⟩
    refine ⟨_, rfl, _, true, rfl, isNum_int c, true, rfl, ?_⟩
    refine ⟨_, rfl, _, _, rfl, rfl, _, rfl, ?_⟩
    rw [if_pos (decide_eq_true h1)]
    refine ⟨_, _, rfl, rfl, _, rfl, ?_⟩
    rw [decide_eq_true h2]
    exact q
theorem ok_are_ballots (T : Tx K mg) : FnOk P w K mg base CX0 2 T.f_are_ballots T.d_are_ballots ["candidates", "ballots"] (spAreB K) := by
  refine T.F_are_ballots.ok sc_are_ballots (fun vs H Q E h => ?_) (fun cdv A outer s H vs Q E hr h => ?_)
  · obtain ⟨n, v, bs, rfl, _⟩ := h
    rfl
  · obtain ⟨n, v, bs, rfl, hn, ⟨a, xs, rfl, hS, hP⟩, h60, q⟩ := h
    refine ⟨_, pss_cons (ps_for PassesOwn.never rfl (piL K (pv 1)) (pg_name (i := 2) sc_are_ballots.nd rfl (by first | exact Or.inl rfl | exact Or.inr rfl))
        (pss_cons (ps_if (PW.pt (pw_or (pt_not (pt_val (pe_callB (isiK K) (by rfl) T.n_isinstance PyProof.Rows.boot_isinstance (pa_cons (pv 2) (pa_cons (pe_bltn (v := .ty "tuple") (by rfl) T.n_tuple bt_tuple rfl) pa_nil))))) (pw_or (pt_cmpR op_ne (pe_callB (lenK K) (by rfl) T.n_len PySem.boot_len (pa_cons (pv 2) pa_nil)) pe_int (nomark _)) (pw_or1 (pt_not (pt_val (pe_callB (isiK K) (by rfl) T.n_isinstance PyProof.Rows.boot_isinstance (pa_cons (pe_ix (ixTK K) (pv 2) pe_int (fun _ _ => rfl)) (pa_cons (pe_bltn (v := .ty "list") (by rfl) T.n_list bt_list rfl) pa_nil))))))))) (pss_one (ps_ret pe_bl)) (pss_nil))
      (pss_cons (ps_if (PW.pt (pw_or (pt_not (pt_val (pe_call (ok_is_number T) (hr.mono (by decide)) (by rfl) T.g_is_number T.F_is_number.kp (b_is_number T) .nil pass0 (pa_cons (pe_ix (ixTK K) (pv 2) pe_int (fun _ _ => rfl)) pa_nil)))) (pw_or (pt_cmpR op_lt (pe_ix (ixTK K) (pv 2) pe_int (fun _ _ => rfl)) pe_int (nomark _)) (pw_or1 (pt_not (pt_val (pe_callB (allK K) (by rfl) T.n_all PyProof.Rows.boot_all (pa_cons (pe_lc (own := [("one", 3)]) rfl sc_are_ballots.nd (piL K (pe_ix (ixTK K) (pv 2) pe_int (fun _ _ => rfl))) (blkOk_by (own := [("one", 3)]) (N := ["candidates", "ballots", "ballot", "one"]) (sc := defScope s_are_ballots) (by decide +kernel)) (fun _ _ _ _ _ => (pg_name (i := 3) sc_are_ballots.nd rfl (by first | exact Or.inl rfl | exact Or.inr rfl))) (fun _ _ _ _ _ => pts_nil) (fun _ _ _ _ _ => (pe_call (ok_is_number T) (hr.mono (by decide)) (by rfl) T.g_is_number T.F_is_number.kp (b_is_number T) .nil pass0 (pa_cons (pv 3) pa_nil)))) pa_nil)))))))) (pss_one (ps_ret pe_bl)) (pss_nil))
      (pss_one (ps_if (pt_cmpR (neDK K hr.units) (pe_callB (sortK K) (by rfl) T.n_sorted PyProof.Rows.boot_sorted (pa_cons (pe_ix (ixTK K) (pv 2) pe_int (fun _ _ => rfl)) pa_nil)) (pe_listRg rfl (by rfl) T.n_list (prg_1 (by rfl) T.n_range (pv 0))) (nomark _)) (pss_one (ps_ret pe_bl)) (pss_nil))))))
      (pss_one (ps_ret pe_bl)), ?_⟩
    refine ⟨.ref a, rfl, a, rfl, ⟨xs, hS⟩, for_list (K := K) (a := a) (xs := xs) (fun i σ' H' => ∃ y, σ' = [some (.int n), some (.ref a), y, none] ∧ Ex H H' ∧ (bs.take i).all (okB n) = true)
      ⟨none, rfl, Ex.refl H, rfl⟩ (fun i σ' H' _ ⟨_, _, e, _⟩ => ex_l e hS) ?_ ?_⟩
    · rintro i x σ' H' hi ⟨y, rfl, e, hall⟩
      obtain ⟨b, hb, t, l, rfl, hT, hL⟩ := Paired.get hP hi
      have hbm : b ∈ bs := List.mem_of_getElem? hb
      have hT1 := ex_t e hT
      have hL1 := ex_l e hL
      have bad : okB n b = false → ∀ H2, Ex H H2 → Q (.bl false) H2 := fun hx H2 e2 => by
        have : bs.all (okB n) = false := by
          rw [List.all_eq_false]
          exact ⟨b, hbm, by rw [hx]; decide⟩
        rw [← this]
        exact q H2 e2
      refine ⟨.ref t, rfl, .ref t, .ty "tuple", _, _, true, rfl, .ty _, tyx_T hT1, kit_ty (by decide +kernel), true, rfl, ?_⟩
      refine ⟨.ref t, rfl, t, _, rfl, .inr hT1, rfl, _, rfl, ?_⟩
      refine ⟨.ref t, rfl, t, _, 0, .ref l, rfl, rfl, hT1, rfl, .ref l, .ty "list", _, _, true, rfl, .ty _, tyx_L hL1, kit_ty (by decide +kernel), true, rfl, ?_⟩
      refine ⟨.ref t, rfl, t, _, 1, .int b.2, rfl, rfl, hT1, rfl, _, true, rfl, isNum_int _, true, rfl, ?_⟩
      refine ⟨.ref t, rfl, t, _, 1, .int b.2, rfl, rfl, hT1, rfl, _, _, rfl, rfl, _, rfl, ?_⟩
      refine it2 (fun hm0 => ?_) (fun hm0 => ?_)
      · have hm : b.2 < 1 := of_decide_eq_true hm0
        exact bad (by unfold okB; rw [decide_eq_false (by omega)]; rfl) _ e
      · have hm : ¬ b.2 < 1 := of_decide_eq_false hm0
        refine ⟨.ref t, rfl, t, _, 0, .ref l, rfl, rfl, hT1, rfl, l, rfl, ⟨_, hL1⟩, fun D hD => ?_⟩
        refine lc_vals (walk_list (K := K) (a := l) (xs := nv b.1)) hD (by rw [nv_length]; have := h60 b hbm; omega) (fun H2 e2 => ex_l e2 hL1) (fun _ => V.bl true) ?_ ?_
        · rintro j x H2 H2' hj e2 ⟨rfl, hx⟩ Qc hq
          obtain ⟨k, _, rfl⟩ := nv_get hx
          exact ⟨rfl, _, rfl, _, true, rfl, isNum_int _, hq _ (Ex.refl _)⟩
        · intro H2 e2 hD2
          rw [map_const_bl] at hD2
          refine ⟨D, _, rfl, sq_of hD2, true, by rw [all_const_true], ?_⟩
          have hT2 := ex_t e2 hT1
          have hL2 := ex_l e2 hL1
          rw [nv_iv] at hL2
          refine ⟨.ref t, rfl, t, _, 0, .ref l, rfl, rfl, hT2, rfl, l, _, rfl, hL2, by rw [List.length_map]; have := h60 b hbm; omega, fun ns p perm srt hp => ?_⟩
          have e3 : Ex H2 (upd H2 p (.lst (ns.map V.int))) := Ex.new hp
          refine ⟨_, rfl, n, rfl, rgOk_nat (by omega), fun r hr' => ?_⟩
          have e4 : Ex (upd H2 p (.lst (ns.map V.int))) _ := Ex.new (o := .lst (rgV 0 (n : Int))) hr'
          refine ⟨_, _, dp_ints (ns := ns) (sq_of (e4 _ _ upd_same)), dp_ints (ns := (List.range n).map fun (k : Nat) => (k : Int)) (sq_of ?_), shaped_ints _, shaped_ints _, _, rfl, ?_⟩
          · rw [upd_same, rgV_nv, nv_iv]
          · have e5 := (e.trans e2).trans (e3.trans e4)
            by_cases hq2 : ns = (List.range n).map fun (k : Nat) => (k : Int)
            · refine itF (by rw [eqv_ints, decide_eq_true hq2]; rfl) ?_
              refine ⟨_, rfl, e5, ?_⟩
              rw [List.take_add_one, hb, List.all_append, hall]
              show (true && ([b].all (okB n))) = true
              have : okB n b = true := by
                unfold okB
                rw [decide_eq_true (by omega), List.isPerm_iff.mpr ((sorted_is_range perm srt).mp hq2)]
                rfl
              simp [this]
            · refine itT (by rw [eqv_ints, decide_eq_false hq2]; rfl) ?_
              refine bad ?_ _ e5
              unfold okB
              have : b.1.isPerm (List.range n) = false := by
                cases hz : b.1.isPerm (List.range n) with
                | false => rfl
                | true => exact absurd ((sorted_is_range perm srt).mpr (List.isPerm_iff.mp hz)) hq2
              rw [this, Bool.and_false]
    · rintro σ' H' ⟨y, rfl, e, hall⟩
      rw [show xs.length = bs.length from Paired.len hP, List.take_length] at hall
      rw [hall] at q
      exact q H' e
theorem ok_asked_ballots (T : Tx K mg) : FnOk P w K mg base CX0 3 T.f_asked_ballots T.d_asked_ballots ["candidates", "ballots"] (spAskB K) := by
  refine T.F_asked_ballots.ok sc_asked_ballots (fun vs H Q E h => ?_) (fun cdv A outer s H vs Q E hr h => ?_)
  · obtain ⟨n, v, bs, rfl, _⟩ := h
    rfl
  · obtain ⟨n, v, bs, rfl, hn1, hn, hB, hok, q⟩ := h
    obtain ⟨a, xs, rfl, hS, hP⟩ := id hB
    refine ⟨_, pss_cons (ps_expr (pe_call (ok_asked_candidates T) (hr.mono (by decide)) (by rfl) T.g_asked_candidates T.F_asked_candidates.kp (b_asked_candidates T) .nil pass0 (pa_cons (pv 0) pa_nil)))
      (pss_one (ps_if (PW.pt (pw_or (pt_not (pt_val (pe_callB (isiK K) (by rfl) T.n_isinstance PyProof.Rows.boot_isinstance (pa_cons (pv 1) (pa_cons (pe_bltn (v := .ty "list") (by rfl) T.n_list bt_list rfl) pa_nil))))) (pw_or1 (pt_not (pt_val (pe_call (ok_are_ballots T) (hr.mono (by decide)) (by rfl) T.g_are_ballots T.F_are_ballots.kp (b_are_ballots T) .nil pass0 (pa_cons (pv 0) (pa_cons (pv 1) pa_nil)))))))) (pss_one (ps_never)) (pss_nil))), ?_⟩
    refine ⟨_, rfl, n, rfl, by omega, by omega, ?_⟩
    refine ⟨_, rfl, .ref a, .ty "list", _, _, true, rfl, .ty _, tyx_L hS, kit_ty (by decide +kernel), true, rfl, ?_⟩
    refine ⟨_, rfl, _, rfl, n, _, bs, rfl, hn, hB, fun b hb => ?_, fun H2 e2 => ?_⟩
    · rw [okB_len (List.all_eq_true.mp hok b hb)]
      omega
    · rw [hok]
      exact ⟨true, rfl, q H2 e2⟩
theorem ok_count_of (T : Tx K mg) : FnOk P w K mg base CX0 1 T.f_count_of T.d_count_of ["candidates", "ballots"] (spCount K) := by
  refine T.F_count_of.ok sc_count_of (fun vs H Q E h => ?_) (fun cdv A outer s H vs Q E hr h => ?_)
  · obtain ⟨n, v, bs, rfl, _⟩ := h
    rfl
  · obtain ⟨n, v, bs, rfl, hn, ⟨a, xs, rfl, hS, hP⟩, hk, q⟩ := h
    refine ⟨_, pss_cons (ps_setLc (i := 2) (own := [("one", 6)]) rfl sc_count_of.nd rfl rfl (sw_true rfl rfl rfl (by decide +kernel)) (pi_range1 (by rfl) T.n_range (pa_cons (pv 0) pa_nil)) (blkOk_by (own := [("one", 6)]) (N := ["candidates", "ballots", "table", "order", "many", "at", "one", "other"]) (sc := defScope s_count_of) (by decide +kernel)) (fun _ _ _ _ _ => (pg_name (i := 6) sc_count_of.nd rfl (by first | exact Or.inl rfl | exact Or.inr rfl))) (fun _ _ _ _ _ => pts_nil) (fun _ _ _ _ _ => (pe_op op_rep (pe_lst (pa_cons pe_int pa_nil)) (pv 0))))
      (pss_cons (ps_for PassesOwn.never rfl (piL K (pv 1)) (pgT K (n := 2) (pgs_cons (pg_name (i := 3) sc_count_of.nd rfl (by first | exact Or.inl rfl | exact Or.inr rfl)) (pgs_cons (pg_name (i := 4) sc_count_of.nd rfl (by first | exact Or.inl rfl | exact Or.inr rfl)) pgs_nil)))
        (pss_one (ps_for PassesOwn.never rfl (piE K (by rfl) T.n_enumerate (pa_cons (pv 3) pa_nil)) (pgT K (n := 2) (pgs_cons (pg_name (i := 5) sc_count_of.nd rfl (by first | exact Or.inl rfl | exact Or.inr rfl)) (pgs_cons (pg_name (i := 6) sc_count_of.nd rfl (by first | exact Or.inl rfl | exact Or.inr rfl)) pgs_nil)))
        (pss_one (ps_for PassesOwn.never rfl (piL K (pe_slice (slLK K) (pv 3) (po_some (pe_op op_add (pv 5) pe_int)) po_none)) (pg_name (i := 7) sc_count_of.nd rfl (by first | exact Or.inl rfl | exact Or.inr rfl))
        (pss_cons (ps_asg (pe_op op_add (pe_ix (ixLK K) (pe_ix (ixLK K) (pv 2) (pv 6) (fun _ _ => rfl)) (pv 7) (fun _ _ => rfl)) (pv 4)) (pg_sub (pe_ix (ixLK K) (pv 2) (pv 6) (fun _ _ => rfl)) (pv 7) set_list))
      (pss_one (ps_asg (pe_op op_sub (pe_ix (ixLK K) (pe_ix (ixLK K) (pv 2) (pv 7) (fun _ _ => rfl)) (pv 6) (fun _ _ => rfl)) (pv 4)) (pg_sub (pe_ix (ixLK K) (pv 2) (pv 7) (fun _ _ => rfl)) (pv 6) set_list)))))))))
      (pss_one (ps_ret (pv 2)))), ?_⟩
    refine ⟨_, rfl, n, rfl, by omega, by omega, fun D hD => ?_⟩
    refine lc_rows (n := n) (walk_range (lo := 0) (n := n)) hD (by omega) (fun _ _ => trivial) (fun _ => rowV n (fun _ => 0)) ?_ ?_
    · rintro i x H2 H2' hi e2 ⟨rfl, rfl⟩ Qc hq
      refine ⟨rfl, (by decide : 1 ≤ sizeLine), fun p hp => ⟨_, rfl, p, n, _, rfl, rfl, upd_same, by omega, by omega, ?_, fun r hr' => ?_⟩⟩
      · show 1 * (n : Int).toNat ≤ sizeLine
        exact sz_of (by omega)
      · have e3 : Ex H2' (upd H2' p (.lst [V.int 0])) := Ex.new hp
        refine hq r _ (fresh_back e3 hr') (e3.trans (Ex.new hr')) ?_
        rw [upd_same]
        show some (HO.lst (List.replicate n [V.int 0]).flatten) = _
        rw [rep_row]
    · intro H2 ps e2 hD2 hlen R
      have T0 : Tab H H2 D ps n (fun _ _ => 0) := R.tab hD hD2 hlen
      refine ⟨.ref a, rfl, a, rfl, ⟨xs, ex_l e2 hS⟩, for_list (K := K) (a := a) (xs := xs) (fun i σ' H' => ∃ y3 y4 y5 y6 y7, σ' = [some (.int n), some (.ref a), some (.ref D), y3, y4, y5, y6, y7] ∧ Ex H H' ∧ Tab H H' D ps n (cnt (bs.take i)))
        ⟨none, none, none, none, none, rfl, e2, T0⟩ (fun i σ' H' _ ⟨_, _, _, _, _, _, e, _⟩ => ex_l e hS) ?_ ?_⟩
      · rintro i x σ' H' hi ⟨y3, y4, y5, y6, y7, rfl, e, TT⟩
        obtain ⟨b, hb, t, l, rfl, hT, hL⟩ := Paired.get hP hi
        have hbm : b ∈ bs := List.mem_of_getElem? hb
        refine ⟨t, _, rfl, ex_t e hT, rfl, .ref l, _, rfl, .int b.2, [], rfl, rfl, ?_⟩
        refine ⟨.ref l, rfl, l, nv b.1, rfl, ex_l e hL, ?_⟩
        refine for_it (walk_enum (K := K) (a := l) (xs := nv b.1)) (fun p σ' H' => ∃ y5 y6 y7, σ' = [some (.int n), some (.ref a), some (.ref D), some (.ref l), some (.int b.2), y5, y6, y7] ∧ Ex H H' ∧ Tab H H' D ps n (fun i' j' => cnt (bs.take i) i' j' + b.2 * psA i' j' p b.1))
          ⟨_, _, _, rfl, e, TT.congr fun i' j' _ _ => by show cnt (bs.take i) i' j' = cnt (bs.take i) i' j' + b.2 * 0; omega⟩ (fun p σ' H' _ ⟨_, _, _, _, e, _⟩ => ex_l e hL) ?_ ?_
        · rintro p x σ' H' H'' hp ⟨y5, y6, y7, rfl, e, TT⟩ ⟨U, x1, x2, rfl, nU, rfl, h1, h2⟩
          cases h1
          obtain ⟨k, hk', rfl⟩ := nv_get h2
          have hkn : k < n := hk b hbm k (List.mem_of_getElem? hk')
          refine ⟨U, _, rfl, st_of upd_same, rfl, _, _, rfl, _, [], rfl, rfl, ?_⟩
          have e3 : Ex H' (upd H' U (.tup [.int (p : Nat), .int k])) := Ex.new nU
          refine ⟨.ref l, rfl, .int p, rfl, _, _, rfl, rfl, _, rfl, l, nv b.1, rfl, ex_l (e.trans e3) hL, fun c nc => ?_⟩
          rw [cut_nv_from]
          have e4 : Ex _ (upd (upd H' U (.tup [.int (p : Nat), .int k])) c (.lst (nv (b.1.drop (p + 1))))) := Ex.new nc
          have ncr : ∀ r ∈ ps, c ≠ r := fun r hr' ec => by
            obtain ⟨i0, hi0, ei0⟩ := List.mem_iff_getElem.mp hr'
            have := (TT.mono e3).row i0 r (by rw [List.getElem?_eq_getElem hi0, ei0])
            rw [← ec, nc] at this
            cases this
          refine ⟨c, rfl, ⟨_, sq_of upd_same⟩, for_list (K := K) (a := c) (xs := nv (b.1.drop (p + 1))) (fun z σ' H' => ∃ y7, σ' = [some (.int n), some (.ref a), some (.ref D), some (.ref l), some (.int b.2), some (.int p), some (.int k), y7] ∧ Ex H H' ∧ H' c = some (.lst (nv (b.1.drop (p + 1)))) ∧ Tab H H' D ps n (fun i' j' => cnt (bs.take i) i' j' + b.2 * (psA i' j' p b.1 + dsum i' j' k ((b.1.drop (p + 1)).take z))))
            ⟨_, rfl, (e.trans e3).trans e4, upd_same, ((TT.mono e3).mono e4).congr fun i' j' _ _ => by show _ = cnt (bs.take i) i' j' + b.2 * (psA i' j' p b.1 + 0); rw [Int.add_zero]⟩ (fun z σ' H' _ ⟨_, _, _, hc, _⟩ => sq_of hc) ?_ ?_⟩
          · rintro z x σ' H' hz ⟨y7, rfl, e, hc, TT⟩
            obtain ⟨m, hm, rfl⟩ := nv_get hz
            have hmn : m < n := hk b hbm m (List.mem_of_mem_drop (List.mem_of_getElem? hm))
            obtain ⟨r1, g1, m1, x1, c1⟩ := TT.at_ hkn
            have T1 := TT.put (b := m) (z := (cnt (bs.take i) k m + b.2 * (psA k m p b.1 + dsum k m k ((b.1.drop (p + 1)).take z))) + b.2) g1
            have e5 := fun o => TT.exMut (o := o) e m1
            obtain ⟨r2, g2, m2, x2, c2⟩ := T1.at_ hmn
            refine ⟨.ref D, rfl, .int k, rfl, D, _, k, .ref r1, rfl, rfl, sq_of TT.top, atI_nat x1, .int m, rfl, r1, _, m, .int _, rfl, rfl, sq_of c1, atI_nat (rowV_get hmn), .int b.2, rfl, _, _, rfl, rfl, .ref D, rfl, .int k, rfl, D, _, k, .ref r1, rfl, rfl, sq_of TT.top, atI_nat x1, .int m, rfl, r1, _, m, m, rfl, rfl, c1, ixN_nat (by rw [rowV_length]; exact hmn), ?_⟩
            refine ⟨.ref D, rfl, .int m, rfl, D, _, m, .ref r2, rfl, rfl, sq_of T1.top, atI_nat x2, .int k, rfl, r2, _, k, .int _, rfl, rfl, sq_of c2, atI_nat (rowV_get hkn), .int b.2, rfl, _, _, rfl, rfl, .ref D, rfl, .int m, rfl, D, _, m, .ref r2, rfl, rfl, sq_of T1.top, atI_nat x2, .int k, rfl, r2, _, k, k, rfl, rfl, c2, ixN_nat (by rw [rowV_length]; exact hkn), ?_⟩
            have T2 := T1.put (b := k) (z := (if m = k ∧ k = m then (cnt (bs.take i) k m + b.2 * (psA k m p b.1 + dsum k m k ((b.1.drop (p + 1)).take z))) + b.2 else (cnt (bs.take i) m k + b.2 * (psA m k p b.1 + dsum m k k ((b.1.drop (p + 1)).take z)))) - b.2) g2
            refine ⟨_, rfl, T1.exMut (e5 _) m2, ?_, T2.congr fun i' j' _ _ => ?_⟩
            · rw [upd_ne (ncr r2 m2), upd_ne (ncr r1 m1)]
              exact hc
            · rw [put_two (fun i' j' => cnt (bs.take i) i' j' + b.2 * (psA i' j' p b.1 + dsum i' j' k ((b.1.drop (p + 1)).take z))), dsum_take_succ _ _ _ _ _ _ hm]
              rw [Int.mul_add, Int.mul_add, Int.mul_add]
              omega
          · rintro σ' H' ⟨y7, rfl, e, hc, TT⟩
            refine ⟨_, _, _, rfl, e, TT.congr fun i' j' _ _ => ?_⟩
            rw [nv_length, List.take_length, psA_succ _ _ _ _ _ hk']
        · rintro σ' H' ⟨y5, y6, y7, rfl, e, TT⟩
          refine ⟨_, _, _, _, _, rfl, e, TT.congr fun i' j' _ _ => ?_⟩
          rw [nv_length, psA_all, cnt_take_succ _ _ _ hb]
      · rintro σ' H' ⟨y3, y4, y5, y6, y7, rfl, e, TT⟩
        rw [show xs.length = bs.length from Paired.len hP, List.take_length] at TT
        exact ⟨_, rfl, q H' D ps e TT⟩
theorem ok_counted (T : Tx K mg) : FnOk P w K mg base CX0 4 T.f_counted T.d_counted ["candidates", "ballots"] (spCounted K) := by
  refine T.F_counted.ok sc_counted (fun vs H Q E h => ?_) (fun cdv A outer s H vs Q E hr h => ?_)
  · obtain ⟨n, v, bs, rfl, _⟩ := h
    rfl
  · obtain ⟨n, v, bs, rfl, hn1, hn, hB, hok, q⟩ := h
    refine ⟨_, pss_cons (ps_expr (pe_call (ok_asked_ballots T) (hr.mono (by decide)) (by rfl) T.g_asked_ballots T.F_asked_ballots.kp (b_asked_ballots T) .nil pass0 (pa_cons (pv 0) (pa_cons (pv 1) pa_nil))))
      (pss_one (ps_ret (pe_call (ok_count_of T) (hr.mono (by decide)) (by rfl) T.g_count_of T.F_count_of.kp (b_count_of T) .nil pass0 (pa_cons (pv 0) (pa_cons (pv 1) pa_nil))))), ?_⟩
    refine ⟨_, rfl, _, rfl, n, v, bs, rfl, hn1, hn, hB, hok, fun H2 e2 => ?_⟩
    refine ⟨_, rfl, _, rfl, n, v, bs, rfl, hn, hB.mono e2, fun b hb => okB_lt (List.all_eq_true.mp hok b hb), fun H3 t rs e3 TT => q H3 t rs (e2.trans e3) (TT.base e2)⟩
end
end Hc
namespace Hc
open PySem PySem.Spec PyProof.Rows L2 Evl
section
variable {P : Program} {w : World} {K : PySem.W.Frag} {mg : Str → Option Value} {base : Heap}
def spRInit (K : PySem.W.Frag) (C : Addr) : Sp := fun vs H Q _ => ∃ (x dx l : Addr) (ns : List Int), vs = [.ref x, .ref l] ∧ H x = some (.ins C dx []) ∧ SqL K H l (iv ns) ∧ ∀ H2 p, ExB x H H2 → H p = none → H2 x = some (.ins C dx [("way", .ref p)]) → H2 p = some (.lst (iv ns)) → Q .non H2
def spRShows (K : PySem.W.Frag) (C : Addr) : Sp := fun vs H Q _ => ∃ (x dx p : Addr) (v : V) (ns : List Int) (n : Nat) (f : Nat → Nat → Int), vs = [.ref x, v] ∧ H x = some (.ins C dx [("way", .ref p)]) ∧ SqL K H p (iv ns) ∧ ns.length ≤ 1000 ∧ TabR K H v n f ∧ ∀ H2, Ex H H2 → Q (.bl (shR n f ns)) H2
theorem map_bl_all {n : Nat} {p : Nat → Bool} : ((List.range n).map fun i => V.bl (p i)) = ((List.range n).map p).map V.bl := by
  rw [List.map_map]
  rfl
theorem all_map_id {n : Nat} {p : Nat → Bool} : ((List.range n).map p).all id = (List.range n).all p := by
  rw [List.all_map]
  rfl
theorem all_at0 (ns : List Int) (p : Int → Bool) : ((List.range ns.length).all fun i => p (at0 ns i)) = ns.all p := by
  rw [Bool.eq_iff_iff, List.all_eq_true, List.all_eq_true]
  constructor
  · intro h k hk
    obtain ⟨i, hi, e⟩ := List.mem_iff_getElem.mp hk
    have h1 := h i (List.mem_range.mpr hi)
    unfold at0 at h1
    rw [List.getD_eq_getElem?_getD, List.getElem?_eq_getElem hi] at h1
    rw [← e]
    exact h1
  · intro h i hi
    rw [List.mem_range] at hi
    unfold at0
    rw [List.getD_eq_getElem?_getD, List.getElem?_eq_getElem hi]
    exact h _ (List.getElem_mem hi)
theorem iv_at0 {ns : List Int} {i : Nat} (h : i < ns.length) : (iv ns)[i]? = some (V.int (at0 ns i)) := by
  unfold iv at0
  rw [List.getElem?_map, List.getElem?_eq_getElem h, List.getD_eq_getElem?_getD, List.getElem?_eq_getElem h]
  rfl
theorem atI_back {ns : List Int} {i : Nat} (h : i < ns.length) : atI (iv ns) ((i : Int) - 1) = some (V.int (at0 ns (if i = 0 then ns.length - 1 else i - 1))) := by
  by_cases e : i = 0
  · subst e
    rw [if_pos rfl]
    have h1 : iv ns = (iv ns).dropLast ++ [V.int (at0 ns (ns.length - 1))] := by
      have h2 : (iv ns)[ns.length - 1]? = some (V.int (at0 ns (ns.length - 1))) := iv_at0 (by omega)
      have h3 : iv ns ≠ [] := fun e => by
        have := iv_length ns
        rw [e] at this
        simp at this
        omega
      have h4 := List.dropLast_concat_getLast h3
      have h5 : (iv ns).getLast h3 = V.int (at0 ns (ns.length - 1)) := by
        rw [List.getLast_eq_getElem]
        rw [List.getElem?_eq_getElem (by rw [iv_length]; omega)] at h2
        have h6 := Option.some.inj h2
        rw [← h6]
        congr 1
        rw [iv_length]
      rw [h5] at h4
      exact h4.symm
    rw [h1]
    exact atI_last _ _
  · rw [if_neg e, show (i : Int) - 1 = ((i - 1 : Nat) : Int) by omega]
    exact atI_nat (iv_at0 (by omega))
def spIsPk (K : PySem.W.Frag) : Sp := fun vs H Q _ => ∃ (l : Addr) (ks : List Nat), vs = [.ref l] ∧ SqL K H l (nv ks) ∧ ks ≠ [] ∧ ks.length ≤ 1000 ∧ ∀ H2, Ex H H2 → Q (.bl (isPk ks)) H2
theorem pk_drop {lo hi : Int} {l : List Nat} {i x : Nat} (h : l[i]? = some x) : pk lo hi (l.drop i) = if (x : Int) = lo - 1 then pk x hi (l.drop (i + 1)) else if (x : Int) = hi + 1 then pk lo x (l.drop (i + 1)) else false := by
  have hi' : i < l.length := (List.getElem?_eq_some_iff.mp h).1
  have e : l[i] = x := (List.getElem?_eq_some_iff.mp h).2
  rw [List.drop_eq_getElem_cons hi', e]
  rfl
theorem ok_is_peaked (T : Tx K mg) : FnOk P w K mg base CX0 1 T.f_is_peaked T.d_is_peaked ["order"] (spIsPk K) := by
  refine T.F_is_peaked.ok sc_is_peaked (fun vs H Q E h => ?_) (fun cdv A outer s H vs Q E hr h => ?_)
  · obtain ⟨l, ks, rfl, _⟩ := h
    rfl
  · obtain ⟨l, ks, rfl, hL, h0, hk1, q⟩ := h
    obtain ⟨x, r, rfl⟩ : ∃ x r, ks = x :: r := by
      cases ks with
      | nil => exact absurd rfl h0
      | cons x r => exact ⟨x, r, rfl⟩
    refine ⟨_, pss_cons (ps_set (i := 1) sc_is_peaked.nd rfl (Or.inl rfl) (pe_ix (ixLK K) (pv 0) pe_int (fun _ _ => rfl)))
      (pss_cons (ps_set (i := 2) sc_is_peaked.nd rfl (Or.inl rfl) (pe_ix (ixLK K) (pv 0) pe_int (fun _ _ => rfl)))
      (pss_cons (ps_for PassesOwn.never rfl (piL K (pe_slice (slLK K) (pv 0) (po_some pe_int) po_none)) (pg_name (i := 3) sc_is_peaked.nd rfl (by first | exact Or.inl rfl | exact Or.inr rfl))
        (pss_one (ps_if (pt_cmpR op_eq (pv 3) (pe_op op_sub (pv 1) pe_int) (nomark _)) (pss_one (ps_set (i := 1) sc_is_peaked.nd rfl (Or.inl rfl) (pv 3))) (pss_one (ps_if (pt_cmpR op_eq (pv 3) (pe_op op_add (pv 2) pe_int) (nomark _)) (pss_one (ps_set (i := 2) sc_is_peaked.nd rfl (Or.inl rfl) (pv 3))) (pss_one (ps_ret pe_bl)))))))
      (pss_one (ps_ret pe_bl)))), ?_⟩
    refine ⟨_, rfl, l, _, 0, .int (x : Int), rfl, rfl, hL, atI_nat (j := 0) rfl, ?_⟩
    refine ⟨_, rfl, l, _, 0, .int (x : Int), rfl, rfl, hL, atI_nat (j := 0) rfl, ?_⟩
    refine ⟨_, rfl, 1, rfl, l, _, rfl, hL, fun c nc => ?_⟩
    have ec : cutV (nv (x :: r)) (some 1) none = nv r := by
      rw [show (1 : Int) = ((1 : Nat) : Int) from rfl, cut_from, nv_drop]
      rfl
    rw [ec]
    have e1 := Ex.new (o := .lst (nv r)) nc
    refine ⟨c, rfl, ⟨_, sq_of upd_same⟩, for_list (K := K) (a := c) (xs := nv r) (fun i σ' H' => ∃ (lo hi : Int) (y3 : Option V), σ' = [some (.ref l), some (.int lo), some (.int hi), y3] ∧ Ex H H' ∧ H' c = some (.lst (nv r)) ∧ pk lo hi (r.drop i) = isPk (x :: r))
      ⟨x, x, _, rfl, e1, upd_same, rfl⟩ (fun i σ' H' _ ⟨_, _, _, _, _, hc, _⟩ => sq_of hc) ?_ ?_⟩
    · rintro i y σ' H' hi ⟨lo, hi', y3, rfl, e, hc, hpk⟩
      obtain ⟨k, hk, rfl⟩ := nv_get hi
      rw [pk_drop hk] at hpk
      refine ⟨_, rfl, _, rfl, _, _, rfl, rfl, rfl, _, rfl, ?_⟩
      rw [dec_int]
      refine it2 (fun h1 => ?_) (fun h1 => ?_)
      · rw [if_pos (of_decide_eq_true h1)] at hpk
        exact ⟨_, rfl, _, _, _, rfl, e, hc, hpk⟩
      · rw [if_neg (of_decide_eq_false h1)] at hpk
        refine ⟨_, rfl, _, rfl, _, _, rfl, rfl, rfl, _, rfl, ?_⟩
        rw [dec_int]
        refine it2 (fun h2 => ?_) (fun h2 => ?_)
        · rw [if_pos (of_decide_eq_true h2)] at hpk
          exact ⟨_, rfl, _, _, _, rfl, e, hc, hpk⟩
        · rw [if_neg (of_decide_eq_false h2)] at hpk
          rw [← hpk] at q
          exact q _ e
    · rintro σ' H' ⟨lo, hi', y3, rfl, e, hc, hpk⟩
      rw [nv_length, List.drop_length] at hpk
      rw [← hpk] at q
      exact q _ e
def spPeaked (K : PySem.W.Frag) : Sp := fun vs H Q _ => ∃ (n : Nat) (v : V) (bs : List (List Nat × Int)), vs = [.int (n : Int), v] ∧ 1 ≤ n ∧ n ≤ 20 ∧ BalsR K H v bs ∧ bs.all (okB n) = true ∧ bs.length ≤ 1000 ∧ ∀ H2, Ex H H2 → Q (.bl (bs.all fun b => isPk b.1)) H2
theorem all_bals (bs : List (List Nat × Int)) (p : List Nat × Int → Bool) : ((List.range bs.length).map fun i => p (bs.getD i ([], 0))).all id = bs.all p := by
  rw [Bool.eq_iff_iff, List.all_eq_true, List.all_eq_true]
  constructor
  · intro h b hb
    obtain ⟨i, hi, rfl⟩ := List.mem_iff_getElem.mp hb
    have := h (p (bs.getD i ([], 0))) (List.mem_map.mpr ⟨i, List.mem_range.mpr hi, rfl⟩)
    rw [List.getD_eq_getElem?_getD, List.getElem?_eq_getElem hi] at this
    exact this
  · intro h c hc
    obtain ⟨i, hi, rfl⟩ := List.mem_map.mp hc
    have hi2 := List.mem_range.mp hi
    refine h _ ?_
    rw [List.getD_eq_getElem?_getD, List.getElem?_eq_getElem hi2]
    exact List.getElem_mem hi2
theorem okB_ne {n : Nat} (hn : 1 ≤ n) {b : List Nat × Int} (h : okB n b = true) : b.1 ≠ [] := fun e => by
  have := okB_len h
  rw [e] at this
  simp at this
  omega
theorem ok_peaked (T : Tx K mg) : FnOk P w K mg base CX0 4 T.f_peaked T.d_peaked ["candidates", "ballots"] (spPeaked K) := by
  refine T.F_peaked.ok sc_peaked (fun vs H Q E h => ?_) (fun cdv A outer s H vs Q E hr h => ?_)
  · obtain ⟨n, v, bs, rfl, _⟩ := h
    rfl
  · obtain ⟨n, v, bs, rfl, hn1, hn, hB, hok, hbl, q⟩ := h
    obtain ⟨a, xs, rfl, hS, hP⟩ := id hB
    have hxl : xs.length = bs.length := Paired.len hP
    refine ⟨_, pss_cons (ps_expr (pe_call (ok_asked_ballots T) (hr.mono (by decide)) (by rfl) T.g_asked_ballots T.F_asked_ballots.kp (b_asked_ballots T) .nil pass0 (pa_cons (pv 0) (pa_cons (pv 1) pa_nil))))
      (pss_one (ps_ret (pe_callB (allK K) (by rfl) T.n_all PyProof.Rows.boot_all (pa_cons (pe_lc (own := [("order", 2), ("many", 3)]) rfl sc_peaked.nd (piL K (pv 1)) (blkOk_by (own := [("order", 2), ("many", 3)]) (N := ["candidates", "ballots", "order", "many"]) (sc := defScope s_peaked) (by decide +kernel)) (fun _ _ _ _ _ => (pgT K (n := 2) (pgs_cons (pg_name (i := 2) sc_peaked.nd rfl (by first | exact Or.inl rfl | exact Or.inr rfl)) (pgs_cons (pg_name (i := 3) sc_peaked.nd rfl (by first | exact Or.inl rfl | exact Or.inr rfl)) pgs_nil)))) (fun _ _ _ _ _ => pts_nil) (fun _ _ _ _ _ => (pe_call (ok_is_peaked T) (hr.mono (by decide)) (by rfl) T.g_is_peaked T.F_is_peaked.kp (b_is_peaked T) .nil pass0 (pa_cons (pv 2) pa_nil)))) pa_nil)))), ?_⟩
    refine ⟨_, rfl, _, rfl, n, _, bs, rfl, hn1, hn, hB, hok, fun H1 e1 => ?_⟩
    refine ⟨_, rfl, a, rfl, ⟨xs, ex_l e1 hS⟩, fun D hD => ?_⟩
    refine lc_vals (walk_list (K := K) (a := a) (xs := xs)) hD (by omega) (fun Hx e => ex_l (e1.trans e) hS) (fun i => V.bl (isPk (bs.getD i ([], 0)).1)) ?_ ?_
    · rintro i x Ha Ha' hi ea ⟨rfl, hx⟩ Qc hq
      obtain ⟨b, hb, t, l, rfl, hT, hL⟩ := Paired.get hP hx
      rw [List.getD_eq_getElem?_getD, hb] at hq
      have eH := e1.trans ea
      exact ⟨t, _, rfl, ex_t eH hT, rfl, .ref l, _, rfl, .int b.2, [], rfl, rfl, rfl, _, rfl, l, b.1, rfl, ex_l eH hL, okB_ne hn1 (List.all_eq_true.mp hok b (List.mem_of_getElem? hb)), by rw [okB_len (List.all_eq_true.mp hok b (List.mem_of_getElem? hb))]; omega, fun H2 e2 => hq _ e2⟩
    · intro H2 e2 hD2
      rw [hxl, map_bl_all] at hD2
      refine ⟨D, _, rfl, sq_of hD2, ?_⟩
      rw [all_bals bs fun b => isPk b.1]
      exact q _ (e1.trans e2)
end
end Hc
namespace Hc
open PySem PySem.Spec PyProof.Rows L2 Evl
section
variable {P : Program} {w : World} {K : PySem.W.Frag} {mg : Str → Option Value} {base : Heap}
def spMid (K : PySem.W.Frag) : Sp := fun vs H Q _ => ∃ (n : Nat) (v : V) (bs : List (List Nat × Int)), vs = [.int (n : Int), v] ∧ 1 ≤ n ∧ n ≤ 20 ∧ BalsR K H v bs ∧ bs.all (okB n) = true ∧ (bs.all fun b => isPk b.1) = true ∧ bs.length ≤ 1000 ∧
  ∀ H2 w, Ex H H2 → w < n → wholeOf bs ≤ 2 * held bs w → (∀ v, v < w → 2 * held bs v < wholeOf bs) → Q (.int (w : Nat)) H2
theorem heldB_zero : ∀ bs : List (List Nat × Int), heldB bs 0 = 0
  | [] => rfl
  | b :: bs => by
    have := heldB_zero bs
    unfold heldB at this ⊢
    rw [List.map_cons, List.sum_cons, this, if_neg (by omega)]
    rfl
theorem map_getD_bals (bs : List (List Nat × Int)) : ((List.range bs.length).map fun i => (bs.getD i ([], 0)).2) = bs.map fun b => b.2 := by
  apply List.ext_getElem?
  intro i
  rw [List.getElem?_map, List.getElem?_map]
  by_cases h : i < bs.length
  · rw [List.getElem?_range h, List.getElem?_eq_getElem h, Option.map_some, Option.map_some, List.getD_eq_getElem?_getD, List.getElem?_eq_getElem h]
    rfl
  · rw [List.getElem?_eq_none (by rw [List.length_range]; omega), List.getElem?_eq_none (by omega)]
    rfl
theorem sum_filt (p : Nat → Bool) (g : Nat → Int) : ∀ l : List Nat, ((l.filter p).map g).sum = (l.map fun i => if p i then g i else 0).sum
  | [] => rfl
  | a :: l => by
    rw [List.map_cons, List.sum_cons, ← sum_filt p g l, List.filter_cons]
    cases h : p a
    · simp
    · simp
theorem held_step (bs : List (List Nat × Int)) (w : Nat) : heldB bs w + (((List.range bs.length).filter fun i => topOf (bs.getD i ([], 0)) == w).map fun i => (bs.getD i ([], 0)).2).sum = held bs w := by
  rw [sum_filt (fun i => topOf (bs.getD i ([], 0)) == w) fun i => (bs.getD i ([], 0)).2]
  have e : ((List.range bs.length).map fun i => if (topOf (bs.getD i ([], 0)) == w) = true then (bs.getD i ([], 0)).2 else 0) = bs.map fun b => if (topOf b == w) = true then b.2 else 0 := by
    apply List.ext_getElem?
    intro i
    rw [List.getElem?_map, List.getElem?_map]
    by_cases h : i < bs.length
    · rw [List.getElem?_range h, List.getElem?_eq_getElem h, Option.map_some, Option.map_some, List.getD_eq_getElem?_getD, List.getElem?_eq_getElem h]
      rfl
    · rw [List.getElem?_eq_none (by rw [List.length_range]; omega), List.getElem?_eq_none (by omega)]
      rfl
  rw [e]
  unfold heldB held
  induction bs with
  | nil => rfl
  | cons b bs ih =>
    have ih2 := ih (by
      apply List.ext_getElem?
      intro i
      rw [List.getElem?_map, List.getElem?_map]
      by_cases h : i < bs.length
      · rw [List.getElem?_range h, List.getElem?_eq_getElem h, Option.map_some, Option.map_some, List.getD_eq_getElem?_getD, List.getElem?_eq_getElem h]
        rfl
      · rw [List.getElem?_eq_none (by rw [List.length_range]; omega), List.getElem?_eq_none (by omega)]
        rfl)
    rw [List.map_cons, List.map_cons, List.map_cons, List.sum_cons, List.sum_cons, List.sum_cons, ← ih2]
    by_cases c1 : topOf b < w
    · rw [if_pos c1, if_neg (by simp; omega), if_pos (by omega)]
      omega
    · by_cases c2 : topOf b = w
      · rw [if_neg c1, if_pos (by simp [c2]), if_pos (by omega)]
        omega
      · rw [if_neg c1, if_neg (by simpa using c2), if_neg (by omega)]
        omega
theorem held_all {n : Nat} (hn : 1 ≤ n) {bs : List (List Nat × Int)} (h : bs.all (okB n) = true) : held bs (n - 1) = wholeOf bs := by
  unfold held wholeOf
  congr 1
  refine List.map_congr_left fun b hb => ?_
  have h1 := List.all_eq_true.mp h b hb
  have h2 : topOf b < n := by
    unfold topOf
    cases hl : b.1 with
    | nil => exact absurd hl (okB_ne hn h1)
    | cons x l => exact okB_lt h1 x (by rw [hl]; exact List.mem_cons_self ..)
  rw [if_pos (by omega)]
theorem whole_nonneg {n : Nat} : ∀ {bs : List (List Nat × Int)}, bs.all (okB n) = true → 0 ≤ wholeOf bs
  | [], _ => by show (0 : Int) ≤ 0; decide
  | b :: bs, h => by
    rw [List.all_cons, Bool.and_eq_true] at h
    have h1 := whole_nonneg h.2
    have h2 := h.1
    unfold okB at h2
    rw [Bool.and_eq_true] at h2
    have h3 := of_decide_eq_true h2.1
    have e : wholeOf (b :: bs) = b.2 + wholeOf bs := by unfold wholeOf; rw [List.map_cons, List.sum_cons]
    rw [e]
    omega
theorem ok_middle (T : Tx K mg) : FnOk P w K mg base CX0 4 T.f_middle T.d_middle ["candidates", "ballots"] (spMid K) := by
  refine T.F_middle.ok sc_middle (fun vs H Q E h => ?_) (fun cdv A outer s H vs Q E hr h => ?_)
  · obtain ⟨n, v, bs, rfl, _⟩ := h
    rfl
  · obtain ⟨n, v, bs, rfl, hn1, hn, hB, hok, hpk, hbl, q⟩ := h
    obtain ⟨a, xs, rfl, hS, hP⟩ := id hB
    have hxl : xs.length = bs.length := Paired.len hP
    refine ⟨_, pss_cons (ps_expr (pe_call (ok_asked_ballots T) (hr.mono (by decide)) (by rfl) T.g_asked_ballots T.F_asked_ballots.kp (b_asked_ballots T) .nil pass0 (pa_cons (pv 0) (pa_cons (pv 1) pa_nil))))
      (pss_cons (ps_if (pt_not (pt_val (pe_callB (allK K) (by rfl) T.n_all PyProof.Rows.boot_all (pa_cons (pe_lc (own := [("order", 5), ("many", 6)]) rfl sc_middle.nd (piL K (pv 1)) (blkOk_by (own := [("order", 5), ("many", 6)]) (N := ["candidates", "ballots", "whole", "held", "who", "order", "many"]) (sc := defScope s_middle) (by decide +kernel)) (fun _ _ _ _ _ => (pgT K (n := 2) (pgs_cons (pg_name (i := 5) sc_middle.nd rfl (by first | exact Or.inl rfl | exact Or.inr rfl)) (pgs_cons (pg_name (i := 6) sc_middle.nd rfl (by first | exact Or.inl rfl | exact Or.inr rfl)) pgs_nil)))) (fun _ _ _ _ _ => pts_nil) (fun _ _ _ _ _ => (pe_call (ok_is_peaked T) (hr.mono (by decide)) (by rfl) T.g_is_peaked T.F_is_peaked.kp (b_is_peaked T) .nil pass0 (pa_cons (pv 5) pa_nil)))) pa_nil)))) (pss_one (ps_never)) (pss_nil))
      (pss_cons (ps_set (i := 2) sc_middle.nd rfl (Or.inl rfl) (pe_callB (sumK K) (by rfl) T.n_sum PyProof.Rows.boot_sum (pa_cons (pe_lc (own := [("order", 5), ("many", 6)]) rfl sc_middle.nd (piL K (pv 1)) (blkOk_by (own := [("order", 5), ("many", 6)]) (N := ["candidates", "ballots", "whole", "held", "who", "order", "many"]) (sc := defScope s_middle) (by decide +kernel)) (fun _ _ _ _ _ => (pgT K (n := 2) (pgs_cons (pg_name (i := 5) sc_middle.nd rfl (by first | exact Or.inl rfl | exact Or.inr rfl)) (pgs_cons (pg_name (i := 6) sc_middle.nd rfl (by first | exact Or.inl rfl | exact Or.inr rfl)) pgs_nil)))) (fun _ _ _ _ _ => pts_nil) (fun _ _ _ _ _ => (pv 6))) pa_nil)))
      (pss_cons (ps_set (i := 3) sc_middle.nd rfl (Or.inl rfl) pe_int)
      (pss_cons (ps_for PassesOwn.never rfl (pi_range1 (by rfl) T.n_range (pa_cons (pv 0) pa_nil)) (pg_name (i := 4) sc_middle.nd rfl (by first | exact Or.inl rfl | exact Or.inr rfl))
        (pss_cons (ps_set (i := 3) sc_middle.nd rfl (Or.inl rfl) (pe_op op_add (pv 3) (pe_callB (sumK K) (by rfl) T.n_sum PyProof.Rows.boot_sum (pa_cons (pe_lc (own := [("order", 5), ("many", 6)]) rfl sc_middle.nd (piL K (pv 1)) (blkOk_by (own := [("order", 5), ("many", 6)]) (N := ["candidates", "ballots", "whole", "held", "who", "order", "many"]) (sc := defScope s_middle) (by decide +kernel)) (fun _ _ _ _ _ => (pgT K (n := 2) (pgs_cons (pg_name (i := 5) sc_middle.nd rfl (by first | exact Or.inl rfl | exact Or.inr rfl)) (pgs_cons (pg_name (i := 6) sc_middle.nd rfl (by first | exact Or.inl rfl | exact Or.inr rfl)) pgs_nil)))) (fun _ _ _ _ _ => pts_one (pt_cmpR op_eq (pe_ix (ixLK K) (pv 5) pe_int (fun _ _ => rfl)) (pv 4) (nomark _))) (fun _ _ _ _ _ => (pv 6))) pa_nil))))
      (pss_one (ps_if (pt_cmpR op_ge (pe_op op_mulG pe_int (pv 3)) (pv 2) (nomark _)) (pss_one (ps_ret (pv 4))) (pss_nil)))))
      (pss_one (ps_ret pe_int)))))), ?_⟩
    refine ⟨_, rfl, _, rfl, n, _, bs, rfl, hn1, hn, hB, hok, fun H1 e1 => ?_⟩
    refine ⟨_, rfl, a, rfl, ⟨xs, ex_l e1 hS⟩, fun D hD => ?_⟩
    refine lc_vals (walk_list (K := K) (a := a) (xs := xs)) hD (by omega) (fun Hx e => ex_l (e1.trans e) hS) (fun i => V.bl (isPk (bs.getD i ([], 0)).1)) ?_ ?_
    · rintro i x Ha Ha' hi ea ⟨rfl, hx⟩ Qc hq
      obtain ⟨b, hb, t, l, rfl, hT, hL⟩ := Paired.get hP hx
      rw [List.getD_eq_getElem?_getD, hb] at hq
      have eH := e1.trans ea
      exact ⟨t, _, rfl, ex_t eH hT, rfl, .ref l, _, rfl, .int b.2, [], rfl, rfl, rfl, _, rfl, l, b.1, rfl, ex_l eH hL, okB_ne hn1 (List.all_eq_true.mp hok b (List.mem_of_getElem? hb)), by rw [okB_len (List.all_eq_true.mp hok b (List.mem_of_getElem? hb))]; omega, fun H2 e2 => hq _ e2⟩
    intro H2 e2 hD2
    rw [hxl, map_bl_all] at hD2
    refine ⟨D, _, rfl, sq_of hD2, true, by rw [all_bals bs fun b => isPk b.1, hpk], ?_⟩
    have e12 := e1.trans e2
    refine ⟨_, rfl, a, rfl, ⟨xs, ex_l e12 hS⟩, fun D2 hD2' => ?_⟩
    refine lc_vals (walk_list (K := K) (a := a) (xs := xs)) hD2' (by omega) (fun Hx e => ex_l (e12.trans e) hS) (fun i => V.int (bs.getD i ([], 0)).2) ?_ ?_
    · rintro i x Ha Ha' hi ea ⟨rfl, hx⟩ Qc hq
      obtain ⟨b, hb, t, l, rfl, hT, hL⟩ := Paired.get hP hx
      rw [List.getD_eq_getElem?_getD, hb] at hq
      exact ⟨t, _, rfl, ex_t (e12.trans ea) hT, rfl, .ref l, _, rfl, .int b.2, [], rfl, rfl, rfl, _, rfl, hq _ (Ex.refl _)⟩
    intro H3 e3 hD3
    have eW : ((List.range xs.length).map fun i => V.int (bs.getD i ([], 0)).2) = (bs.map fun b => b.2).map V.int := by
      rw [hxl, ← map_getD_bals, List.map_map]
      rfl
    rw [eW] at hD3
    refine ⟨D2, _, rfl, sq_of hD3, ?_⟩
    have e13 := e12.trans e3
    refine ⟨_, rfl, n, rfl, by omega, by omega, ?_⟩
    refine for_it (walk_rg0 (n := n)) (fun i σ' H' => ∃ y4, σ' = [some (.int n), some (.ref a), some (.int (wholeOf bs)), some (.int (heldB bs i)), y4, none, none] ∧ Ex H H' ∧ ∀ v, v < i → 2 * held bs v < wholeOf bs)
      ⟨none, by rw [heldB_zero]; rfl, e13, fun v hv => by omega⟩ (fun _ _ _ _ _ => trivial) ?_ ?_
    · rintro i x σ' H' H'' hi ⟨y4, rfl, e, hlow⟩ ⟨rfl, rfl⟩
      refine ⟨_, rfl, _, rfl, a, rfl, ⟨xs, ex_l e hS⟩, fun D4 hD4 => ?_⟩
      refine lc_filt (walk_list (K := K) (a := a) (xs := xs)) hD4 (by omega) (fun Hx e2 => ex_l (e.trans e2) hS) (fun j => topOf (bs.getD j ([], 0)) == i) (fun j => V.int (bs.getD j ([], 0)).2) ?_ ?_
      · rintro j x Ha Ha' hj ea ⟨rfl, hx⟩ Bf Qc hno hyes
        obtain ⟨b, hb, t, l, rfl, hT, hL⟩ := Paired.get hP hx
        rw [List.getD_eq_getElem?_getD, hb] at hno hyes
        have eH := e.trans ea
        have hokb := List.all_eq_true.mp hok b (List.mem_of_getElem? hb)
        obtain ⟨x0, l0, hl0⟩ : ∃ x0 l0, b.1 = x0 :: l0 := by
          cases hl : b.1 with
          | nil => exact absurd hl (okB_ne hn1 hokb)
          | cons x0 l0 => exact ⟨x0, l0, rfl⟩
        have htop : topOf b = x0 := by unfold topOf; rw [hl0]; rfl
        have hL2 := ex_l eH hL
        rw [hl0] at hL2
        refine ⟨t, _, rfl, ex_t eH hT, rfl, .ref l, _, rfl, .int b.2, [], rfl, rfl, rfl, _, rfl, l, _, 0, .int (x0 : Int), rfl, rfl, hL2, atI_nat (j := 0) rfl, _, rfl, rfl, _, rfl, ?_⟩
        rw [dec_int]
        by_cases c : x0 = i
        · refine itT (decide_eq_true (by omega)) ⟨_, rfl, hyes _ (Ex.refl _) ?_⟩
          show (topOf b == i) = true
          rw [htop, c]
          exact beq_self_eq_true i
        · refine itF (decide_eq_false (by omega)) (hno _ (Ex.refl _) ?_)
          show (topOf b == i) = false
          rw [htop]
          exact beq_false_of_ne c
      · intro H4 e4 hD4'
        have eS : (((List.range xs.length).filter fun j => topOf (bs.getD j ([], 0)) == i).map fun j => V.int (bs.getD j ([], 0)).2) = (((List.range bs.length).filter fun j => topOf (bs.getD j ([], 0)) == i).map fun j => (bs.getD j ([], 0)).2).map V.int := by
          rw [hxl, List.map_map]
          rfl
        rw [eS] at hD4'
        refine ⟨D4, _, rfl, sq_of hD4', _, _, rfl, rfl, ?_⟩
        dsimp only
        rw [held_step]
        refine ⟨_, rfl, _, _, rfl, rfl, mulOk_small (by decide) (by decide), _, rfl, _, _, rfl, rfl, _, rfl, it2 (fun h1 => ?_) (fun h1 => ?_)⟩
        · exact ⟨_, rfl, q _ i (e.trans e4) hi (of_decide_eq_true h1) hlow⟩
        · have h2 : ¬ wholeOf bs ≤ 2 * held bs i := of_decide_eq_false h1
          refine ⟨some (.int (i : Int)), by rw [heldB_succ]; rfl, e.trans e4, fun v hv => ?_⟩
          by_cases c : v = i
          · rw [c]
            omega
          · exact hlow v (by omega)
    · rintro σ' H' ⟨y4, rfl, e, hlow⟩
      have h1 := hlow (n - 1) (by omega)
      rw [held_all hn1 hok] at h1
      have h2 := whole_nonneg hok
      omega
end
end Hc
namespace Hc
open PySem PySem.Spec PyProof.Rows L2 Evl
section
variable {P : Program} {w : World} {K : PySem.W.Frag} {mg : Str → Option Value} {base : Heap}
/-- the least and the greatest of a list -/
def Ends (ks : List Nat) (lo hi : Int) : Prop := (∃ x ∈ ks, (x : Int) = lo) ∧ (∃ x ∈ ks, (x : Int) = hi) ∧ ∀ x ∈ ks, lo ≤ (x : Int) ∧ (x : Int) ≤ hi
theorem ends_uniq {ks : List Nat} {lo hi lo' hi' : Int} (h : Ends ks lo hi) (h' : Ends ks lo' hi') : lo = lo' ∧ hi = hi' := by
  obtain ⟨⟨a, a1, a2⟩, ⟨b, b1, b2⟩, c⟩ := h
  obtain ⟨⟨a', a1', a2'⟩, ⟨b', b1', b2'⟩, c'⟩ := h'
  have := c a' a1'
  have := c b' b1'
  have := c' a a1
  have := c' b b1
  omega
theorem ends_snoc {ks : List Nat} {lo hi : Int} (h : Ends ks lo hi) (x : Nat) : Ends (ks ++ [x]) (min lo x) (max hi x) := by
  obtain ⟨⟨a, a1, a2⟩, ⟨b, b1, b2⟩, c⟩ := h
  refine ⟨?_, ?_, fun y hy => ?_⟩
  · by_cases d : lo ≤ (x : Int)
    · exact ⟨a, List.mem_append_left _ a1, by omega⟩
    · exact ⟨x, by simp, by omega⟩
  · by_cases d : (x : Int) ≤ hi
    · exact ⟨b, List.mem_append_left _ b1, by omega⟩
    · exact ⟨x, by simp, by omega⟩
  · rcases List.mem_append.mp hy with q | q
    · have := c y q
      omega
    · have : y = x := by simpa using q
      omega
/-- each prefix of all, from the taken ones on, spans as many as it holds -/
theorem pk_spans : ∀ (rest taken : List Nat) (lo hi : Int), Ends taken lo hi → hi - lo = (taken.length : Int) - 1 →
    (pk lo hi rest = true ↔ ∀ i, i < rest.length → ∀ m M, Ends (taken ++ rest.take (i + 1)) m M → M - m = ((taken.length + i : Nat) : Int))
  | [], _, _, _, _, _ => ⟨fun _ i h => by simp at h, fun _ => rfl⟩
  | x :: l, taken, lo, hi, he, hs => by
    have he2 := ends_snoc he x
    have lohi : lo ≤ hi := by
      obtain ⟨⟨a, a1, a2⟩, _, c⟩ := he
      have := c a a1
      omega
    have step : ∀ i, (taken ++ (x :: l).take (i + 1 + 1)) = (taken ++ [x]) ++ l.take (i + 1) := fun i => by simp
    have first : ∀ m M, Ends (taken ++ (x :: l).take (0 + 1)) m M → m = min lo x ∧ M = max hi x := fun m M h => by
      have h2 : Ends (taken ++ [x]) m M := by simpa using h
      have := ends_uniq h2 he2
      exact this
    have rest : ∀ lo' hi', lo' = min lo x → hi' = max hi x → hi' - lo' = (taken.length : Int) → (pk lo' hi' l = true ↔ ∀ i, i < (x :: l).length → ∀ m M, Ends (taken ++ (x :: l).take (i + 1)) m M → M - m = ((taken.length + i : Nat) : Int)) := fun lo' hi' e1 e2 e3 => by
      have ih := pk_spans l (taken ++ [x]) lo' hi' (by rw [e1, e2]; exact he2) (by rw [List.length_append]; show _ = ((taken.length + 1 : Nat) : Int) - 1; omega)
      rw [ih]
      constructor
      · intro h i hi2 m M hE
        cases i with
        | zero =>
          obtain ⟨k1, k2⟩ := first m M hE
          omega
        | succ i =>
          rw [step] at hE
          have := h i (by simpa using hi2) m M hE
          rw [List.length_append] at this
          have e4 : ([x] : List Nat).length = 1 := rfl
          omega
      · intro h i hi2 m M hE
        rw [← step] at hE
        have := h (i + 1) (by simpa using hi2) m M hE
        rw [List.length_append]
        have e4 : ([x] : List Nat).length = 1 := rfl
        omega
    show (if (x : Int) = lo - 1 then pk x hi l else if (x : Int) = hi + 1 then pk lo x l else false) = true ↔ _
    by_cases c1 : (x : Int) = lo - 1
    · rw [if_pos c1]
      exact rest x hi (by omega) (by omega) (by omega)
    · rw [if_neg c1]
      by_cases c2 : (x : Int) = hi + 1
      · rw [if_pos c2]
        exact rest lo x (by omega) (by omega) (by omega)
      · rw [if_neg c2]
        refine ⟨fun h => absurd h (by decide), fun h => ?_⟩
        have := h 0 (by simp) _ _ (by simpa using he2)
        omega
theorem isPk_spans {x : Nat} {l : List Nat} : isPk (x :: l) = true ↔ ∀ i, i < (x :: l).length → ∀ m M, Ends ((x :: l).take (i + 1)) m M → M - m = (i : Int) := by
  have h := pk_spans l [x] x x ⟨⟨x, by simp, rfl⟩, ⟨x, by simp, rfl⟩, fun y hy => by
    have : y = x := by simpa using hy
    omega⟩ (by show (x : Int) - x = ((1 : Nat) : Int) - 1; omega)
  show pk x x l = true ↔ _
  rw [h]
  constructor
  · intro k i hi m M hE
    cases i with
    | zero =>
      have h2 : Ends [x] m M := by simpa using hE
      obtain ⟨⟨a, a1, a2⟩, ⟨b, b1, b2⟩, _⟩ := h2
      have : a = x := by simpa using a1
      have : b = x := by simpa using b1
      omega
    | succ i =>
      have := k i (by simpa using hi) m M (by simpa using hE)
      have e4 : ([x] : List Nat).length = 1 := rfl
      omega
  · intro k i hi m M hE
    have := k (i + 1) (by simpa using hi) m M (by simpa using hE)
    have e4 : ([x] : List Nat).length = 1 := rfl
    omega
noncomputable def spanB (ks : List Nat) (i : Nat) : Bool := @decide (∀ m M, Ends (ks.take (i + 1)) m M → M - m = (i : Int)) (Classical.propDecidable _)
theorem spanB_true {ks : List Nat} {i : Nat} : spanB ks i = true ↔ ∀ m M, Ends (ks.take (i + 1)) m M → M - m = (i : Int) := by
  unfold spanB
  exact @decide_eq_true_iff _ (Classical.propDecidable _)
theorem spanB_iff {ks : List Nat} {i : Nat} {m M : Int} (h : Ends (ks.take (i + 1)) m M) : spanB ks i = true ↔ M - m = (i : Int) := by
  rw [spanB_true]
  refine ⟨fun k => k m M h, fun k m' M' h' => ?_⟩
  obtain ⟨e1, e2⟩ := ends_uniq h h'
  omega
theorem span_all (x : Nat) (r : List Nat) : ((List.range (x :: r).length).all fun i => spanB (x :: r) i) = isPk (x :: r) := by
  rw [Bool.eq_iff_iff, List.all_eq_true, isPk_spans]
  exact ⟨fun h i hi => spanB_true.mp (h i (List.mem_range.mpr hi)), fun h i hi => spanB_true.mpr (h i (List.mem_range.mp hi))⟩
theorem ok_law_peaked (T : Tx K mg) : FnOk P w K mg base CX0 1 T.f_law_peaked T.d_law_peaked ["_law_line"] (spIsPk K) := by
  refine T.F_law_peaked.ok sc_law_peaked (fun vs H Q E h => ?_) (fun cdv A outer s H vs Q E hr h => ?_)
  · obtain ⟨l, ks, rfl, _⟩ := h
    rfl
  · obtain ⟨l, ks, rfl, hL, h0, hk1, q⟩ := h
    obtain ⟨x, r, rfl⟩ : ∃ x r, ks = x :: r := by
      cases ks with
      | nil => exact absurd rfl h0
      | cons x r => exact ⟨x, r, rfl⟩
    refine ⟨_, pss_one (ps_ret (pe_callB (allK K) (by rfl) T.n_all PyProof.Rows.boot_all (pa_cons (pe_lc (own := [("_law_many", 1)]) rfl sc_law_peaked.nd (pi_range2 (by rfl) T.n_range (pa_cons pe_int (pa_cons (pe_op op_add (pe_callB (lenK K) (by rfl) T.n_len PySem.boot_len (pa_cons (pv 0) pa_nil)) pe_int) pa_nil))) (blkOk_by (own := [("_law_many", 1)]) (N := ["_law_line", "_law_many"]) (sc := defScope s_law_peaked) (by decide +kernel)) (fun _ _ _ _ _ => (pg_name (i := 1) sc_law_peaked.nd rfl (by first | exact Or.inl rfl | exact Or.inr rfl))) (fun _ _ _ _ _ => pts_nil) (fun _ _ _ _ _ => (pe_cmpR op_eq (pe_op op_sub (pe_callB (maxK K) (by rfl) T.n_max PyProof.Rows.boot_max (pa_cons (pe_slice (slLK K) (pv 0) po_none (po_some (pv 1))) pa_nil)) (pe_callB (minK K) (by rfl) T.n_min PyProof.Rows.boot_min (pa_cons (pe_slice (slLK K) (pv 0) po_none (po_some (pv 1))) pa_nil))) (pe_op op_sub (pv 1) pe_int) (nomark _)))) pa_nil))), ?_⟩
    refine ⟨_, rfl, l, _, rfl, .inl hL, _, _, rfl, rfl, 1, (((nv (x :: r)).length : Nat) : Int) + 1, rfl, ⟨by decide, by decide, by omega, ?_⟩, fun D hD => ?_⟩
    · rw [nv_length]
      omega
    rw [show ((((nv (x :: r)).length : Nat) : Int) + 1 - 1).toNat = (x :: r).length by rw [nv_length]; omega]
    refine lc_vals (n := (x :: r).length) (walk_rg (a := 1) (n := (x :: r).length)) hD (by omega) (fun _ _ => trivial) (fun i => V.bl (spanB (x :: r) i)) ?_ ?_
    · rintro i y Ha Ha' hi ea ⟨rfl, rfl⟩ Qc hq
      have hL1 := ex_l ea hL
      have cut : cutV (nv (x :: r)) none (some ((1 + i : Nat) : Int)) = iv (((x :: r).take (i + 1)).map fun (k : Nat) => (k : Int)) := by
        rw [cut_to, nv_take, nv_iv, Nat.add_comm 1 i]
      have pos : 0 < (((x :: r).take (i + 1)).map fun (k : Nat) => (k : Int)).length := by simp
      refine ⟨rfl, _, rfl, _, rfl, _, rfl, l, _, rfl, hL1, fun c1 nc1 => ?_⟩
      rw [cut]
      have f1 := Ex.new (o := .lst (iv (((x :: r).take (i + 1)).map fun (k : Nat) => (k : Int)))) nc1
      refine ⟨c1, _, rfl, sq_of upd_same, pos, fun M hM hMle => ?_⟩
      refine ⟨_, rfl, _, rfl, _, rfl, l, _, rfl, ex_l f1 hL1, fun c2 nc2 => ?_⟩
      rw [cut]
      have f2 := Ex.new (o := .lst (iv (((x :: r).take (i + 1)).map fun (k : Nat) => (k : Int)))) nc2
      refine ⟨c2, _, rfl, sq_of upd_same, pos, fun m hm hmle => ⟨_, _, rfl, rfl, _, rfl, _, _, rfl, rfl, rfl, ?_⟩⟩
      have he : Ends ((x :: r).take (i + 1)) m M := by
        obtain ⟨a, a1, a2⟩ := List.mem_map.mp hm
        obtain ⟨b, b1, b2⟩ := List.mem_map.mp hM
        exact ⟨⟨a, a1, a2⟩, ⟨b, b1, b2⟩, fun z hz => ⟨hmle _ (List.mem_map.mpr ⟨z, hz, rfl⟩), hMle _ (List.mem_map.mpr ⟨z, hz, rfl⟩)⟩⟩
      rw [dec_int]
      have ev : decide (M - m = ((1 + i : Nat) : Int) - 1) = spanB (x :: r) i := by
        rw [Bool.eq_iff_iff, decide_eq_true_eq, spanB_iff he]
        omega
      rw [ev]
      exact hq _ (f1.trans f2)
    · intro H2 e2 hD2
      rw [map_bl_all] at hD2
      refine ⟨D, _, rfl, sq_of hD2, ?_⟩
      rw [all_map_id, span_all]
      exact q _ e2
end
end Hc
namespace Hc
open PySem PySem.Spec PyProof.Rows L2 Evl
section
variable {P : Program} {w : World} {K : PySem.W.Frag} {mg : Str → Option Value} {base : Heap}
def lawNum (c a w : Int) : Int := if 10 ^ 18 ≤ c then c / (1 + a % 7) else
  (((c + 977 * a) * 48271 + w) % 2147483647 * (c + 31 * a + 7)) * (((c + 977 * a) * 48271 + w) % 2147483647 + c + 5) * (((c + 977 * a) * 48271 + w) % 2147483647 * (((c + 977 * a) * 48271 + w) % 2147483647) + 11) / (1009 + a)
def spLawNum : Sp := fun vs H Q _ => ∃ (c a w : Int) (B : Nat), vs = [.int c, .int a, .int w] ∧ 0 ≤ a ∧ a ≤ 1000 ∧ Big B c ∧ B ≤ 2000000 ∧ Q (.int (lawNum c a w)) H
theorem mod31 (x : Int) : 0 ≤ x % 2147483647 ∧ x % 2147483647 < 2147483647 := ⟨Int.emod_nonneg _ (by decide), Int.emod_lt_of_pos _ (by decide)⟩
theorem ok_law_number (T : Tx K mg) : FnOk P w K mg base CX0 1 T.f_law_number T.d_law_number ["_law_cell", "_law_at", "_law_whole"] spLawNum := by
  refine T.F_law_number.ok sc_law_number (fun vs H Q E h => ?_) (fun cdv A outer s H vs Q E hr h => ?_)
  · obtain ⟨c, a, w', B, rfl, _⟩ := h
    rfl
  · obtain ⟨c, a, w', B, rfl, ha0, ha1, hB, hB2, q⟩ := h
    refine ⟨_, pss_cons (ps_if (pt_cmpR op_ge (pv 0) (pe_op op_pow pe_int pe_int) (nomark _)) (pss_one (ps_ret (pe_op op_fdivW (pv 0) (pe_op op_add pe_int (pe_op op_mod (pv 1) pe_int))))) (pss_nil))
      (pss_cons (ps_set (i := 3) sc_law_number.nd rfl (Or.inl rfl) (pe_op op_mod (pe_op op_add (pe_op op_mulG (pe_op op_add (pv 0) (pe_op op_mulG pe_int (pv 1))) pe_int) (pv 2)) pe_int))
      (pss_cons (ps_set (i := 4) sc_law_number.nd rfl (Or.inl rfl) (pe_op op_mulG (pv 3) (pe_op op_add (pe_op op_add (pv 0) (pe_op op_mulG pe_int (pv 1))) pe_int)))
      (pss_one (ps_ret (pe_op op_fdivW (pe_op op_mulG (pe_op op_mulG (pv 4) (pe_op op_add (pe_op op_add (pv 3) (pv 0)) pe_int)) (pe_op op_add (pe_op op_mulG (pv 3) (pv 3)) pe_int)) (pe_op op_add pe_int (pv 1))))))), ?_⟩
    refine ⟨_, rfl, _, _, rfl, rfl, ⟨by decide, by decide, by decide⟩, _, _, rfl, rfl, _, rfl, it2 (fun hc => ?_) (fun hc => ?_)⟩
    · have hc1 : (10 : Int) ^ 18 ≤ c := of_decide_eq_true hc
      have h7 := Int.emod_lt_of_pos a (show (0 : Int) < 7 by decide)
      have h70 := Int.emod_nonneg a (show (7 : Int) ≠ 0 by decide)
      refine ⟨_, rfl, _, rfl, _, _, rfl, rfl, (by decide : (0 : Int) < 7), _, _, rfl, rfl, _, _, rfl, rfl, divW_small (by omega) (by omega), ?_⟩
      unfold lawNum at q
      rw [if_pos hc1] at q
      exact q
    · have hc1 : ¬ (10 : Int) ^ 18 ≤ c := of_decide_eq_false hc
      unfold lawNum at q
      rw [if_neg hc1] at q
      obtain ⟨m0, m1⟩ := mod31 ((c + 977 * a) * 48271 + w')
      refine ⟨_, rfl, _, rfl, _, _, rfl, rfl, mulOk_small (by decide) (by decide), _, _, rfl, rfl, _, _, rfl, rfl, mulOk_smallR (by decide) (by decide), _, rfl, _, _, rfl, rfl, _, _, rfl, rfl, (by decide : (0 : Int) < 2147483647), ?_⟩
      dsimp only
      generalize ((c + 977 * a) * 48271 + w') % 2147483647 = m at m0 m1 q ⊢
      refine ⟨_, rfl, _, rfl, _, rfl, _, _, rfl, rfl, mulOk_small (by decide) (by decide), _, _, rfl, rfl, _, _, rfl, rfl, _, _, rfl, rfl, mulOk_small (by omega) (by omega), ?_⟩
      have hc' : Big (B + 64) c := hB.mono (Nat.le_add_right _ _)
      have b1 : Big (B + 64 + 1 + 1) (c + 31 * a + 7) := Big.add (Big.add hc' (big_small (Nat.le_add_left _ _) (by omega) (by omega))) (big_small (by omega) (by decide) (by decide))
      have b2 : Big (B + 64 + 1 + 1) (m + c + 5) := Big.add (Big.add (big_small (Nat.le_add_left _ _) (by omega) (by omega)) hc') (big_small (by omega) (by decide) (by decide))
      have b3 : Big (64 + (B + 64 + 1 + 1)) (m * (c + 31 * a + 7)) := Big.mul (big_small (Nat.le_refl _) (by omega) (by omega)) b1
      have mm0 : 0 ≤ m * m := Int.mul_nonneg m0 m0
      have mm1 : m * m ≤ 2147483647 * 2147483647 := Int.mul_le_mul (by omega) (by omega) m0 (by decide)
      refine ⟨_, rfl, _, rfl, _, rfl, _, _, rfl, rfl, _, _, rfl, rfl, _, _, rfl, rfl, mulOk_big b3 b2 (by omega) (by omega) (by omega), _, rfl, _, rfl, _, _, rfl, rfl, mulOk_small (by omega) (by omega), _, _, rfl, rfl, _, _, rfl, rfl, mulOk_smallR (by omega) (by omega), _, rfl, _, _, rfl, rfl, _, _, rfl, rfl, divW_small (by omega) (by omega), q⟩
def spLawBallots (K : PySem.W.Frag) : Sp := fun vs H Q _ => ∃ (a : Addr) (ns : List Int) (n B : Nat), vs = [.ref a, .int (n : Int)] ∧ SqL K H a (iv ns) ∧ n ≤ 20 ∧ (∀ z ∈ ns, Big B z) ∧ B ≤ 2000000 ∧
  ∀ H2 D xs bs, Ex H H2 → H D = none → H2 D = some (.lst xs) → Paired (BalW H2) xs bs → bs.all (okB n) = true → bs.length = min 24 ns.length → Q (.ref D) H2
theorem atI_three {i : Int} (h0 : 0 ≤ i) (h3 : i < 3) {x y z : Int} (hx : 0 < x) (hy : 0 < y) (hz : 0 < z) : ∃ u : Int, 0 < u ∧ atI [V.int x, V.int y, V.int z] i = some (.int u) := by
  rcases (by omega : i = 0 ∨ i = 1 ∨ i = 2) with rfl | rfl | rfl
  · exact ⟨x, hx, rfl⟩
  · exact ⟨y, hy, rfl⟩
  · exact ⟨z, hz, rfl⟩
theorem perm_erase : ∀ (l : List Nat) (k : Nat) (x : Nat), l[k]? = some x → (x :: l.eraseIdx k).Perm l
  | [], _, _, h => by simp at h
  | a :: l, 0, x, h => by
    have e : a = x := by simpa using h
    subst e
    exact List.Perm.refl _
  | a :: l, k + 1, x, h => by
    have h1 := perm_erase l k x (by simpa using h)
    exact (List.Perm.swap a x _).trans (h1.cons a)
theorem nv_erase (l : List Nat) (k : Nat) : (nv l).eraseIdx k = nv (l.eraseIdx k) := by
  unfold nv
  induction l generalizing k with
  | nil => rfl
  | cons a l ih =>
    cases k with
    | zero => rfl
    | succ k =>
      show _ :: (List.map _ l).eraseIdx k = _ :: List.map _ (l.eraseIdx k)
      rw [ih]
theorem nv_append (l m : List Nat) : nv l ++ nv m = nv (l ++ m) := by
  unfold nv
  rw [List.map_append]
theorem ok_law_ballots (T : Tx K mg) : FnOk P w K mg base CX0 2 T.f_law_ballots T.d_law_ballots ["_law_script", "_law_size"] (spLawBallots K) := by
  refine T.F_law_ballots.ok sc_law_ballots (fun vs H Q E h => ?_) (fun cdv A outer s H vs Q E hr h => ?_)
  · obtain ⟨a, ns, n, B, rfl, _⟩ := h
    rfl
  · obtain ⟨a, ns, n, B, rfl, hS, hn, hB, hB2, q⟩ := h
    refine ⟨_, pss_cons (ps_set (i := 2) sc_law_ballots.nd rfl (Or.inl rfl) (pe_lst pa_nil))
      (pss_cons (ps_set (i := 3) sc_law_ballots.nd rfl (Or.inl rfl) (pe_callB (sumK K) (by rfl) T.n_sum PyProof.Rows.boot_sum (pa_cons (pe_slice (slLK K) (pv 0) po_none (po_some pe_int)) pa_nil)))
      (pss_cons (ps_for PassesOwn.never rfl (piE K (by rfl) T.n_enumerate (pa_cons (pe_slice (slLK K) (pv 0) po_none (po_some pe_int)) pa_nil)) (pgT K (n := 2) (pgs_cons (pg_name (i := 4) sc_law_ballots.nd rfl (by first | exact Or.inl rfl | exact Or.inr rfl)) (pgs_cons (pg_name (i := 5) sc_law_ballots.nd rfl (by first | exact Or.inl rfl | exact Or.inr rfl)) pgs_nil)))
        (pss_cons (ps_set (i := 6) sc_law_ballots.nd rfl (Or.inl rfl) (pe_call (ok_law_number T) (hr.mono (by decide)) (by rfl) T.g_law_number T.F_law_number.kp (b_law_number T) .nil pass0 (pa_cons (pv 5) (pa_cons (pv 4) (pa_cons (pv 3) pa_nil)))))
      (pss_cons (ps_set (i := 7) sc_law_ballots.nd rfl (Or.inl rfl) (pe_listRg rfl (by rfl) T.n_list (prg_1 (by rfl) T.n_range (pv 1))))
      (pss_cons (ps_set (i := 8) sc_law_ballots.nd rfl (Or.inl rfl) (pe_lst pa_nil))
      (pss_cons (ps_while PassesOwn.never (pt_cmpR (neDK K hr.units) (pv 7) (pe_lst pa_nil) (nomark _)) (pss_cons (ps_expr (pe_bm PySem.F.plainAttrs_list PySem.F.slot_list_append PySem.F.type_list_append mt_append (pv 8) (pa_cons (pe_bm PySem.F.plainAttrs_list PySem.F.slot_list_pop PySem.F.type_list_pop mt_popAt (pv 7) (pa_cons (pe_op op_mod (pv 6) (pe_callB (lenK K) (by rfl) T.n_len PySem.boot_len (pa_cons (pv 7) pa_nil))) pa_nil)) pa_nil)))
      (pss_one (ps_set (i := 6) sc_law_ballots.nd rfl (Or.inl rfl) (pe_op op_fdivW (pv 6) (pe_op op_add (pe_callB (lenK K) (by rfl) T.n_len PySem.boot_len (pa_cons (pv 7) pa_nil)) pe_int))))))
      (pss_one (ps_expr (pe_bm PySem.F.plainAttrs_list PySem.F.slot_list_append PySem.F.type_list_append mt_append (pv 2) (pa_cons (pe_tup (pa_cons (pv 8) (pa_cons (pe_op op_add pe_int (pe_op op_mod (pe_call (ok_law_number T) (hr.mono (by decide)) (by rfl) T.g_law_number T.F_law_number.kp (b_law_number T) .nil pass0 (pa_cons (pv 5) (pa_cons (pe_op op_add (pv 4) pe_int) (pa_cons (pv 3) pa_nil)))) (pe_ix (ixTK K) (pe_tup (pa_cons pe_int (pa_cons pe_int (pa_cons (pe_op op_pow pe_int pe_int) pa_nil)))) (pe_op op_mod (pe_op op_fdivW (pv 3) pe_int) pe_int) (fun _ _ => rfl)))) pa_nil))) pa_nil)))))))))
      (pss_one (ps_ret (pv 2))))), ?_⟩
    refine ⟨Nat.zero_le _, fun F nF => ?_⟩
    have e1 : Ex H (upd H F (.lst [])) := Ex.new nF
    refine ⟨.ref a, rfl, 63, rfl, a, iv ns, rfl, ex_l e1 hS, fun c1 nc1 => ?_⟩
    have e2 : Ex _ (upd (upd H F (.lst [])) c1 (.lst (cutV (iv ns) none (some 63)))) := Ex.new nc1
    have ec1 : cutV (iv ns) none (some 63) = (ns.take 63).map V.int := by
      rw [show (63 : Int) = ((63 : Nat) : Int) from rfl, cut_to]
      unfold iv
      rw [List.map_take]
    refine ⟨c1, ns.take 63, rfl, sq_of (by rw [upd_same, ec1]), ?_⟩
    generalize (ns.take 63).sum = wh
    refine ⟨.ref a, rfl, 24, rfl, a, iv ns, rfl, ex_l (e1.trans e2) hS, fun c2 nc2 => ?_⟩
    have e3 := Ex.new (o := .lst (cutV (iv ns) none (some 24))) nc2
    have ec2 : cutV (iv ns) none (some 24) = iv (ns.take 24) := by
      rw [show (24 : Int) = ((24 : Nat) : Int) from rfl, cut_to]
      unfold iv
      rw [List.map_take]
    have hF2 : (upd (upd (upd H F (.lst [])) c1 (.lst (cutV (iv ns) none (some 63)))) c2 (.lst (cutV (iv ns) none (some 24)))) F = some (.lst []) := e3 _ _ (e2 _ _ upd_same)
    have hc2 : (upd (upd (upd H F (.lst [])) c1 (.lst (cutV (iv ns) none (some 63)))) c2 (.lst (cutV (iv ns) none (some 24)))) c2 = some (.lst (iv (ns.take 24))) := by rw [upd_same, ec2]
    have nF2 : F ≠ c2 := fun e => by rw [← e, e2 _ _ upd_same] at nc2; cases nc2
    have e13 := (e1.trans e2).trans e3
    generalize (upd (upd (upd H F (.lst [])) c1 (.lst (cutV (iv ns) none (some 63)))) c2 (.lst (cutV (iv ns) none (some 24)))) = H3 at hF2 hc2 e13
    refine ⟨c2, _, rfl, sq_of hc2, ?_⟩
    refine for_it (walk_enum (K := K) (a := c2) (xs := iv (ns.take 24))) (fun p σ' H' => ∃ y4 y5 y6 y7 y8 xs bs, σ' = [some (.ref a), some (.int n), some (.ref F), some (.int wh), y4, y5, y6, y7, y8] ∧ Ex H H' ∧ H' c2 = some (.lst (iv (ns.take 24))) ∧ H' F = some (.lst xs) ∧ Paired (BalW (rem H' F)) xs bs ∧ bs.all (okB n) = true ∧ bs.length = p)
      ⟨none, none, none, none, none, [], [], rfl, e13, hc2, hF2, .nil, rfl, rfl⟩ (fun p σ' H' _ ⟨_, _, _, _, _, _, _, _, _, h, _⟩ => sq_of h) ?_ ?_
    · rintro p x σ' H' H'' hp ⟨y4, y5, y6, y7, y8, xs, bs, rfl, e, hc, hF, hP, hok, hlen⟩ ⟨U, x1, x2, rfl, nU, rfl, h1, h2⟩
      cases h1
      obtain ⟨z, hz, rfl⟩ := iv_get h2
      have hzB : Big B z := hB z (List.mem_of_mem_take (List.mem_of_getElem? hz))
      have hp24 : p < 24 := by
        rw [iv_length, List.length_take] at hp
        omega
      have eU : Ex H' (upd H' U (.tup [.int (p : Nat), .int z])) := Ex.new nU
      refine ⟨U, _, rfl, st_of upd_same, rfl, _, _, rfl, _, [], rfl, rfl, ?_⟩
      refine ⟨_, rfl, _, rfl, _, rfl, z, p, wh, B, rfl, by omega, by omega, hzB, hB2, ?_⟩
      generalize lawNum z p wh = nm
      refine ⟨_, rfl, n, rfl, rgOk_nat (by omega), fun Lf nLf => ?_⟩
      rw [rgV_nv]
      have eL := Ex.new (o := .lst (nv (List.range n))) nLf
      refine ⟨Nat.zero_le _, fun Ln nLn => ?_⟩
      have eM := Ex.new (o := .lst []) nLn
      have eAll := (eU.trans eL).trans eM
      have nLf0 : H' Lf = none := fresh_back eU nLf
      have nLn0 : H' Ln = none := fresh_back (eU.trans eL) nLn
      have nLL : Lf ≠ Ln := fun e => by rw [← e, upd_same] at nLn; cases nLn
      have hLf : (upd (upd (upd H' U (.tup [.int (p : Nat), .int z])) Lf (.lst (nv (List.range n)))) Ln (.lst [])) Lf = some (.lst (nv (List.range n))) := eM _ _ upd_same
      have hLn : (upd (upd (upd H' U (.tup [.int (p : Nat), .int z])) Lf (.lst (nv (List.range n)))) Ln (.lst [])) Ln = some (.lst (nv [])) := upd_same
      generalize (upd (upd (upd H' U (.tup [.int (p : Nat), .int z])) Lf (.lst (nv (List.range n)))) Ln (.lst [])) = H4 at eAll hLf hLn
      refine ⟨fun m σ' H5 => ∃ (nm : Int) (left line : List Nat), σ' = [some (.ref a), some (.int n), some (.ref F), some (.int wh), some (.int p), some (.int z), some (.int nm), some (.ref Lf), some (.ref Ln)] ∧ Ex H' H5 ∧ H5 Lf = some (.lst (nv left)) ∧ H5 Ln = some (.lst (nv line)) ∧ (line ++ left).Perm (List.range n) ∧ left.length = m,
        ⟨n, nm, List.range n, [], rfl, eAll, hLf, hLn, List.Perm.refl _, List.length_range⟩, ?_⟩
      rintro m σ' H5 ⟨nm, left, line, rfl, e5, hLf, hLn, hperm, rfl⟩
      have hlen2 : line.length + left.length = n := by
        have := hperm.length_eq
        rw [List.length_append, List.length_range] at this
        exact this
      refine ⟨_, rfl, Nat.zero_le _, fun o no => ?_⟩
      have eo := Ex.new (o := .lst []) no
      have hLf' : SqL K (upd H5 o (.lst [])) Lf (iv (left.map fun (k : Nat) => (k : Int))) := by
        rw [← nv_iv]
        exact sq_of (eo _ _ hLf)
      refine ⟨_, _, dp_ints hLf', dp_ints (ns := []) (sq_of upd_same), shaped_ints _, shaped_ints _, _, rfl, ?_⟩
      have hLf6 : (upd H5 o (.lst [])) Lf = some (.lst (nv left)) := eo _ _ hLf
      have hLn6 : (upd H5 o (.lst [])) Ln = some (.lst (nv line)) := eo _ _ hLn
      have e6 := e5.trans eo
      generalize (upd H5 o (.lst [])) = H6 at hLf' hLf6 hLn6 e6
      by_cases hl0 : left = []
      · refine itF (by rw [eqv_ints, hl0]; rfl) ?_
        subst hl0
        rw [List.append_nil] at hperm
        have hi0 := Int.emod_nonneg (wh / 5) (show (3 : Int) ≠ 0 by decide)
        have hi3 := Int.emod_lt_of_pos (wh / 5) (show (0 : Int) < 3 by decide)
        obtain ⟨u, hu0, hu⟩ := atI_three hi0 hi3 (x := 1) (y := 4) (z := 10 ^ 20) (by decide) (by decide) (by decide)
        refine ⟨_, rfl, .inl ⟨rfl, _, sq_of (e6 _ _ hF)⟩, _, rfl, _, rfl, _, rfl, _, _, rfl, rfl, _, rfl, z, (p : Int) + 30, wh, B, rfl, by omega, by omega, hzB, hB2, _, _, rfl, rfl, ⟨by decide, by decide, by decide⟩, (by decide : 3 ≤ sizeLine), fun tp ntp => ?_⟩
        have etp := Ex.new (o := .tup [V.int 1, V.int 4, V.int (10 ^ Int.toNat 20)]) ntp
        refine ⟨_, rfl, _, _, rfl, rfl, divW_small (by decide) (by decide), _, _, rfl, rfl, (by decide : (0 : Int) < 3), tp, _, _, .int u, rfl, rfl, st_of upd_same, hu, _, _, rfl, rfl, hu0, _, _, rfl, rfl, (by decide : 2 ≤ sizeLine), fun tt ntt => ?_⟩
        have hm1 := Int.emod_nonneg (lawNum z ((p : Int) + 30) wh) (show u ≠ 0 by omega)
        generalize lawNum z ((p : Int) + 30) wh % u = mm at hm1
        have ett := Ex.new (o := .tup [V.ref Ln, V.int (1 + mm)]) ntt
        have e8 := e6.trans (etp.trans ett)
        have hF8 := e8 _ _ hF
        have hc8 := e8 _ _ hc
        have hLn8 := (etp.trans ett) _ _ hLn6
        have htt : (upd (upd H6 tp (.tup [V.int 1, V.int 4, V.int (10 ^ Int.toNat 20)])) tt (.tup [V.ref Ln, V.int (1 + mm)])) tt = some (.tup [V.ref Ln, V.int (1 + mm)]) := upd_same
        have nF8 : H F = none := nF
        refine ⟨F, xs, .ref tt, rfl, rfl, hF8, sz_lt (by rw [show xs.length = bs.length from Paired.len hP]; omega), ?_⟩
        generalize (upd (upd H6 tp (.tup [V.int 1, V.int 4, V.int (10 ^ Int.toNat 20)])) tt (.tup [V.ref Ln, V.int (1 + mm)])) = H8 at e8 hF8 hc8 hLn8 htt
        have nttF : tt ≠ F := fun e => by rw [e, hF8] at htt; cases htt
        have nLnF : Ln ≠ F := fun e => by rw [e, hF] at nLn0; cases nLn0
        refine ⟨_, _, _, _, _, xs ++ [.ref tt], bs ++ [(line, 1 + mm)], rfl, (e.trans e8).mut nF, by rw [upd_ne nF2.symm]; exact hc8, upd_same, by rw [rem_upd]; exact Paired.append (Paired.mapP hP fun _ _ q => q.mono (rem_mono e8)) (.cons ⟨tt, Ln, rfl, by rw [rem_ne nttF]; exact htt, by rw [rem_ne nLnF]; exact hLn8⟩ .nil), ?_, by rw [List.length_append, hlen]; rfl⟩
        rw [List.all_append, hok]
        have : okB n (line, 1 + mm) = true := by
          unfold okB
          rw [List.isPerm_iff.mpr hperm, decide_eq_true (show 1 ≤ 1 + mm by omega)]
          rfl
        simp [this]
      · refine itT (by rw [eqv_ints, decide_eq_false]; rfl; exact fun h => hl0 (List.map_eq_nil_iff.mp h)) ?_
        have hpos : 0 < left.length := List.length_pos_iff.mpr hl0
        have hj0 := Int.emod_nonneg nm (show (left.length : Int) ≠ 0 by omega)
        have hj1 := Int.emod_lt_of_pos nm (show (0 : Int) < (left.length : Int) by omega)
        obtain ⟨j, hj⟩ : ∃ j : Nat, nm % (left.length : Int) = (j : Int) := ⟨(nm % (left.length : Int)).toNat, by omega⟩
        have hjl : j < left.length := by omega
        have hsi : seqIndex? (nm % ((nv left).length : Int)) (nv left).length = some j := by
          rw [nv_length, hj]
          exact (ixN_seq (ixN_nat hjl)).1
        have hy : (nv left)[j]? = some (V.int (left[j] : Nat)) := by
          unfold nv
          rw [List.getElem?_map, List.getElem?_eq_getElem hjl]
          rfl
        refine ⟨fun σ2 H2 => ∃ (nm : Int) (left' line : List Nat), σ2 = [some (.ref a), some (.int n), some (.ref F), some (.int wh), some (.int p), some (.int z), some (.int nm), some (.ref Lf), some (.ref Ln)] ∧ Ex H' H2 ∧ H2 Lf = some (.lst (nv left')) ∧ H2 Ln = some (.lst (nv line)) ∧ (line ++ left').Perm (List.range n) ∧ left'.length < left.length, ?_, ?_⟩
        · rintro σ2 H2 ⟨nm, left', line, h1, h2, h3, h4, h5, h6⟩
          exact ⟨_, h6, nm, left', line, h1, h2, h3, h4, h5, rfl⟩
        · refine ⟨_, rfl, .inl ⟨rfl, _, sq_of hLn6⟩, _, rfl, .inl ⟨rfl, _, sq_of hLf6⟩, _, rfl, _, rfl, Lf, _, rfl, .inl (sq_of hLf6), _, _, rfl, rfl, by rw [nv_length]; omega, Lf, _, _, j, _, rfl, rfl, hLf6, by rw [nv_length]; omega, by rw [nv_length]; omega, hsi, hy, Ln, nv line, _, rfl, rfl, by rw [upd_ne nLL.symm]; exact hLn6, sz_lt (by rw [nv_length]; omega), ?_⟩
          have hLf9 : (upd (upd H6 Lf (.lst ((nv left).eraseIdx j))) Ln (.lst (nv line ++ [V.int (left[j] : Nat)]))) Lf = some (.lst (nv (left.eraseIdx j))) := by rw [upd_ne nLL, upd_same, nv_erase]
          refine ⟨_, rfl, _, rfl, Lf, _, rfl, .inl (sq_of hLf9), _, _, rfl, rfl, _, _, rfl, rfl, divW_small (by omega) (by rw [nv_length, List.length_eraseIdx]; split <;> omega), ?_⟩
          refine ⟨_, left.eraseIdx j, line ++ [left[j]], rfl, (e6.mut nLf0).mut nLn0, hLf9, ?_, ?_, ?_⟩
          · rw [upd_same, ← nv_append]
            rfl
          · rw [List.append_assoc]
            exact ((perm_erase left j _ (List.getElem?_eq_getElem hjl)).append_left line).trans hperm
          · rw [List.length_eraseIdx, if_pos hjl]
            omega
    · rintro σ' H' ⟨y4, y5, y6, y7, y8, xs, bs, rfl, e, hc, hF, hP, hok, hlen⟩
      refine ⟨_, rfl, q H' F xs bs e nF hF (Paired.mapP hP fun _ _ q => q.mono rem_ex) hok ?_⟩
      rw [hlen, iv_length, List.length_take]
end
end Hc
namespace Hc
open PySem PySem.Spec PyProof.Rows L2 Evl
section
variable {P : Program} {w : World} {K : PySem.W.Frag} {mg : Str → Option Value} {base : Heap}
def spLawPeaks (K : PySem.W.Frag) : Sp := fun vs H Q _ => ∃ (a : Addr) (ns : List Int) (n B : Nat), vs = [.ref a, .int (n : Int)] ∧ SqL K H a (iv ns) ∧ 1 ≤ n ∧ n ≤ 20 ∧ (∀ z ∈ ns, Big B z) ∧ B ≤ 2000000 ∧
  ∀ H2 D xs bs, Ex H H2 → H D = none → H2 D = some (.lst xs) → Paired (BalW H2) xs bs → bs.all (okB n) = true → bs.length = min 24 ns.length → Q (.ref D) H2
/-- from lo to hi, each once -/
def Span (ks : List Nat) (lo hi : Nat) : Prop := ks.Nodup ∧ (∀ k, k ∈ ks ↔ lo ≤ k ∧ k ≤ hi) ∧ ks.length = hi + 1 - lo ∧ lo ≤ hi
theorem span_one (k : Nat) : Span [k] k k := ⟨by simp, fun j => by simp; omega, by simp, Nat.le_refl _⟩
theorem span_down {ks : List Nat} {lo hi : Nat} (h : Span ks lo hi) (h0 : 0 < lo) : Span (ks ++ [lo - 1]) (lo - 1) hi := by
  obtain ⟨h1, h2, h3, h4⟩ := h
  refine ⟨?_, fun k => ?_, by rw [List.length_append, h3]; show _ + 1 = _; omega, by omega⟩
  · refine List.nodup_append.mpr ⟨h1, by simp, fun a ha b hb e => ?_⟩
    have : b = lo - 1 := by simpa using hb
    have := (h2 a).mp ha
    omega
  · rw [List.mem_append, h2, List.mem_singleton]
    omega
theorem span_up {ks : List Nat} {lo hi : Nat} (h : Span ks lo hi) : Span (ks ++ [hi + 1]) lo (hi + 1) := by
  obtain ⟨h1, h2, h3, h4⟩ := h
  refine ⟨?_, fun k => ?_, by rw [List.length_append, h3]; show _ + 1 = _; omega, by omega⟩
  · refine List.nodup_append.mpr ⟨h1, by simp, fun a ha b hb e => ?_⟩
    have : b = hi + 1 := by simpa using hb
    have := (h2 a).mp ha
    omega
  · rw [List.mem_append, h2, List.mem_singleton]
    omega
theorem span_perm {ks : List Nat} {lo hi n : Nat} (h : Span ks lo hi) (hn : n ≤ ks.length) (hh : hi < n) : ks.Perm (List.range n) := by
  obtain ⟨h1, h2, h3, h4⟩ := h
  refine (List.perm_ext_iff_of_nodup h1 List.nodup_range).mpr fun k => ?_
  rw [h2, List.mem_range]
  omega
theorem ok_law_peaks (T : Tx K mg) : FnOk P w K mg base CX0 2 T.f_law_peaks T.d_law_peaks ["_law_script", "_law_size"] (spLawPeaks K) := by
  refine T.F_law_peaks.ok sc_law_peaks (fun vs H Q E h => ?_) (fun cdv A outer s H vs Q E hr h => ?_)
  · obtain ⟨a, ns, n, B, rfl, _⟩ := h
    rfl
  · obtain ⟨a, ns, n, B, rfl, hS, hn1, hn, hB, hB2, q⟩ := h
    refine ⟨_, pss_cons (ps_set (i := 2) sc_law_peaks.nd rfl (Or.inl rfl) (pe_lst pa_nil))
      (pss_cons (ps_set (i := 3) sc_law_peaks.nd rfl (Or.inl rfl) (pe_callB (sumK K) (by rfl) T.n_sum PyProof.Rows.boot_sum (pa_cons (pe_slice (slLK K) (pv 0) po_none (po_some pe_int)) pa_nil)))
      (pss_cons (ps_for PassesOwn.never rfl (piE K (by rfl) T.n_enumerate (pa_cons (pe_slice (slLK K) (pv 0) po_none (po_some pe_int)) pa_nil)) (pgT K (n := 2) (pgs_cons (pg_name (i := 4) sc_law_peaks.nd rfl (by first | exact Or.inl rfl | exact Or.inr rfl)) (pgs_cons (pg_name (i := 5) sc_law_peaks.nd rfl (by first | exact Or.inl rfl | exact Or.inr rfl)) pgs_nil)))
        (pss_cons (ps_set (i := 6) sc_law_peaks.nd rfl (Or.inl rfl) (pe_call (ok_law_number T) (hr.mono (by decide)) (by rfl) T.g_law_number T.F_law_number.kp (b_law_number T) .nil pass0 (pa_cons (pv 5) (pa_cons (pv 4) (pa_cons (pv 3) pa_nil)))))
      (pss_cons (ps_set (i := 7) sc_law_peaks.nd rfl (Or.inl rfl) (pe_op op_mod (pv 6) (pv 1)))
      (pss_cons (ps_set (i := 8) sc_law_peaks.nd rfl (Or.inl rfl) (pv 7))
      (pss_cons (ps_set (i := 9) sc_law_peaks.nd rfl (Or.inl rfl) (pe_lst (pa_cons (pv 7) pa_nil)))
      (pss_cons (ps_set (i := 6) sc_law_peaks.nd rfl (Or.inl rfl) (pe_op op_fdivW (pv 6) (pv 1)))
      (pss_cons (ps_while PassesOwn.never (pt_cmpR op_lt (pe_callB (lenK K) (by rfl) T.n_len PySem.boot_len (pa_cons (pv 9) pa_nil)) (pv 1) (nomark _)) (pss_cons (ps_if (PW.pt (pw_and (pt_cmpR op_gt (pv 7) pe_int (nomark _)) (pw_and1 (PW.pt (pw_or (pt_cmpR op_eq (pe_op op_mod (pv 6) pe_int) pe_int (nomark _)) (pw_or1 (pt_cmpR op_eq (pv 8) (pe_op op_sub (pv 1) pe_int) (nomark _)))))))) (pss_cons (ps_set (i := 7) sc_law_peaks.nd rfl (Or.inl rfl) (pe_op op_sub (pv 7) pe_int))
      (pss_one (ps_expr (pe_bm PySem.F.plainAttrs_list PySem.F.slot_list_append PySem.F.type_list_append mt_append (pv 9) (pa_cons (pv 7) pa_nil))))) (pss_cons (ps_set (i := 8) sc_law_peaks.nd rfl (Or.inl rfl) (pe_op op_add (pv 8) pe_int))
      (pss_one (ps_expr (pe_bm PySem.F.plainAttrs_list PySem.F.slot_list_append PySem.F.type_list_append mt_append (pv 9) (pa_cons (pv 8) pa_nil))))))
      (pss_one (ps_set (i := 6) sc_law_peaks.nd rfl (Or.inl rfl) (pe_op op_fdivW (pv 6) pe_int)))))
      (pss_one (ps_expr (pe_bm PySem.F.plainAttrs_list PySem.F.slot_list_append PySem.F.type_list_append mt_append (pv 2) (pa_cons (pe_tup (pa_cons (pv 9) (pa_cons (pe_op op_add pe_int (pe_op op_mod (pe_call (ok_law_number T) (hr.mono (by decide)) (by rfl) T.g_law_number T.F_law_number.kp (b_law_number T) .nil pass0 (pa_cons (pv 5) (pa_cons (pe_op op_add (pv 4) pe_int) (pa_cons (pv 3) pa_nil)))) (pe_ix (ixTK K) (pe_tup (pa_cons pe_int (pa_cons pe_int (pa_cons (pe_op op_pow pe_int pe_int) pa_nil)))) (pe_op op_mod (pe_op op_fdivW (pv 3) pe_int) pe_int) (fun _ _ => rfl)))) pa_nil))) pa_nil)))))))))))
      (pss_one (ps_ret (pv 2))))), ?_⟩
    refine ⟨Nat.zero_le _, fun F nF => ?_⟩
    have e1 := Ex.new (o := .lst []) nF
    refine ⟨.ref a, rfl, 63, rfl, a, iv ns, rfl, ex_l e1 hS, fun c1 nc1 => ?_⟩
    rw [show cutV (iv ns) none (some 63) = iv (ns.take 63) by rw [show (63 : Int) = ((63 : Nat) : Int) from rfl, cut_to]; unfold iv; rw [List.map_take]]
    have e2 := Ex.new (o := .lst (iv (ns.take 63))) nc1
    refine ⟨c1, ns.take 63, rfl, sq_of upd_same, ?_⟩
    generalize (ns.take 63).sum = wh
    refine ⟨.ref a, rfl, 24, rfl, a, iv ns, rfl, ex_l (e1.trans e2) hS, fun c2 nc2 => ?_⟩
    rw [show cutV (iv ns) none (some 24) = iv (ns.take 24) by rw [show (24 : Int) = ((24 : Nat) : Int) from rfl, cut_to]; unfold iv; rw [List.map_take]]
    have e3 := Ex.new (o := .lst (iv (ns.take 24))) nc2
    have hF3 := e3 _ _ (e2 _ _ (upd_same (H := H) (a := F) (o := .lst [])))
    obtain ⟨H3, hH3⟩ := named e3
    have hc3 : H3 c2 = some (.lst (iv (ns.take 24))) := by rw [hH3]; exact upd_same
    have nFc : c2 ≠ F := (ne_of_fresh (e2 _ _ upd_same) nc2).symm
    have e13 := (e1.trans e2).trans e3
    refine ⟨c2, _, rfl, sq_of upd_same, ?_⟩
    rw [← hH3] at hF3 e13 ⊢
    refine for_it (walk_enum (K := K) (a := c2) (xs := iv (ns.take 24))) (fun p σ' H' => ∃ y4 y5 y6 y7 y8 y9 xs bs, σ' = [some (.ref a), some (.int n), some (.ref F), some (.int wh), y4, y5, y6, y7, y8, y9] ∧ Ex H H' ∧ H' c2 = some (.lst (iv (ns.take 24))) ∧ H' F = some (.lst xs) ∧ Paired (BalW (rem H' F)) xs bs ∧ bs.all (okB n) = true ∧ bs.length = p)
      ⟨_, _, _, _, _, _, [], [], rfl, e13, hc3, hF3, .nil, rfl, rfl⟩ (fun p σ' H' _ ⟨_, _, _, _, _, _, _, _, _, _, h, _⟩ => sq_of h) ?_ ?_
    · rintro p x σ' H' H'' hp ⟨y4, y5, y6, y7, y8, y9, xs, bs, rfl, e, hc, hF, hP, hok, hlen⟩ ⟨U, x1, x2, rfl, nU, rfl, h1, h2⟩
      cases h1
      obtain ⟨z, hz, rfl⟩ := iv_get h2
      have hzB : Big B z := hB z (List.mem_of_mem_take (List.mem_of_getElem? hz))
      have hp24 : p < 24 := by
        rw [iv_length, List.length_take] at hp
        omega
      have eU := Ex.new (o := .tup [.int (p : Nat), .int z]) nU
      refine ⟨U, _, rfl, st_of upd_same, rfl, _, _, rfl, _, [], rfl, rfl, ?_⟩
      refine ⟨_, rfl, _, rfl, _, rfl, z, p, wh, B, rfl, by omega, by omega, hzB, hB2, ?_⟩
      generalize lawNum z p wh = nm
      have m0 := Int.emod_nonneg nm (show (n : Int) ≠ 0 by omega)
      have m1 := Int.emod_lt_of_pos nm (show (0 : Int) < (n : Int) by omega)
      obtain ⟨k0, hk0⟩ : ∃ k : Nat, nm % (n : Int) = (k : Int) := ⟨(nm % (n : Int)).toNat, by omega⟩
      refine ⟨_, rfl, _, rfl, _, _, rfl, rfl, by omega, ?_⟩
      dsimp only
      rw [hk0]
      refine ⟨_, rfl, _, rfl, (by decide : 1 ≤ sizeLine), fun Ln nLn => ?_⟩
      have eL := Ex.new (o := .lst (nv [k0])) nLn
      refine ⟨_, rfl, _, rfl, _, _, rfl, rfl, divW_small (by omega) (by omega), ?_⟩
      have nLn0 : H' Ln = none := fresh_back eU nLn
      have eUL := eU.trans eL
      obtain ⟨H4, hH4⟩ := named eL
      have hLn4 : H4 Ln = some (.lst (nv [k0])) := by rw [hH4]; exact upd_same
      rw [show (upd (upd H' U (.tup [.int (p : Nat), .int z])) Ln (.lst [V.int (k0 : Int)])) = H4 from hH4.symm]
      rw [← hH4] at eUL
      refine ⟨fun m σ' H5 => ∃ (nm : Int) (lo hi : Nat) (ln : List Nat), σ' = [some (.ref a), some (.int n), some (.ref F), some (.int wh), some (.int p), some (.int z), some (.int nm), some (.int lo), some (.int hi), some (.ref Ln)] ∧ Ex H' H5 ∧ H5 Ln = some (.lst (nv ln)) ∧ Span ln lo hi ∧ hi < n ∧ n - ln.length = m,
        ⟨n - 1, _, k0, k0, [k0], rfl, eUL, hLn4, span_one k0, by omega, rfl⟩, ?_⟩
      rintro m σ' H5 ⟨nm, lo, hi, ln, rfl, e5, hLn, hsp, hhi, rfl⟩
      refine ⟨_, rfl, Ln, _, rfl, .inl (sq_of hLn), _, rfl, _, _, rfl, rfl, _, rfl, ?_⟩
      rw [nv_length]
      have hsl := hsp.2.2.1
      have hslo := hsp.2.2.2
      by_cases hlt : ln.length < n
      · refine itT (decide_eq_true (by omega)) ?_
        refine ⟨fun σ2 Hz => ∃ (nm : Int) (lo hi : Nat) (ln2 : List Nat), σ2 = [some (.ref a), some (.int n), some (.ref F), some (.int wh), some (.int p), some (.int z), some (.int nm), some (.int lo), some (.int hi), some (.ref Ln)] ∧ Ex H' Hz ∧ Hz Ln = some (.lst (nv ln2)) ∧ Span ln2 lo hi ∧ hi < n ∧ ln2.length = ln.length + 1, ?_, ?_⟩
        · rintro σ2 Hz ⟨nm, lo, hi, ln2, c1, c2, c3, c4, c5, c6⟩
          exact ⟨n - ln2.length, by omega, nm, lo, hi, ln2, c1, c2, c3, c4, c5, rfl⟩
        refine ⟨_, rfl, _, _, rfl, rfl, _, rfl, it2 (fun h1 => ?_) (fun h1 => ?_)⟩
        · have h0 : 0 < lo := by
            have := of_decide_eq_true h1
            omega
          refine ⟨_, rfl, _, _, rfl, rfl, (by decide : (0 : Int) < 2), rfl, _, rfl, it2 (fun h2 => ?_) (fun h2 => ?_)⟩
          · obtain ⟨lo', rfl⟩ : ∃ k, lo = k + 1 := ⟨lo - 1, by omega⟩
            refine ⟨_, rfl, _, _, rfl, rfl, _, rfl, .inl ⟨rfl, _, sq_of hLn⟩, _, rfl, Ln, _, _, rfl, rfl, hLn, sz_lt (by rw [nv_length]; omega), ?_⟩
            refine ⟨_, rfl, _, _, rfl, rfl, divW_small (by decide) (by decide), nm / 2, lo', hi, ln ++ [lo'], ?_, e5.mut nLn0, ?_, span_down hsp h0, hhi, by rw [List.length_append]; rfl⟩
            · dsimp only
              rw [show (((lo' + 1 : Nat) : Int) - 1) = (lo' : Int) by omega]
              rfl
            · dsimp only
              rw [upd_same, ← nv_append, show (((lo' + 1 : Nat) : Int) - 1) = (lo' : Int) by omega]
              rfl
          · refine ⟨_, rfl, _, rfl, _, _, rfl, rfl, rfl, _, rfl, ?_⟩
            rw [dec_int]
            refine it2 (fun h3 => ?_) (fun h3 => ?_)
            · obtain ⟨lo', rfl⟩ : ∃ k, lo = k + 1 := ⟨lo - 1, by omega⟩
              refine ⟨_, rfl, _, _, rfl, rfl, _, rfl, .inl ⟨rfl, _, sq_of hLn⟩, _, rfl, Ln, _, _, rfl, rfl, hLn, sz_lt (by rw [nv_length]; omega), ?_⟩
              refine ⟨_, rfl, _, _, rfl, rfl, divW_small (by decide) (by decide), nm / 2, lo', hi, ln ++ [lo'], ?_, e5.mut nLn0, ?_, span_down hsp h0, hhi, by rw [List.length_append]; rfl⟩
              · dsimp only
                rw [show (((lo' + 1 : Nat) : Int) - 1) = (lo' : Int) by omega]
                rfl
              · dsimp only
                rw [upd_same, ← nv_append, show (((lo' + 1 : Nat) : Int) - 1) = (lo' : Int) by omega]
                rfl
            · have hne := of_decide_eq_false h3
              refine ⟨_, rfl, _, _, rfl, rfl, _, rfl, .inl ⟨rfl, _, sq_of hLn⟩, _, rfl, Ln, _, _, rfl, rfl, hLn, sz_lt (by rw [nv_length]; omega), ?_⟩
              refine ⟨_, rfl, _, _, rfl, rfl, divW_small (by decide) (by decide), nm / 2, lo, hi + 1, ln ++ [hi + 1], rfl, e5.mut nLn0, ?_, span_up hsp, by omega, by rw [List.length_append]; rfl⟩
              rw [upd_same, ← nv_append]
              rfl
        · have h0 : lo = 0 := by
            have := of_decide_eq_false h1
            omega
          refine ⟨_, rfl, _, _, rfl, rfl, _, rfl, .inl ⟨rfl, _, sq_of hLn⟩, _, rfl, Ln, _, _, rfl, rfl, hLn, sz_lt (by rw [nv_length]; omega), ?_⟩
          refine ⟨_, rfl, _, _, rfl, rfl, divW_small (by decide) (by decide), nm / 2, lo, hi + 1, ln ++ [hi + 1], rfl, e5.mut nLn0, ?_, span_up hsp, by omega, by rw [List.length_append]; rfl⟩
          rw [upd_same, ← nv_append]
          rfl
      · refine itF (decide_eq_false (by omega)) ?_
        have hperm := span_perm hsp (show n ≤ ln.length by omega) hhi
        have hi0 := Int.emod_nonneg (wh / 5) (show (3 : Int) ≠ 0 by decide)
        have hi3 := Int.emod_lt_of_pos (wh / 5) (show (0 : Int) < 3 by decide)
        obtain ⟨u, hu0, hu⟩ := atI_three hi0 hi3 (x := 1) (y := 4) (z := 10 ^ 20) (by decide) (by decide) (by decide)
        refine ⟨_, rfl, .inl ⟨rfl, _, sq_of (e5 _ _ hF)⟩, _, rfl, _, rfl, _, rfl, _, _, rfl, rfl, _, rfl, z, (p : Int) + 30, wh, B, rfl, by omega, by omega, hzB, hB2, _, _, rfl, rfl, ⟨by decide, by decide, by decide⟩, (by decide : 3 ≤ sizeLine), fun tp ntp => ?_⟩
        have etp := Ex.new (o := .tup [V.int 1, V.int 4, V.int (10 ^ Int.toNat 20)]) ntp
        refine ⟨_, rfl, _, _, rfl, rfl, divW_small (by decide) (by decide), _, _, rfl, rfl, (by decide : (0 : Int) < 3), tp, _, _, .int u, rfl, rfl, st_of upd_same, hu, _, _, rfl, rfl, hu0, _, _, rfl, rfl, (by decide : 2 ≤ sizeLine), fun tt ntt => ?_⟩
        have hm1 := Int.emod_nonneg (lawNum z ((p : Int) + 30) wh) (show u ≠ 0 by omega)
        generalize lawNum z ((p : Int) + 30) wh % u = mm at hm1
        have ett := Ex.new (o := .tup [V.ref Ln, V.int (1 + mm)]) ntt
        have e8 := e5.trans (etp.trans ett)
        have nttF : tt ≠ F := (ne_of_fresh (etp _ _ (e5 _ _ hF)) ntt).symm
        have nLnF : Ln ≠ F := (ne_of_fresh hF nLn0).symm
        refine ⟨F, xs, .ref tt, rfl, rfl, e8 _ _ hF, sz_lt (by rw [show xs.length = bs.length from Paired.len hP]; omega), ?_⟩
        refine ⟨_, _, _, _, _, _, xs ++ [.ref tt], bs ++ [(ln, 1 + mm)], rfl, (e.trans e8).mut nF, by rw [upd_ne nFc]; exact e8 _ _ hc, upd_same, by rw [rem_upd]; exact Paired.append (Paired.mapP hP fun _ _ q => q.mono (rem_mono e8)) (.cons ⟨tt, Ln, rfl, by rw [rem_ne nttF]; exact upd_same, by rw [rem_ne nLnF]; exact (etp.trans ett) _ _ hLn⟩ .nil), ?_, by rw [List.length_append, hlen]; rfl⟩
        rw [List.all_append, hok]
        have : okB n (ln, 1 + mm) = true := by
          unfold okB
          rw [List.isPerm_iff.mpr hperm, decide_eq_true (show 1 ≤ 1 + mm by omega)]
          rfl
        simp [this]
    · rintro σ' H' ⟨y4, y5, y6, y7, y8, y9, xs, bs, rfl, e, hc, hF, hP, hok, hlen⟩
      refine ⟨_, rfl, q H' F xs bs e nF hF (Paired.mapP hP fun _ _ q => q.mono rem_ex) hok ?_⟩
      rw [hlen, iv_length, List.length_take]
end
end Hc
namespace Hc
open PySem PySem.Spec PyProof.Rows L2 Evl
section
variable {P : Program} {w : World} {K : PySem.W.Frag} {mg : Str → Option Value} {base : Heap}
theorem sortPK {X : Cx} (K : PySem.W.Frag) (h : X.K = K := by rfl) : CallR X (.builtin "sorted") (rSortedPO K) := h ▸ cr_sortedPO
def spLMid (K : PySem.W.Frag) : Sp := fun vs H Q _ => ∃ (n : Nat) (v : V) (bs : List (List Nat × Int)), vs = [v] ∧ 1 ≤ n ∧ BalsR K H v bs ∧ bs.all (okB n) = true ∧ bs.length ≤ 1000 ∧
  ∀ H2 w, Ex H H2 → wholeOf bs ≤ 2 * held bs w → (∀ v, v < w → 2 * held bs v < wholeOf bs) → Q (.int (w : Nat)) H2
/-- a new pair of a top and a number -/
def HeadR (H : Hp) (x : V) (p : Nat × Int) : Prop := ∃ t : Addr, x = .ref t ∧ H t = some (.tup [.int (p.1 : Int), .int p.2])
theorem HeadR.mono {H H' : Hp} {x : V} {p : Nat × Int} (h : HeadR H x p) (e : Ex H H') : HeadR H' x p := by
  obtain ⟨t, h1, h2⟩ := h
  exact ⟨t, h1, e _ _ h2⟩
/-- what a heap says of a pair -/
def pairOb : Option HO → Nat × Int
  | some (.tup [.int i, .int j]) => (i.toNat, j)
  | _ => (0, 0)
def pairAt (H : Hp) : V → Nat × Int
  | .ref t => pairOb (H t)
  | _ => (0, 0)
theorem pairAt_of {H : Hp} {x : V} {p : Nat × Int} (h : HeadR H x p) : pairAt H x = p := by
  obtain ⟨t, rfl, h2⟩ := h
  show pairOb (H t) = p
  rw [h2]
  show ((p.1 : Int).toNat, p.2) = p
  rw [Int.toNat_natCast]
theorem paired_map {H : Hp} : ∀ {xs : List V} {ps : List (Nat × Int)}, Paired (HeadR H) xs ps → xs.map (pairAt H) = ps
  | _, _, .nil => rfl
  | _, _, .cons r t => by rw [List.map_cons, pairAt_of r, paired_map t]
theorem paired_mem {H : Hp} {xs : List V} {ps : List (Nat × Int)} (h : Paired (HeadR H) xs ps) {x : V} (hx : x ∈ xs) : HeadR H x (pairAt H x) := by
  obtain ⟨i, hi, rfl⟩ := List.mem_iff_getElem.mp hx
  obtain ⟨p, _, r⟩ := Paired.get h (List.getElem?_eq_getElem hi)
  rw [pairAt_of r]
  exact r
theorem ok_law_middle (T : Tx K mg) : FnOk P w K mg base CX0 1 T.f_law_middle T.d_law_middle ["_law_ballots_here"] (spLMid K) := by
  refine T.F_law_middle.ok sc_law_middle (fun vs H Q E h => ?_) (fun cdv A outer s H vs Q E hr h => ?_)
  · obtain ⟨n, v, bs, rfl, _⟩ := h
    rfl
  · obtain ⟨n, v, bs, rfl, hn1, ⟨a, xs, rfl, hS, hP⟩, hok, hbl, q⟩ := h
    have hxl : xs.length = bs.length := Paired.len hP
    refine ⟨_, pss_cons (ps_set (i := 1) sc_law_middle.nd rfl (Or.inl rfl) (pe_lst pa_nil))
      (pss_cons (ps_set (i := 2) sc_law_middle.nd rfl (Or.inl rfl) pe_int)
      (pss_cons (ps_for PassesOwn.never rfl (piL K (pv 0)) (pgT K (n := 2) (pgs_cons (pg_name (i := 3) sc_law_middle.nd rfl (by first | exact Or.inl rfl | exact Or.inr rfl)) (pgs_cons (pg_name (i := 4) sc_law_middle.nd rfl (by first | exact Or.inl rfl | exact Or.inr rfl)) pgs_nil)))
        (pss_cons (ps_expr (pe_bm PySem.F.plainAttrs_list PySem.F.slot_list_append PySem.F.type_list_append mt_append (pv 1) (pa_cons (pe_tup (pa_cons (pe_ix (ixLK K) (pv 3) pe_int (fun _ _ => rfl)) (pa_cons (pv 4) pa_nil))) pa_nil)))
      (pss_one (ps_set (i := 2) sc_law_middle.nd rfl (Or.inl rfl) (pe_op op_add (pv 2) (pv 4))))))
      (pss_cons (ps_set (i := 5) sc_law_middle.nd rfl (Or.inl rfl) pe_int)
      (pss_cons (ps_for PassesOwn.never rfl (piL K (pe_callB (sortPK K) (by rfl) T.n_sorted PyProof.Rows.boot_sorted (pa_cons (pv 1) pa_nil))) (pgT K (n := 2) (pgs_cons (pg_name (i := 6) sc_law_middle.nd rfl (by first | exact Or.inl rfl | exact Or.inr rfl)) (pgs_cons (pg_name (i := 4) sc_law_middle.nd rfl (by first | exact Or.inl rfl | exact Or.inr rfl)) pgs_nil)))
        (pss_cons (ps_set (i := 5) sc_law_middle.nd rfl (Or.inl rfl) (pe_op op_add (pv 5) (pv 4)))
      (pss_one (ps_if (pt_cmpR op_ge (pe_op op_mulG pe_int (pv 5)) (pv 2) (nomark _)) (pss_one (ps_ret (pv 6))) (pss_nil)))))
      (pss_one (ps_ret pe_int)))))), ?_⟩
    refine ⟨Nat.zero_le _, fun F nF => ?_⟩
    have e1 := Ex.new (o := .lst []) nF
    refine ⟨_, rfl, a, rfl, ⟨xs, ex_l e1 hS⟩, for_list (K := K) (a := a) (xs := xs) (fun i σ' H' => ∃ y3 y4 ts, σ' = [some (.ref a), some (.ref F), some (.int (wholeOf (bs.take i))), y3, y4, none, none] ∧ Ex H H' ∧ H' F = some (.lst ts) ∧ Paired (HeadR (rem H' F)) ts ((bs.take i).map fun b => (topOf b, b.2)))
      ⟨_, _, [], rfl, e1, upd_same, .nil⟩ (fun i σ' H' _ ⟨_, _, _, _, e, _⟩ => ex_l e hS) ?_ ?_⟩
    · rintro i x σ' H' hi ⟨y3, y4, ts, rfl, e, hF, hT⟩
      obtain ⟨b, hb, t, l, rfl, ht, hL⟩ := Paired.get hP hi
      have hokb := List.all_eq_true.mp hok b (List.mem_of_getElem? hb)
      obtain ⟨x0, l0, hl0⟩ : ∃ x0 l0, b.1 = x0 :: l0 := by
        cases hl : b.1 with
        | nil => exact absurd hl (okB_ne hn1 hokb)
        | cons x0 l0 => exact ⟨x0, l0, rfl⟩
      have htop : topOf b = x0 := by unfold topOf; rw [hl0]; rfl
      have hL2 := ex_l e hL
      rw [hl0] at hL2
      have htl : ts.length = (bs.take i).length := by rw [Paired.len hT, List.length_map]
      refine ⟨t, _, rfl, ex_t e ht, rfl, .ref l, _, rfl, .int b.2, [], rfl, rfl, ?_⟩
      refine ⟨_, rfl, .inl ⟨rfl, _, sq_of hF⟩, _, rfl, l, _, 0, .int (x0 : Int), rfl, rfl, hL2, atI_nat (j := 0) rfl, _, rfl, (by decide : 2 ≤ sizeLine), fun u nu => ?_⟩
      have eu := Ex.new (o := .tup [.int (x0 : Int), .int b.2]) nu
      have nuF : u ≠ F := (ne_of_fresh hF nu).symm
      refine ⟨F, ts, _, rfl, rfl, eu _ _ hF, sz_lt (by rw [htl, List.length_take]; omega), _, rfl, _, rfl, _, _, rfl, rfl, ?_⟩
      refine ⟨some (.ref l), some (.int b.2), ts ++ [.ref u], ?_, (e.trans eu).mut nF, upd_same, ?_⟩
      · have ew : wholeOf (bs.take (i + 1)) = wholeOf (bs.take i) + b.2 := by
          unfold wholeOf
          rw [List.take_add_one, hb, List.map_append, sum_append_int]
          simp
        rw [ew]
        rfl
      · rw [rem_upd, List.take_add_one, hb, List.map_append]
        exact Paired.append (Paired.mapP hT fun _ _ q => q.mono (rem_mono eu)) (.cons ⟨u, rfl, by rw [rem_ne nuF]; dsimp only; rw [htop]; exact upd_same⟩ .nil)
    rintro _ H1 ⟨y3, y4, ts, rfl, e2, hF, hT⟩
    rw [hxl, List.take_length] at hT ⊢
    have hT1 : Paired (HeadR H1) ts (bs.map fun b => (topOf b, b.2)) := Paired.mapP hT fun _ _ q => q.mono rem_ex
    refine ⟨_, rfl, F, ts, fun x => (((pairAt H1 x).1 : Int), (pairAt H1 x).2), rfl, sq_of hF, fun x hx => paired_mem hT1 hx, fun ys p hsd hst np => ?_⟩
    have e3 := Ex.new (o := .lst ys) np
    have hperm : ys.Perm ts := hst.perm
    have hpp : (ys.map (pairAt H1)).Perm (bs.map fun b => (topOf b, b.2)) := by
      have := hperm.map (pairAt H1)
      rw [paired_map hT1] at this
      exact this
    have hsorted : (ys.map (pairAt H1)).Pairwise fun u v => u.1 ≤ v.1 := by
      rw [List.pairwise_map]
      refine hsd.imp fun {u v} h => ?_
      have := SrtO.lexB_no.mp h
      dsimp only at this
      omega
    have hpos : ∀ u ∈ ys.map (pairAt H1), 1 ≤ u.2 := fun u hu => by
      obtain ⟨b, hb, rfl⟩ := List.mem_map.mp (hpp.mem_iff.mp hu)
      have h1 := List.all_eq_true.mp hok b hb
      unfold okB at h1
      rw [Bool.and_eq_true] at h1
      exact of_decide_eq_true h1.1
    refine ⟨p, rfl, ⟨_, sq_of upd_same⟩, for_list (K := K) (a := p) (xs := ys) (fun i σ' H' => ∃ y3 y4 y6, σ' = [some (.ref a), some (.ref F), some (.int (wholeOf bs)), y3, y4, some (.int (sumP ((ys.map (pairAt H1)).take i))), y6] ∧ Ex (upd H1 p (.lst ys)) H' ∧ (i = 0 ∨ 2 * sumP ((ys.map (pairAt H1)).take i) < wholeOf bs))
      ⟨_, _, _, rfl, Ex.refl _, .inl rfl⟩ (fun i σ' H' _ ⟨_, _, _, _, e, _⟩ => sq_of (e _ _ upd_same)) ?_ ?_⟩
    · rintro i x σ' H' hi ⟨y3, y4, y6, rfl, e, hlow⟩
      have hil : i < ys.length := (List.getElem?_eq_some_iff.mp hi).1
      have hxm : x ∈ ts := hperm.mem_iff.mp (List.mem_of_getElem? hi)
      obtain ⟨t, rfl, ht⟩ := paired_mem hT1 hxm
      have hmi : (ys.map (pairAt H1))[i]? = some (pairAt H1 (.ref t)) := by rw [List.getElem?_map, hi]; rfl
      have hml : i < (ys.map (pairAt H1)).length := by rw [List.length_map]; exact hil
      have hsplit : ys.map (pairAt H1) = (ys.map (pairAt H1)).take i ++ pairAt H1 (.ref t) :: (ys.map (pairAt H1)).drop (i + 1) := by
        have k := List.take_append_drop i (ys.map (pairAt H1))
        rw [List.drop_eq_getElem_cons hml, (List.getElem?_eq_some_iff.mp hmi).2] at k
        exact k.symm
      have hsum : sumP ((ys.map (pairAt H1)).take (i + 1)) = sumP ((ys.map (pairAt H1)).take i) + (pairAt H1 (.ref t)).2 := by
        rw [List.take_add_one, hmi, sumP_append]
        show _ + ((pairAt H1 (.ref t)).2 + 0) = _
        omega
      have hW : sumP (ys.map (pairAt H1)) = wholeOf bs := by rw [sumP_perm hpp, sumP_pairs]
      refine ⟨t, _, rfl, st_of (e _ _ (e3 _ _ ht)), rfl, _, _, rfl, _, [], rfl, rfl, ?_⟩
      refine ⟨_, rfl, _, rfl, _, _, rfl, rfl, ?_⟩
      dsimp only
      rw [← hsum]
      refine ⟨_, rfl, _, _, rfl, rfl, mulOk_small (by decide) (by decide), _, rfl, _, _, rfl, rfl, _, rfl, it2 (fun h1 => ?_) (fun h1 => ?_)⟩
      · have h2 : wholeOf bs ≤ 2 * sumP ((ys.map (pairAt H1)).take (i + 1)) := of_decide_eq_true h1
        rw [hsum] at h2
        have hb2 := heldP_bounds (w := 0) (ys.map (pairAt H1)) hpos
        have hx1 := hpos _ (List.mem_of_getElem? hmi)
        have key := first_half (pre := (ys.map (pairAt H1)).take i) (x := pairAt H1 (.ref t)) (post := (ys.map (pairAt H1)).drop (i + 1)) (W := wholeOf bs) (by rw [← hsplit]; exact hpos) (by rw [← hsplit]; exact hsorted) (by
          rcases hlow with e0 | e0
          · subst e0
            exact .inl rfl
          · exact .inr e0) (fun h0 => by
          have k1 : sumP (ys.map (pairAt H1)) = sumP ((ys.map (pairAt H1)).take i) + ((pairAt H1 (.ref t)).2 + sumP ((ys.map (pairAt H1)).drop (i + 1))) := by
            conv => lhs; rw [hsplit]
            rw [sumP_append]
            rfl
          have k2 := heldP_bounds (w := 0) ((ys.map (pairAt H1)).drop (i + 1)) fun u hu => hpos u (List.mem_of_mem_drop hu)
          rw [h0] at k1
          have k3 : sumP ([] : List (Nat × Int)) = 0 := rfl
          omega) h2
        rw [← hsplit] at key
        refine ⟨_, rfl, q _ (pairAt H1 (.ref t)).1 ((e2.trans e3).trans e) ?_ fun v hv => ?_⟩
        · have := key.1
          rw [heldP_perm hpp, held_pairs] at this
          exact this
        · have := key.2 v hv
          rw [heldP_perm hpp, held_pairs] at this
          exact this
      · have h2 : ¬ wholeOf bs ≤ 2 * sumP ((ys.map (pairAt H1)).take (i + 1)) := of_decide_eq_false h1
        exact ⟨_, _, _, rfl, e, .inr (by omega)⟩
    · rintro σ' H' ⟨y3, y4, y6, rfl, e, hlow⟩
      have hW : sumP (ys.map (pairAt H1)) = wholeOf bs := by rw [sumP_perm hpp, sumP_pairs]
      have h0 := whole_nonneg hok
      have hfull : (ys.map (pairAt H1)).take ys.length = ys.map (pairAt H1) := List.take_of_length_le (by rw [List.length_map]; exact Nat.le_refl _)
      rw [hfull, hW] at hlow
      have hlen : ys.length = bs.length := by rw [hperm.length_eq, Paired.len hT1, List.length_map]
      have hnil : bs = [] := List.length_eq_zero_iff.mp (by omega)
      refine q _ 0 ((e2.trans e3).trans e) ?_ fun v hv => by omega
      rw [hnil]
      decide
end
end Hc
namespace Hc
open PySem PySem.Spec PyProof.Rows L2 Evl
section
variable {P : Program} {w : World} {K : PySem.W.Frag} {mg : Str → Option Value} {base : Heap}
/-- middle's raising way -/
def spMidX (K : PySem.W.Frag) (C : Addr) : Sp := fun vs H _ E => ∃ (n : Nat) (v : V) (bs : List (List Nat × Int)), vs = [.int (n : Int), v] ∧ 1 ≤ n ∧ n ≤ 20 ∧ BalsR K H v bs ∧ bs.all (okB n) = true ∧ (bs.all fun b => isPk b.1) = false ∧ bs.length ≤ 1000 ∧
  ∀ H2, Ex H H2 → E (.ref C) none H2
theorem okX_middle (T : Tx K mg) : FnOk P w K mg base (L2N.CX P w) 4 T.f_middle T.d_middle ["candidates", "ballots"] (spMidX K T.c_NotPeaked) := by
  refine okN T.F_middle sc_middle (fun vs H Q E h => ?_) (fun cdv A outer s H vs Q E hr h => ?_)
  · obtain ⟨n, v, bs, rfl, _⟩ := h
    rfl
  · obtain ⟨n, v, bs, rfl, hn1, hn, hB, hok, hpk, hbl, q⟩ := h
    obtain ⟨a, xs, rfl, hS, hP⟩ := id hB
    have hxl : xs.length = bs.length := Paired.len hP
    refine ⟨_, pss_cons (ps_expr (pe_call (ok_asked_ballots T) (hr.mono (by decide)) (by rfl) T.g_asked_ballots T.F_asked_ballots.kp (b_asked_ballots T) .nil pass0 (pa_cons (pv 0) (pa_cons (pv 1) pa_nil))))
      (pss_cons (ps_if (pt_not (pt_val (pe_callB (allK K) (by rfl) T.n_all PyProof.Rows.boot_all (pa_cons (pe_lc (own := [("order", 5), ("many", 6)]) rfl sc_middle.nd (piL K (pv 1)) (blkOk_by (own := [("order", 5), ("many", 6)]) (N := ["candidates", "ballots", "whole", "held", "who", "order", "many"]) (sc := defScope s_middle) (by decide +kernel))
        (fun _ _ _ _ _ => (pgT K (n := 2) (pgs_cons (pg_name (i := 5) sc_middle.nd rfl (by first | exact Or.inl rfl | exact Or.inr rfl)) (pgs_cons (pg_name (i := 6) sc_middle.nd rfl (by first | exact Or.inl rfl | exact Or.inr rfl)) pgs_nil)))) (fun _ _ _ _ _ => pts_nil)
        (fun _ _ _ _ _ => (pe_call (ok_is_peaked T) (hr.mono (by decide)) (by rfl) T.g_is_peaked T.F_is_peaked.kp (b_is_peaked T) .nil pass0 (pa_cons (pv 5) pa_nil)))) pa_nil))))
          (pss_one (L2N.ps_raise rfl (L2N.takes_of rfl rfl rfl rfl) (L2N.pmk_own PySem.F.excBase_ValueError T.e_NotPeaked.x T.e_NotPeaked.g T.e_NotPeaked.k (raises_own T.e_NotPeaked.b T.e_NotPeaked.t) rfl))) (pss_nil)) pss_never), ?_⟩
    refine ⟨_, rfl, _, rfl, n, _, bs, rfl, hn1, hn, hB, hok, fun H1 e1 => ?_⟩
    refine ⟨_, rfl, a, rfl, ⟨xs, ex_l e1 hS⟩, fun D hD => ?_⟩
    refine lc_vals (walk_list (K := K) (a := a) (xs := xs)) hD (by omega) (fun Hx e => ex_l (e1.trans e) hS) (fun i => V.bl (isPk (bs.getD i ([], 0)).1)) ?_ ?_
    · rintro i x Ha Ha' hi ea ⟨rfl, hx⟩ Qc hq
      obtain ⟨b, hb, t, l, rfl, hT, hL⟩ := Paired.get hP hx
      rw [List.getD_eq_getElem?_getD, hb] at hq
      have eH := e1.trans ea
      have hb1 := List.all_eq_true.mp hok b (List.mem_of_getElem? hb)
      exact ⟨t, _, rfl, ex_t eH hT, rfl, .ref l, _, rfl, .int b.2, [], rfl, rfl, rfl, _, rfl, l, b.1, rfl, ex_l eH hL, okB_ne hn1 hb1, by rw [okB_len hb1]; omega, fun H2 e2 => hq _ e2⟩
    intro H2 e2 hD2
    rw [hxl, map_bl_all] at hD2
    refine ⟨D, _, rfl, sq_of hD2, false, by rw [all_bals bs fun b => isPk b.1, hpk], ?_⟩
    exact q _ (e1.trans e2)
/-- middle raises NotPeaked and nothing else -/
def spNone (K : PySem.W.Frag) : Sp := fun vs H Q _ => ∃ (n : Nat) (v : V) (bs : List (List Nat × Int)), vs = [.int (n : Int), v] ∧ 1 ≤ n ∧ n ≤ 20 ∧ BalsR K H v bs ∧ bs.all (okB n) = true ∧ (bs.all fun b => isPk b.1) = false ∧ bs.length ≤ 1000 ∧
  ∀ H2, Ex H H2 → Q (.bl true) H2
theorem ok_law_none (T : Tx K mg) : FnOk P w K mg base CX0 5 T.f_law_none T.d_law_none ["_law_size", "_law_ballots_here"] (spNone K) := by
  refine T.F_law_none.ok sc_law_none (fun vs H Q E h => ?_) (fun cdv A outer s H vs Q E hr h => ?_)
  · obtain ⟨n, v, bs, rfl, _⟩ := h
    rfl
  · obtain ⟨n, v, bs, rfl, hn1, hn, hB, hok, hpk, hbl, q⟩ := h
    refine ⟨_, pss_cons (L2N.ps_try_as (i := 2) rfl rfl sc_law_none.nd rfl rfl ⟨rfl, by decide, .inl T.e_CountError.g⟩ takes0N
        (fun W pn xe tk _ => pss_one (ps_expr (pe_callS (okX_middle T) (hr.mono (by decide)) (by rfl) T.g_middle T.F_middle.kp (b_middle T) (fun σ => L2N.passAt tk σ) (pa_cons (pv 0) (pa_cons (pv 1) pa_nil)))))
        (fun a oe cls d pn hz hf => pss_cons (ps_set (i := 3) sc_law_none.nd rfl (Or.inl rfl) (pe_lst
            (pa_cons (pe_callB (isN K hz hf) (by rfl) T.n_isinstance boot_isinstance (pa_cons (pv 2) (pa_cons (pe_glob (v := .ref T.c_BadBallots) (by rfl) T.e_BadBallots.g rfl) pa_nil)))
            (pa_cons (pe_callB (isN K hz hf) (by rfl) T.n_isinstance boot_isinstance (pa_cons (pv 2) (pa_cons (pe_glob (v := .ref T.c_BadCandidates) (by rfl) T.e_BadCandidates.g rfl) pa_nil)))
            (pa_cons (pe_callB (isN K hz hf) (by rfl) T.n_isinstance boot_isinstance (pa_cons (pv 2) (pa_cons (pe_glob (v := .ref T.c_BadTable) (by rfl) T.e_BadTable.g rfl) pa_nil))) pa_nil)))))
          (pss_one (ps_ret (pe_and (pe_callB (isN K hz hf) (by rfl) T.n_isinstance boot_isinstance (pa_cons (pv 2) (pa_cons (pe_glob (v := .ref T.c_NotPeaked) (by rfl) T.e_NotPeaked.g rfl) pa_nil)))
            (pe_one (pe_not (pe_callB (anyN K hz hf) (by rfl) T.n_any PyProof.Rows.boot_any (pa_cons (pv 3) pa_nil)))))))))
      (pss_one (ps_ret (pe_bl))), ?_⟩
    refine ⟨_, rfl, _, rfl, n, v, bs, rfl, hn1, hn, hB, hok, hpk, hbl, fun H2 e2 => ?_⟩
    refine ⟨true, exm_err T.e_CountError T.u_NotPeaked_CountError, fun _ a ha => ?_, fun z => nomatch z⟩
    have rel : ∀ C : Addr, ∀ u, RelV (.ref C) u → u = .ref C := fun C u r => by cases r; rfl
    refine ⟨_, rfl, T.c_NotPeaked, rfl, rfl, T.x_NotPeaked, _, _, false, rfl, rel _, T.k_NotPeaked_BadBallots, ?_⟩
    refine ⟨_, rfl, T.c_NotPeaked, rfl, rfl, T.x_NotPeaked, _, _, false, rfl, rel _, T.k_NotPeaked_BadCandidates, ?_⟩
    refine ⟨_, rfl, T.c_NotPeaked, rfl, rfl, T.x_NotPeaked, _, _, false, rfl, rel _, T.k_NotPeaked_BadTable, ?_⟩
    refine ⟨by decide, fun F nF => ?_⟩
    have e3 := Ex.new (o := .lst [.bl false, .bl false, .bl false]) nF
    refine ⟨_, rfl, T.c_NotPeaked, rfl, rfl, T.x_NotPeaked, _, _, true, rfl, rel _, T.k_NotPeaked_NotPeaked, ?_⟩
    refine ⟨true, rfl, it2 (fun _ => ?_) (fun z => nomatch z)⟩
    refine ⟨_, rfl, F, [false, false, false], rfl, sq_of upd_same, ?_⟩
    exact ⟨false, rfl, q _ (e2.trans e3)⟩
end
end Hc
namespace Hc
open PySem PySem.Spec PyProof.Rows L2 Evl
section
variable {P : Program} {w : World} {K : PySem.W.Frag} {mg : Str → Option Value} {base : Heap}
def spLaw (K : PySem.W.Frag) : Sp := fun vs H Q _ => ∃ (a : Addr) (ns : List Int) (B : Nat), vs = [.ref a] ∧ SqL K H a (iv ns) ∧ ns.length ≤ 63 ∧ (∀ z ∈ ns, Big B z) ∧ B ≤ 2000000 ∧ ∀ H', Q (.bl true) H'
theorem paired_p {α β : Type} {R : α → β → Prop} {p : β → Bool} : ∀ {xs : List α} {bs : List β}, Paired R xs bs → bs.all p = true → Paired (fun x b => R x b ∧ p b = true) xs bs
  | _, _, .nil, _ => .nil
  | _, _, .cons h r, hp => by
    rw [List.all_cons, Bool.and_eq_true] at hp
    exact .cons ⟨h, hp.1⟩ (paired_p r hp.2)
theorem paired_set {α β : Type} {R : α → β → Prop} {x : α} {b : β} (hx : R x b) : ∀ {xs : List α} {bs : List β} (j : Nat), Paired R xs bs → Paired R (xs.set j x) (bs.set j b)
  | _, _, _, .nil => .nil
  | _, _, 0, .cons _ r => .cons hx r
  | _, _, j + 1, .cons h r => .cons h (paired_set hx j r)
theorem all_set {β : Type} {p : β → Bool} {b : β} (hb : p b = true) : ∀ (bs : List β) (j : Nat), bs.all p = true → (bs.set j b).all p = true
  | [], _, _ => rfl
  | _ :: bs, 0, h => by
    rw [List.all_cons, Bool.and_eq_true] at h
    rw [List.set_cons_zero, List.all_cons, hb, h.2]
    rfl
  | c :: bs, j + 1, h => by
    rw [List.all_cons, Bool.and_eq_true] at h
    rw [List.set_cons_succ, List.all_cons, h.1, all_set hb bs j h.2]
    rfl
/-- one ballot, written out -/
theorem lit1 {K : PySem.W.Frag} {H : Hp} {l t L : Addr} {ks : List Nat} {m : Int} (nt : upd H l (.lst (nv ks)) t = none) (nL : upd (upd H l (.lst (nv ks))) t (.tup [.ref l, .int m]) L = none) :
    BalsR K (upd (upd (upd H l (.lst (nv ks))) t (.tup [.ref l, .int m])) L (.lst [.ref t])) (.ref L) [(ks, m)] :=
  ⟨L, _, rfl, sq_of upd_same, .cons ⟨t, l, rfl, st_of (Ex.new nL _ _ upd_same), sq_of (((Ex.new nt).trans (Ex.new nL)) _ _ upd_same)⟩ .nil⟩
/-- two ballots, written out -/
theorem lit2 {K : PySem.W.Frag} {H : Hp} {l t l' t' L : Addr} {ks ks' : List Nat} {m m' : Int} (nt : upd H l (.lst (nv ks)) t = none) (nl' : upd (upd H l (.lst (nv ks))) t (.tup [.ref l, .int m]) l' = none)
    (nt' : upd (upd (upd H l (.lst (nv ks))) t (.tup [.ref l, .int m])) l' (.lst (nv ks')) t' = none) (nL : upd (upd (upd (upd H l (.lst (nv ks))) t (.tup [.ref l, .int m])) l' (.lst (nv ks'))) t' (.tup [.ref l', .int m']) L = none) :
    BalsR K (upd (upd (upd (upd (upd H l (.lst (nv ks))) t (.tup [.ref l, .int m])) l' (.lst (nv ks'))) t' (.tup [.ref l', .int m'])) L (.lst [.ref t, .ref t'])) (.ref L) [(ks, m), (ks', m')] :=
  ⟨L, _, rfl, sq_of upd_same, .cons ⟨t, l, rfl, st_of (((Ex.new nl').trans ((Ex.new nt').trans (Ex.new nL))) _ _ upd_same), sq_of (((Ex.new nt).trans ((Ex.new nl').trans ((Ex.new nt').trans (Ex.new nL)))) _ _ upd_same)⟩
    (.cons ⟨t', l', rfl, st_of (Ex.new nL _ _ upd_same), sq_of (((Ex.new nt').trans (Ex.new nL)) _ _ upd_same)⟩ .nil)⟩
/-- an item of new ballots is put in anew -/
theorem bent_set {K : PySem.W.Frag} {H3 H4 : Hp} {D : Addr} {ts ls : List Addr} {bs : List (List Nat × Int)} {n j : Nat} {x : V} {b' : List Nat × Int} (B : BalsN H3 H4 D ts ls bs) (hn1 : 1 ≤ n) (hok : bs.all (okB n) = true) (e4 : Ex H3 H4) (hx : BalW H3 x b') :
    BalsR K (upd H4 D (.lst ((ts.map V.ref).set j x))) (.ref D) (bs.set j b') := by
  have hW := pairedW_of ts ls bs B.lt B.ll B.at_
  have eM : Ex H3 (upd H4 D (.lst ((ts.map V.ref).set j x))) := e4.mut B.fD
  have hP := Paired.mapP (paired_p hW hok) (G := BalR K (upd H4 D (.lst ((ts.map V.ref).set j x)))) fun y b ⟨⟨t, l, h1, h2, h3⟩, h4⟩ => by
    have nt : t ≠ D := fun e => by rw [e, B.top] at h2; cases h2
    have nl : l ≠ D := fun e => by
      rw [e, B.top] at h3
      have h5 : ts.map V.ref = nv b.1 := HO.lst.inj (Option.some.inj h3)
      have h6 := okB_ne hn1 h4
      cases hb : b.1 with
      | nil => exact h6 hb
      | cons k ks =>
        rw [hb] at h5
        cases ts with
        | nil => cases h5
        | cons t' ts' => cases h5
    exact ⟨t, l, h1, st_of (by rw [upd_ne nt]; exact h2), sq_of (by rw [upd_ne nl]; exact h3)⟩
  exact ⟨D, _, rfl, sq_of upd_same, paired_set (hx.mono eM).rd j hP⟩
theorem ok_law (T : Tx K mg) : FnOk P w K mg base CX0 6 T.f_law T.d_law ["_law_script"] (spLaw K) := by
  refine T.F_law.ok sc_law (fun vs H Q E h => ?_) (fun cdv A outer s H vs Q E hr h => ?_)
  · obtain ⟨a, ns, B, rfl, _⟩ := h
    rfl
  · obtain ⟨a, ns, B, rfl, hS, h63, hB, hB2, q⟩ := h
    refine ⟨_, pss_cons (ps_set (i := 1) sc_law.nd rfl (Or.inl rfl) (pe_callB (sumK K) (by rfl) T.n_sum PyProof.Rows.boot_sum (pa_cons (pe_slice (slLK K) (pv 0) po_none (po_some pe_int)) pa_nil)))
      (pss_cons (ps_set (i := 2) sc_law.nd rfl (Or.inl rfl) (pe_op op_add pe_int (pe_op op_mod (pv 1) pe_int)))
      (Evl.pss_cut (ps_if (pt_cmpR op_eq (pe_op op_mod (pe_op op_fdivW (pv 1) pe_int) pe_int) pe_int (nomark _)) (pss_one (ps_set (i := 2) sc_law.nd rfl (Or.inl rfl) (pe_op op_add pe_int (pe_op op_mod (pe_op op_fdivW (pv 1) pe_int) pe_int)))) (pss_nil))
      (pss_cons (ps_set (i := 3) sc_law.nd rfl (Or.inl rfl) (pe_call (ok_law_peaks T) (hr.mono (by decide)) (by rfl) T.g_law_peaks T.F_law_peaks.kp (b_law_peaks T) .nil pass0 (pa_cons (pv 0) (pa_cons (pv 2) pa_nil))))
      (pss_cons (ps_set (i := 4) sc_law.nd rfl (Or.inl rfl) (pe_call (ok_law_ballots T) (hr.mono (by decide)) (by rfl) T.g_law_ballots T.F_law_ballots.kp (b_law_ballots T) .nil pass0 (pa_cons (pv 0) (pa_cons (pv 2) pa_nil))))
      (pss_cons (ps_setLc (i := 5) (own := [("_law_line", 11), ("_law_many", 12)]) rfl sc_law.nd rfl rfl (sw_true rfl rfl rfl (by decide +kernel)) (piL K (pv 3)) (blkOk_by (own := [("_law_line", 11), ("_law_many", 12)]) (N := ["_law_script", "_law_whole", "_law_size", "_law_peaks_here", "_law_any_ones", "_law_bent", "_law_ballots_here", "_law_handed", "_law_due", "_law_said", "_law_who", "_law_line", "_law_many"]) (sc := defScope s_law) (by decide +kernel)) (fun _ _ _ _ _ => (pgT K (n := 2) (pgs_cons (pg_name (i := 11) sc_law.nd rfl (by first | exact Or.inl rfl | exact Or.inr rfl)) (pgs_cons (pg_name (i := 12) sc_law.nd rfl (by first | exact Or.inl rfl | exact Or.inr rfl)) pgs_nil)))) (fun _ _ _ _ _ => pts_nil) (fun _ _ _ _ _ => (pe_tup (pa_cons (pe_callTy (listK K) (by rfl) T.n_list bt_list (pa_cons (pv 11) pa_nil)) (pa_cons (pv 12) pa_nil)))))
      (Evl.pss_cut (ps_if (pt_cmpR (neDK K hr.units) (pv 5) (pe_lst pa_nil) (nomark _)) (pss_one (ps_asg (pe_ix (ixLK K) (pv 4) (pe_op op_mod (pe_op op_fdivW (pv 1) pe_int) (pe_callB (lenK K) (by rfl) T.n_len PySem.boot_len (pa_cons (pv 5) pa_nil))) (fun _ _ => rfl)) (pg_sub (pv 5) (pe_op op_mod (pe_op op_fdivW (pv 1) pe_int) (pe_callB (lenK K) (by rfl) T.n_len PySem.boot_len (pa_cons (pv 5) pa_nil))) set_list))) (pss_nil))
      (pss_cons (ps_for PassesOwn.never rfl (piL K (pe_lst (pa_cons (pv 3) (pa_cons (pv 4) (pa_cons (pv 5) (pa_cons (pe_slice (slLK K) (pv 4) po_none (po_some pe_int)) (pa_cons (pe_lst pa_nil) pa_nil))))))) (pg_name (i := 6) sc_law.nd rfl (by first | exact Or.inl rfl | exact Or.inr rfl))
        (pss_cons (ps_setLc (i := 7) (own := [("_law_line", 11), ("_law_many", 12)]) rfl sc_law.nd rfl rfl (sw_true rfl rfl rfl (by decide +kernel)) (piL K (pv 6)) (blkOk_by (own := [("_law_line", 11), ("_law_many", 12)]) (N := ["_law_script", "_law_whole", "_law_size", "_law_peaks_here", "_law_any_ones", "_law_bent", "_law_ballots_here", "_law_handed", "_law_due", "_law_said", "_law_who", "_law_line", "_law_many"]) (sc := defScope s_law) (by decide +kernel)) (fun _ _ _ _ _ => (pgT K (n := 2) (pgs_cons (pg_name (i := 11) sc_law.nd rfl (by first | exact Or.inl rfl | exact Or.inr rfl)) (pgs_cons (pg_name (i := 12) sc_law.nd rfl (by first | exact Or.inl rfl | exact Or.inr rfl)) pgs_nil)))) (fun _ _ _ _ _ => pts_nil) (fun _ _ _ _ _ => (pe_tup (pa_cons (pe_callTy (listK K) (by rfl) T.n_list bt_list (pa_cons (pv 11) pa_nil)) (pa_cons (pv 12) pa_nil)))))
      (pss_cons (ps_set (i := 8) sc_law.nd rfl (Or.inl rfl) (pe_callB (allK K) (by rfl) T.n_all PyProof.Rows.boot_all (pa_cons (pe_lc (own := [("_law_line", 11), ("_law_many", 12)]) rfl sc_law.nd (piL K (pv 6)) (blkOk_by (own := [("_law_line", 11), ("_law_many", 12)]) (N := ["_law_script", "_law_whole", "_law_size", "_law_peaks_here", "_law_any_ones", "_law_bent", "_law_ballots_here", "_law_handed", "_law_due", "_law_said", "_law_who", "_law_line", "_law_many"]) (sc := defScope s_law) (by decide +kernel)) (fun _ _ _ _ _ => (pgT K (n := 2) (pgs_cons (pg_name (i := 11) sc_law.nd rfl (by first | exact Or.inl rfl | exact Or.inr rfl)) (pgs_cons (pg_name (i := 12) sc_law.nd rfl (by first | exact Or.inl rfl | exact Or.inr rfl)) pgs_nil)))) (fun _ _ _ _ _ => pts_nil) (fun _ _ _ _ _ => (pe_call (ok_law_peaked T) (hr.mono (by decide)) (by rfl) T.g_law_peaked T.F_law_peaked.kp (b_law_peaked T) .nil pass0 (pa_cons (pv 11) pa_nil)))) pa_nil)))
      (pss_cons (ps_set (i := 9) sc_law.nd rfl (Or.inl rfl) (pe_call (ok_peaked T) (hr.mono (by decide)) (by rfl) T.g_peaked T.F_peaked.kp (b_peaked T) .nil pass0 (pa_cons (pv 2) (pa_cons (pv 7) pa_nil))))
      (pss_cons (ps_if (PW.pt (pw_or (pt_not (pt_val (pe_callB (isiK K) (by rfl) T.n_isinstance PyProof.Rows.boot_isinstance (pa_cons (pv 9) (pa_cons (pe_bltn (v := .ty "bool") (by rfl) T.n_bool bt_bool rfl) pa_nil))))) (pw_or (pt_cmpR op_ne (pv 9) (pv 8) (nomark _)) (pw_or1 (pt_cmpR (neDK K hr.units) (pv 7) (pv 6) (nomark _)))))) (pss_one (ps_ret pe_bl)) (pss_nil))
      (pss_cons (ps_if (PW.pt (pw_and (pt_not (pt_val (pv 8))) (pw_and1 (pt_not (pt_val (pe_call (ok_law_none T) (hr.mono (by decide)) (by rfl) T.g_law_none T.F_law_none.kp (b_law_none T) .nil pass0 (pa_cons (pv 2) (pa_cons (pv 7) pa_nil)))))))) (pss_one (ps_ret pe_bl)) (pss_nil))
      (pss_one (ps_if (pt_val (pv 8)) (pss_cons (ps_set (i := 10) sc_law.nd rfl (Or.inl rfl) (pe_call (ok_middle T) (hr.mono (by decide)) (by rfl) T.g_middle T.F_middle.kp (b_middle T) .nil pass0 (pa_cons (pv 2) (pa_cons (pv 7) pa_nil))))
      (pss_cons (ps_if (PW.pt (pw_or (pt_val (pe_callB (isiK K) (by rfl) T.n_isinstance PyProof.Rows.boot_isinstance (pa_cons (pv 10) (pa_cons (pe_bltn (v := .ty "bool") (by rfl) T.n_bool bt_bool rfl) pa_nil)))) (pw_or (pt_cmpR op_ne (pv 10) (pe_call (ok_law_middle T) (hr.mono (by decide)) (by rfl) T.g_law_middle T.F_law_middle.kp (b_law_middle T) .nil pass0 (pa_cons (pv 6) pa_nil)) (nomark _)) (pw_or1 (pt_cmpR (neDK K hr.units) (pv 7) (pv 6) (nomark _)))))) (pss_one (ps_ret pe_bl)) (pss_nil))
      (pss_one (ps_if (pt_cmpR op_lt (pe_callB (minK K) (by rfl) T.n_min PyProof.Rows.boot_min (pa_cons (pe_ix (ixLK K) (pe_call (ok_counted T) (hr.mono (by decide)) (by rfl) T.g_counted T.F_counted.kp (b_counted T) .nil pass0 (pa_cons (pv 2) (pa_cons (pv 6) pa_nil))) (pv 10) (fun _ _ => rfl)) pa_nil)) pe_int (nomark _)) (pss_one (ps_ret pe_bl)) (pss_nil))))) (pss_nil)))))))))
      (pss_cons (ps_if (PW.pt (pw_or (pt_not (pt_val (pe_call (ok_peaked T) (hr.mono (by decide)) (by rfl) T.g_peaked T.F_peaked.kp (b_peaked T) .nil pass0 (pa_cons pe_int (pa_cons (pe_lst (pa_cons (pe_tup (pa_cons (pe_lst (pa_cons pe_int (pa_cons pe_int (pa_cons pe_int pa_nil)))) (pa_cons pe_int pa_nil))) pa_nil)) pa_nil))))) (pw_or1 (pt_val (pe_call (ok_peaked T) (hr.mono (by decide)) (by rfl) T.g_peaked T.F_peaked.kp (b_peaked T) .nil pass0 (pa_cons pe_int (pa_cons (pe_lst (pa_cons (pe_tup (pa_cons (pe_lst (pa_cons pe_int (pa_cons pe_int (pa_cons pe_int pa_nil)))) (pa_cons pe_int pa_nil))) pa_nil)) pa_nil))))))) (pss_one (ps_ret pe_bl)) (pss_nil))
      (pss_one (ps_ret (pe_cmpR op_eq (pe_call (ok_middle T) (hr.mono (by decide)) (by rfl) T.g_middle T.F_middle.kp (b_middle T) .nil pass0 (pa_cons pe_int (pa_cons (pe_lst (pa_cons (pe_tup (pa_cons (pe_lst (pa_cons pe_int (pa_cons pe_int (pa_cons pe_int pa_nil)))) (pa_cons pe_int pa_nil))) (pa_cons (pe_tup (pa_cons (pe_lst (pa_cons pe_int (pa_cons pe_int (pa_cons pe_int pa_nil)))) (pa_cons pe_int pa_nil))) pa_nil))) pa_nil))) pe_int (nomark _)))))))))))), ?_⟩
    refine ⟨.ref a, rfl, 63, rfl, a, iv ns, rfl, hS, fun c1 nc1 => ?_⟩
    have e1 : Ex _ (upd H c1 (.lst (cutV (iv ns) none (some 63)))) := Ex.new nc1
    have ec1 : cutV (iv ns) none (some 63) = (ns.take 63).map V.int := by
      rw [show (63 : Int) = ((63 : Nat) : Int) from rfl, cut_to]
      unfold iv
      rw [List.map_take]
    refine ⟨c1, ns.take 63, rfl, sq_of (by rw [upd_same, ec1]), ?_⟩
    generalize (ns.take 63).sum = wh
    generalize (upd H c1 (.lst (cutV (iv ns) none (some 63)))) = H1 at e1
    have m9 := Int.emod_nonneg wh (show (9 : Int) ≠ 0 by decide)
    have m9' := Int.emod_lt_of_pos wh (show (0 : Int) < 9 by decide)
    have m11 := Int.emod_nonneg (wh / 144) (show (11 : Int) ≠ 0 by decide)
    have m11' := Int.emod_lt_of_pos (wh / 144) (show (0 : Int) < 11 by decide)
    refine ⟨_, rfl, _, _, rfl, rfl, (by decide : (0 : Int) < 9), _, _, rfl, rfl, ?_⟩
    refine ⟨fun σ' H' => H' = H1 ∧ ∃ z : Int, 1 ≤ z ∧ z ≤ 20 ∧ σ' = [some (.ref a), some (.int wh), some (.int z), none, none, none, none, none, none, none, none, none, none], ?_, ?_⟩
    · refine ⟨_, rfl, _, _, rfl, rfl, divW_small (by decide) (by decide), _, _, rfl, rfl, (by decide : (0 : Int) < 16), rfl, _, rfl, it2 (fun _ => ?_) (fun _ => ?_)⟩
      · exact ⟨_, rfl, _, _, rfl, rfl, divW_small (by decide) (by decide), _, _, rfl, rfl, (by decide : (0 : Int) < 11), _, _, rfl, rfl, rfl, _, by omega, by omega, rfl⟩
      · exact ⟨rfl, _, by omega, by omega, rfl⟩
    rintro σ' H' ⟨rfl, z, hz1, hz2, rfl⟩
    obtain ⟨n, rfl⟩ : ∃ n : Nat, z = (n : Int) := ⟨z.toNat, by omega⟩
    have hn1 : 1 ≤ n := by omega
    have hn : n ≤ 20 := by omega
    refine ⟨_, rfl, _, rfl, a, ns, n, B, rfl, ex_l e1 hS, hn1, hn, hB, hB2, fun H2 D xs bs e2 nD hD hPW hok hlen => ?_⟩
    refine ⟨_, rfl, _, rfl, a, ns, n, B, rfl, ex_l (e1.trans e2) hS, hn, hB, hB2, fun H3 D' xs' bs' e3 nD' hD' hPW' hok' hlen' => ?_⟩
    have hP := Paired.mapP (G := BalR K H3) hPW fun _ _ z => (z.mono e3).rd
    have hP' := Paired.mapP (G := BalR K H3) hPW' fun _ _ z => z.rd
    have hR : BalsR K H3 (.ref D) bs := ⟨D, xs, rfl, sq_of (e3 _ _ hD), hP⟩
    have hR' : BalsR K H3 (.ref D') bs' := ⟨D', xs', rfl, sq_of hD', hP'⟩
    have hxl : xs.length = bs.length := Paired.len hP
    have hxl' : xs'.length = bs'.length := Paired.len hP'
    have hD3 : H3 D = some (.lst xs) := e3 _ _ hD
    refine ⟨_, rfl, D, rfl, ⟨xs, sq_of hD3⟩, fun D2 hD2 => ?_⟩
    refine lc_bals (walk_list (K := K) (a := D) (xs := xs)) hD2 (by omega) (fun H e => ex_l e (sq_of hD3)) bs hxl.symm ?_ ?_
    · rintro i x Ha Ha' b hi hb ea ⟨rfl, hx⟩ Qc hq
      obtain ⟨b', hb', t, l, rfl, hT, hL⟩ := Paired.get hP hx
      rw [hb] at hb'
      cases hb'
      refine ⟨t, _, rfl, ex_t ea hT, rfl, .ref l, _, rfl, .int b.2, [], rfl, rfl, rfl, .ref l, rfl, l, nv b.1, rfl, .inl (ex_l ea hL), fun p np => ⟨_, rfl, (by decide : 2 ≤ sizeLine), fun t2 nt2 => ?_⟩⟩
      have ep := Ex.new (o := .lst (nv b.1)) np
      have et := Ex.new (o := .tup [.ref p, .int b.2]) nt2
      exact hq t2 p _ (fresh_back ep nt2) np (ep.trans et) upd_same (et _ _ upd_same)
    intro H4 ts ls e4 BN
    refine ⟨fun σ' H' => ∃ bs5, σ' = [some (.ref a), some (.int wh), some (.int (n : Int)), some (.ref D), some (.ref D'), some (.ref D2), none, none, none, none, none, none, none] ∧ BalsR K H' (.ref D) bs ∧ BalsR K H' (.ref D') bs' ∧ BalsR K H' (.ref D2) bs5 ∧ bs5.all (okB n) = true ∧ bs5.length ≤ 24, ?_, ?_⟩
    · refine ⟨_, rfl, Nat.zero_le _, fun F nF => ?_⟩
      have eF := Ex.new (o := .lst []) nF
      have hE : BalsR K (upd H4 F (.lst [])) (.ref F) [] := ⟨F, [], rfl, sq_of upd_same, .nil⟩
      refine ⟨_, _, (BN.rd.mono eF).dp, hE.dp, shaped_bals _, shaped_bals _, _, rfl, it2 (fun hc => ?_) (fun _ => ?_)⟩
      · have hpos : 0 < bs.length := by
          cases bs with
          | nil =>
            rw [SeqAt.eqv_refl _ (lay_bals [])] at hc
            exact nomatch hc
          | cons _ _ => exact Nat.succ_pos _
        have BF := BN.mono eF
        have hlts : (ts.map V.ref).length = bs.length := by rw [List.length_map, BN.lt]
        have hlp : (0 : Int) < ((ts.map V.ref).length : Int) := by rw [hlts]; omega
        have g1 := Int.emod_nonneg (wh / 9) (show ((ts.map V.ref).length : Int) ≠ 0 by omega)
        have g2 := Int.emod_lt_of_pos (wh / 9) hlp
        obtain ⟨j, hj⟩ : ∃ j : Nat, wh / 9 % ((ts.map V.ref).length : Int) = (j : Int) := ⟨(wh / 9 % ((ts.map V.ref).length : Int)).toNat, by omega⟩
        have hjl : j < (ts.map V.ref).length := by omega
        have hjx : j < xs'.length := by omega
        have hjb : j < bs'.length := by omega
        have hx := Paired.get hPW' (List.getElem?_eq_getElem hjx)
        obtain ⟨b', hb', hW⟩ := hx
        refine ⟨_, rfl, _, rfl, _, _, rfl, rfl, divW_small (by decide) (by decide), _, rfl, D2, _, rfl, .inl (sq_of BF.top), _, _, rfl, rfl, hlp, D', xs', (j : Int), xs'[j], rfl, congrArg V.int hj, sq_of ((e4.trans eF) _ _ hD'), atI_nat (List.getElem?_eq_getElem hjx), ?_⟩
        refine ⟨_, rfl, _, rfl, _, _, rfl, rfl, divW_small (by decide) (by decide), _, rfl, D2, _, rfl, .inl (sq_of BF.top), _, _, rfl, rfl, hlp, D2, _, (j : Int), j, rfl, congrArg V.int hj, BF.top, ixN_nat hjl, ?_⟩
        have eM : Ex H3 (upd (upd H4 F (.lst [])) D2 (.lst ((ts.map V.ref).set j xs'[j]))) := (e4.trans eF).mut hD2
        exact ⟨bs.set j b', rfl, hR.mono eM, hR'.mono eM, bent_set BF hn1 hok (e4.trans eF) hW, all_set (List.all_eq_true.mp hok' b' (List.mem_of_getElem? hb')) _ _ hok, by rw [List.length_set]; omega⟩
      · exact ⟨bs, rfl, hR.mono (e4.trans eF), hR'.mono (e4.trans eF), BN.rd.mono eF, hok, by omega⟩
    rintro _ H5 ⟨bs5, rfl, hR5, hR5', hR5b, hok5, hlen5⟩
    obtain ⟨D0, xs5, ed, hS5, hP5⟩ := id hR5'
    cases ed
    refine ⟨_, rfl, _, rfl, _, rfl, _, rfl, 1, rfl, D', xs5, rfl, hS5, fun c nc => ?_⟩
    have ec := Ex.new (o := .lst (cutV xs5 none (some 1))) nc
    refine ⟨Nat.zero_le _, fun F nF => ?_⟩
    have eF := Ex.new (o := .lst []) nF
    refine ⟨(by decide : 5 ≤ sizeLine), fun L nL => ?_⟩
    have eL := Ex.new (o := .lst [.ref D, .ref D', .ref D2, .ref c, .ref F]) nL
    have hcut : cutV xs5 none (some 1) = xs5.take 1 := by
      rw [show (1 : Int) = ((1 : Nat) : Int) from rfl, cut_to]
    have ecF := (ec.trans eF).trans eL
    have hall : ∀ x ∈ [V.ref D, .ref D', .ref D2, .ref c, .ref F], ∃ cs, BalsR K (upd (upd (upd H5 c (.lst (cutV xs5 none (some 1)))) F (.lst [])) L (.lst [.ref D, .ref D', .ref D2, .ref c, .ref F])) x cs ∧ cs.all (okB n) = true ∧ cs.length ≤ 24 := by
      intro x hx
      rcases List.mem_cons.mp hx with rfl | hx
      · exact ⟨bs, hR5.mono ecF, hok, by omega⟩
      rcases List.mem_cons.mp hx with rfl | hx
      · exact ⟨bs', hR5'.mono ecF, hok', by omega⟩
      rcases List.mem_cons.mp hx with rfl | hx
      · exact ⟨bs5, hR5b.mono ecF, hok5, hlen5⟩
      rcases List.mem_cons.mp hx with rfl | hx
      · refine ⟨bs'.take 1, ⟨c, xs5.take 1, rfl, sq_of ((eF.trans eL) _ _ (by rw [← hcut]; exact upd_same)), Paired.take 1 (Paired.mapP hP5 fun _ _ z => z.mono ecF)⟩, ?_, by rw [List.length_take]; omega⟩
        rw [List.all_eq_true]
        exact fun b hb => List.all_eq_true.mp hok' b (List.mem_of_mem_take hb)
      rcases List.mem_cons.mp hx with rfl | hx
      · exact ⟨[], ⟨F, [], rfl, sq_of (eL _ _ upd_same), .nil⟩, rfl, Nat.zero_le _⟩
      · exact nomatch hx
    have hL : upd (upd (upd H5 c (.lst (cutV xs5 none (some 1)))) F (.lst [])) L (.lst [.ref D, .ref D', .ref D2, .ref c, .ref F]) L = some (.lst [.ref D, .ref D', .ref D2, .ref c, .ref F]) := upd_same
    generalize upd (upd (upd H5 c (.lst (cutV xs5 none (some 1)))) F (.lst [])) L (.lst [.ref D, .ref D', .ref D2, .ref c, .ref F]) = H6 at hall hL ⊢
    refine ⟨L, rfl, ⟨_, sq_of hL⟩, for_list (K := K) (a := L) (xs := [.ref D, .ref D', .ref D2, .ref c, .ref F]) (fun i σ' H' => ∃ y6 y7 y8 y9 y10, σ' = [some (.ref a), some (.int wh), some (.int (n : Int)), some (.ref D), some (.ref D'), some (.ref D2), y6, y7, y8, y9, y10, none, none] ∧ Ex H6 H')
      ⟨_, _, _, _, _, rfl, Ex.refl _⟩ (fun i σ' H' _ ⟨_, _, _, _, _, _, e⟩ => sq_of (e _ _ hL)) ?_ ?_⟩
    · rintro i x σ' H7 hi ⟨y6, y7, y8, y9, y10, rfl, e7⟩
      obtain ⟨cs, hC, hokc, hcl⟩ := hall x (List.mem_of_getElem? hi)
      have hC7 := hC.mono e7
      obtain ⟨d, zs, rfl, hSc, hPc⟩ := id hC7
      have hzl : zs.length = cs.length := Paired.len hPc
      refine ⟨_, rfl, d, rfl, ⟨zs, hSc⟩, fun D3 hD3' => ?_⟩
      refine lc_bals (walk_list (K := K) (a := d) (xs := zs)) hD3' (by omega) (fun H e => ex_l e hSc) cs hzl.symm ?_ ?_
      · rintro i x Ha Ha' b hi hb ea ⟨rfl, hx⟩ Qc hq
        obtain ⟨b', hb', t, l, rfl, hT, hL⟩ := Paired.get hPc hx
        rw [hb] at hb'
        cases hb'
        refine ⟨t, _, rfl, ex_t ea hT, rfl, .ref l, _, rfl, .int b.2, [], rfl, rfl, rfl, .ref l, rfl, l, nv b.1, rfl, .inl (ex_l ea hL), fun p np => ⟨_, rfl, (by decide : 2 ≤ sizeLine), fun t2 nt2 => ?_⟩⟩
        have ep := Ex.new (o := .lst (nv b.1)) np
        have et := Ex.new (o := .tup [.ref p, .int b.2]) nt2
        exact hq t2 p _ (fresh_back ep nt2) np (ep.trans et) upd_same (et _ _ upd_same)
      intro H8 ts3 ls3 e8 BN3
      refine ⟨_, rfl, d, rfl, ⟨zs, ex_l e8 hSc⟩, fun D4 hD4 => ?_⟩
      refine lc_vals (walk_list (K := K) (a := d) (xs := zs)) hD4 (by omega) (fun Hx e => ex_l (e8.trans e) hSc) (fun i => V.bl (isPk (cs.getD i ([], 0)).1)) ?_ ?_
      · rintro i x Ha Ha' hi ea ⟨rfl, hx⟩ Qc hq
        obtain ⟨b, hb, t, l, rfl, hT, hL⟩ := Paired.get hPc hx
        rw [List.getD_eq_getElem?_getD, hb] at hq
        have eH := e8.trans ea
        have hb1 := List.all_eq_true.mp hokc b (List.mem_of_getElem? hb)
        exact ⟨t, _, rfl, ex_t eH hT, rfl, .ref l, _, rfl, .int b.2, [], rfl, rfl, rfl, _, rfl, l, b.1, rfl, ex_l eH hL, okB_ne hn1 hb1, by rw [okB_len hb1]; omega, fun H2 e2 => hq _ e2⟩
      intro H9 e9 hD9
      rw [hzl, map_bl_all] at hD9
      refine ⟨D4, _, rfl, sq_of hD9, ?_⟩
      rw [all_bals cs fun b => isPk b.1]
      refine ⟨_, rfl, _, rfl, n, _, cs, rfl, hn1, hn, BN3.rd.mono e9, hokc, by omega, fun H10 e10 => ?_⟩
      have e8' := e9.trans e10
      have hC10 := hC7.mono (e8.trans e8')
      have hN10 : BalsR K H10 (.ref D3) cs := BN3.rd.mono e8'
      refine ⟨_, rfl, _, .ty "bool", _, _, true, rfl, .ty _, .base (.bl _), kit_ty (by decide +kernel), true, rfl, _, rfl, _, rfl, rfl, _, rfl, itF (by simp) ?_⟩
      refine ⟨_, rfl, _, rfl, _, _, hN10.dp, hC10.dp, shaped_bals _, shaped_bals _, _, rfl, itF (by rw [SeqAt.eqv_refl _ (lay_bals cs)]; rfl) ?_⟩
      cases hdue : (cs.all fun b => isPk b.1) with
      | false =>
        refine ⟨_, rfl, _, rfl, _, rfl, _, rfl, n, _, cs, rfl, hn1, hn, hN10, hokc, hdue, by omega, fun H11 e11 => ⟨true, rfl, ?_⟩⟩
        exact ⟨_, rfl, _, rfl, _, _, _, _, _, rfl, e7.trans (e8.trans (e8'.trans e11))⟩
      | true =>
        refine ⟨_, rfl, _, rfl, _, rfl, _, rfl, _, rfl, _, rfl, n, _, cs, rfl, hn1, hn, hN10, hokc, hdue, by omega, fun H11 w e11 hw1 hw2 hw3 => ?_⟩
        have hC11 := hC10.mono e11
        refine ⟨_, rfl, _, .ty "bool", _, _, false, rfl, .ty _, .base (.int _), kit_ty (by decide +kernel), false, rfl, _, rfl, _, rfl, n, _, cs, rfl, hn1, hC11, hokc, by omega, fun H12 w' e12 g1 g2 => ?_⟩
        have ew : w' = w := least_uniq (P := fun v => wholeOf cs ≤ 2 * held cs v) g1 hw2 (fun v hv hq => by have := g2 v hv; omega) (fun v hv hq => by have := hw3 v hv; omega)
        subst ew
        have hC12 := hC11.mono e12
        have hN12 := hN10.mono (e11.trans e12)
        refine ⟨rfl, _, rfl, itF (by simp) ?_⟩
        refine ⟨_, rfl, _, rfl, _, _, hN12.dp, hC12.dp, shaped_bals _, shaped_bals _, _, rfl, itF (by rw [SeqAt.eqv_refl _ (lay_bals cs)]; rfl) ?_⟩
        refine ⟨_, rfl, _, rfl, n, _, cs, rfl, hn1, hn, hC12, hokc, fun H13 t rs e13 TT => ?_⟩
        obtain ⟨r, hr1, hr2, hr3, hr4⟩ := TT.at_ hw1
        refine ⟨_, rfl, t, _, w', .ref r, rfl, rfl, sq_of TT.top, atI_nat hr3, r, (List.range n).map (cnt cs w'), rfl, sq_of (by rw [hr4]; unfold rowV; rw [List.map_map]; rfl), by rw [List.length_map, List.length_range]; omega, fun m hm hmin => ?_⟩
        have hfree := middle_free hw1 (bs := cs) (fun b hb => ?_) hw2 hw3
        · obtain ⟨o, ho, rfl⟩ := List.mem_map.mp hm
          have := hfree o (List.mem_range.mp ho)
          refine ⟨_, _, rfl, rfl, _, rfl, itF (decide_eq_false (by omega)) ?_⟩
          exact ⟨_, _, _, _, _, rfl, e7.trans (e8.trans (e8'.trans (e11.trans (e12.trans e13))))⟩
        · have h1 := List.all_eq_true.mp hokc b hb
          unfold okB at h1
          rw [Bool.and_eq_true] at h1
          exact ⟨List.isPerm_iff.mp h1.2, List.all_eq_true.mp hdue b hb, of_decide_eq_true h1.1⟩
    · rintro σ' H7 ⟨y6, y7, y8, y9, y10, rfl, e7⟩
      refine ⟨(by decide : 3 ≤ sizeLine), fun l1 _ => ⟨(by decide : 2 ≤ sizeLine), fun t1 nt1 => ⟨(by decide : 1 ≤ sizeLine), fun L1 nL1 => ?_⟩⟩⟩
      refine ⟨3, _, [([1, 2, 0], 4)], rfl, by decide, by decide, lit1 (ks := [1, 2, 0]) nt1 nL1, by decide, by decide, fun H8 e8 => ⟨true, by decide, ?_⟩⟩
      refine ⟨(by decide : 3 ≤ sizeLine), fun l2 _ => ⟨(by decide : 2 ≤ sizeLine), fun t2 nt2 => ⟨(by decide : 1 ≤ sizeLine), fun L2 nL2 => ?_⟩⟩⟩
      refine ⟨3, _, [([0, 2, 1], 4)], rfl, by decide, by decide, lit1 (ks := [0, 2, 1]) nt2 nL2, by decide, by decide, fun H9 e9 => ⟨false, by decide, ?_⟩⟩
      refine ⟨(by decide : 3 ≤ sizeLine), fun l3 _ => ⟨(by decide : 2 ≤ sizeLine), fun t3 nt3 => ⟨(by decide : 3 ≤ sizeLine), fun l4 nl4 => ⟨(by decide : 2 ≤ sizeLine), fun t4 nt4 => ⟨(by decide : 2 ≤ sizeLine), fun L3 nL3 => ?_⟩⟩⟩⟩⟩
      refine ⟨3, _, [([2, 1, 0], 2), ([0, 1, 2], 3)], rfl, by decide, by decide, lit2 (ks := [2, 1, 0]) (ks' := [0, 1, 2]) nt3 nl4 nt4 nL3, by decide, by decide, by decide, fun H10 w e10 h1 h2 h3 => ?_⟩
      have ew : w = 0 := by
        by_cases c0 : w = 0
        · exact c0
        · have := h3 0 (by omega)
          exact absurd this (by decide)
      subst ew
      exact ⟨rfl, q _⟩
end
end Hc
namespace Hc
open PySem PySem.Spec PyProof.Rows L2 Evl
theorem tx_of {K : PySem.W.Frag} {h : Heap} {mg : Str → Option Value} (X : K.In h) (G : h.Ns mainGlobals mg)
    {f1 : Addr} {od1 an1 : Option Addr} {sl1 : Array (Option Value)} {oc1 kV1 dc1 pm1 cd1 ct1 : Value} {f2 : Addr} {od2 an2 : Option Addr} {sl2 : Array (Option Value)} {oc2 kV2 dc2 pm2 cd2 ct2 : Value} {f3 : Addr} {od3 an3 : Option Addr} {sl3 : Array (Option Value)} {oc3 kV3 dc3 pm3 cd3 ct3 : Value} {f4 : Addr} {od4 an4 : Option Addr} {sl4 : Array (Option Value)} {oc4 kV4 dc4 pm4 cd4 ct4 : Value} {f5 : Addr} {od5 an5 : Option Addr} {sl5 : Array (Option Value)} {oc5 kV5 dc5 pm5 cd5 ct5 : Value} {f6 : Addr} {od6 an6 : Option Addr} {sl6 : Array (Option Value)} {oc6 kV6 dc6 pm6 cd6 ct6 : Value} {f7 : Addr} {od7 an7 : Option Addr} {sl7 : Array (Option Value)} {oc7 kV7 dc7 pm7 cd7 ct7 : Value} {f8 : Addr} {od8 an8 : Option Addr} {sl8 : Array (Option Value)} {oc8 kV8 dc8 pm8 cd8 ct8 : Value} {f9 : Addr} {od9 an9 : Option Addr} {sl9 : Array (Option Value)} {oc9 kV9 dc9 pm9 cd9 ct9 : Value} {f10 : Addr} {od10 an10 : Option Addr} {sl10 : Array (Option Value)} {oc10 kV10 dc10 pm10 cd10 ct10 : Value} {f11 : Addr} {od11 an11 : Option Addr} {sl11 : Array (Option Value)} {oc11 kV11 dc11 pm11 cd11 ct11 : Value} {f12 : Addr} {od12 an12 : Option Addr} {sl12 : Array (Option Value)} {oc12 kV12 dc12 pm12 cd12 ct12 : Value} {f13 : Addr} {od13 an13 : Option Addr} {sl13 : Array (Option Value)} {oc13 kV13 dc13 pm13 cd13 ct13 : Value} {f14 : Addr} {od14 an14 : Option Addr} {sl14 : Array (Option Value)} {oc14 kV14 dc14 pm14 cd14 ct14 : Value} {f15 : Addr} {od15 an15 : Option Addr} {sl15 : Array (Option Value)} {oc15 kV15 dc15 pm15 cd15 ct15 : Value} {f16 : Addr} {od16 an16 : Option Addr} {sl16 : Array (Option Value)} {oc16 kV16 dc16 pm16 cd16 ct16 : Value} {t_MOST : Nat} {c_CountError : Addr} {c_BadCandidates : Addr} {c_BadBallots : Addr} {c_BadTable : Addr} {c_NotPeaked : Addr}
    (a1 : PySem.W.nsIn K mainGlobals "is_number" = some (some (.ref f1)))
    (l1 : K.lookup f1 = some ⟨oc1, od1, .func (PySem.W.fnOf "is_number" "is_number" (defArgs s_is_number) (defBody s_is_number) (defScope s_is_number) .none kV1 dc1 pm1 an1 cd1 ct1), sl1⟩)
    (e1 : PySem.W.codeIn K cd1 "is_number" = true)
    (k1 : PySem.W.keepIn K (.ref f1) = true)
    (a2 : PySem.W.nsIn K mainGlobals "asked_candidates" = some (some (.ref f2)))
    (l2 : K.lookup f2 = some ⟨oc2, od2, .func (PySem.W.fnOf "asked_candidates" "asked_candidates" (defArgs s_asked_candidates) (defBody s_asked_candidates) (defScope s_asked_candidates) .none kV2 dc2 pm2 an2 cd2 ct2), sl2⟩)
    (e2 : PySem.W.codeIn K cd2 "asked_candidates" = true)
    (k2 : PySem.W.keepIn K (.ref f2) = true)
    (a3 : PySem.W.nsIn K mainGlobals "are_ballots" = some (some (.ref f3)))
    (l3 : K.lookup f3 = some ⟨oc3, od3, .func (PySem.W.fnOf "are_ballots" "are_ballots" (defArgs s_are_ballots) (defBody s_are_ballots) (defScope s_are_ballots) .none kV3 dc3 pm3 an3 cd3 ct3), sl3⟩)
    (e3 : PySem.W.codeIn K cd3 "are_ballots" = true)
    (k3 : PySem.W.keepIn K (.ref f3) = true)
    (a4 : PySem.W.nsIn K mainGlobals "asked_ballots" = some (some (.ref f4)))
    (l4 : K.lookup f4 = some ⟨oc4, od4, .func (PySem.W.fnOf "asked_ballots" "asked_ballots" (defArgs s_asked_ballots) (defBody s_asked_ballots) (defScope s_asked_ballots) .none kV4 dc4 pm4 an4 cd4 ct4), sl4⟩)
    (e4 : PySem.W.codeIn K cd4 "asked_ballots" = true)
    (k4 : PySem.W.keepIn K (.ref f4) = true)
    (a5 : PySem.W.nsIn K mainGlobals "count_of" = some (some (.ref f5)))
    (l5 : K.lookup f5 = some ⟨oc5, od5, .func (PySem.W.fnOf "count_of" "count_of" (defArgs s_count_of) (defBody s_count_of) (defScope s_count_of) .none kV5 dc5 pm5 an5 cd5 ct5), sl5⟩)
    (e5 : PySem.W.codeIn K cd5 "count_of" = true)
    (k5 : PySem.W.keepIn K (.ref f5) = true)
    (a6 : PySem.W.nsIn K mainGlobals "counted" = some (some (.ref f6)))
    (l6 : K.lookup f6 = some ⟨oc6, od6, .func (PySem.W.fnOf "counted" "counted" (defArgs s_counted) (defBody s_counted) (defScope s_counted) .none kV6 dc6 pm6 an6 cd6 ct6), sl6⟩)
    (e6 : PySem.W.codeIn K cd6 "counted" = true)
    (k6 : PySem.W.keepIn K (.ref f6) = true)
    (a7 : PySem.W.nsIn K mainGlobals "is_peaked" = some (some (.ref f7)))
    (l7 : K.lookup f7 = some ⟨oc7, od7, .func (PySem.W.fnOf "is_peaked" "is_peaked" (defArgs s_is_peaked) (defBody s_is_peaked) (defScope s_is_peaked) .none kV7 dc7 pm7 an7 cd7 ct7), sl7⟩)
    (e7 : PySem.W.codeIn K cd7 "is_peaked" = true)
    (k7 : PySem.W.keepIn K (.ref f7) = true)
    (a8 : PySem.W.nsIn K mainGlobals "peaked" = some (some (.ref f8)))
    (l8 : K.lookup f8 = some ⟨oc8, od8, .func (PySem.W.fnOf "peaked" "peaked" (defArgs s_peaked) (defBody s_peaked) (defScope s_peaked) .none kV8 dc8 pm8 an8 cd8 ct8), sl8⟩)
    (e8 : PySem.W.codeIn K cd8 "peaked" = true)
    (k8 : PySem.W.keepIn K (.ref f8) = true)
    (a9 : PySem.W.nsIn K mainGlobals "middle" = some (some (.ref f9)))
    (l9 : K.lookup f9 = some ⟨oc9, od9, .func (PySem.W.fnOf "middle" "middle" (defArgs s_middle) (defBody s_middle) (defScope s_middle) .none kV9 dc9 pm9 an9 cd9 ct9), sl9⟩)
    (e9 : PySem.W.codeIn K cd9 "middle" = true)
    (k9 : PySem.W.keepIn K (.ref f9) = true)
    (a10 : PySem.W.nsIn K mainGlobals "_law_number" = some (some (.ref f10)))
    (l10 : K.lookup f10 = some ⟨oc10, od10, .func (PySem.W.fnOf "_law_number" "_law_number" (defArgs s_law_number) (defBody s_law_number) (defScope s_law_number) .none kV10 dc10 pm10 an10 cd10 ct10), sl10⟩)
    (e10 : PySem.W.codeIn K cd10 "_law_number" = true)
    (k10 : PySem.W.keepIn K (.ref f10) = true)
    (a11 : PySem.W.nsIn K mainGlobals "_law_ballots" = some (some (.ref f11)))
    (l11 : K.lookup f11 = some ⟨oc11, od11, .func (PySem.W.fnOf "_law_ballots" "_law_ballots" (defArgs s_law_ballots) (defBody s_law_ballots) (defScope s_law_ballots) .none kV11 dc11 pm11 an11 cd11 ct11), sl11⟩)
    (e11 : PySem.W.codeIn K cd11 "_law_ballots" = true)
    (k11 : PySem.W.keepIn K (.ref f11) = true)
    (a12 : PySem.W.nsIn K mainGlobals "_law_peaks" = some (some (.ref f12)))
    (l12 : K.lookup f12 = some ⟨oc12, od12, .func (PySem.W.fnOf "_law_peaks" "_law_peaks" (defArgs s_law_peaks) (defBody s_law_peaks) (defScope s_law_peaks) .none kV12 dc12 pm12 an12 cd12 ct12), sl12⟩)
    (e12 : PySem.W.codeIn K cd12 "_law_peaks" = true)
    (k12 : PySem.W.keepIn K (.ref f12) = true)
    (a13 : PySem.W.nsIn K mainGlobals "_law_peaked" = some (some (.ref f13)))
    (l13 : K.lookup f13 = some ⟨oc13, od13, .func (PySem.W.fnOf "_law_peaked" "_law_peaked" (defArgs s_law_peaked) (defBody s_law_peaked) (defScope s_law_peaked) .none kV13 dc13 pm13 an13 cd13 ct13), sl13⟩)
    (e13 : PySem.W.codeIn K cd13 "_law_peaked" = true)
    (k13 : PySem.W.keepIn K (.ref f13) = true)
    (a14 : PySem.W.nsIn K mainGlobals "_law_middle" = some (some (.ref f14)))
    (l14 : K.lookup f14 = some ⟨oc14, od14, .func (PySem.W.fnOf "_law_middle" "_law_middle" (defArgs s_law_middle) (defBody s_law_middle) (defScope s_law_middle) .none kV14 dc14 pm14 an14 cd14 ct14), sl14⟩)
    (e14 : PySem.W.codeIn K cd14 "_law_middle" = true)
    (k14 : PySem.W.keepIn K (.ref f14) = true)
    (a15 : PySem.W.nsIn K mainGlobals "_law_none" = some (some (.ref f15)))
    (l15 : K.lookup f15 = some ⟨oc15, od15, .func (PySem.W.fnOf "_law_none" "_law_none" (defArgs s_law_none) (defBody s_law_none) (defScope s_law_none) .none kV15 dc15 pm15 an15 cd15 ct15), sl15⟩)
    (e15 : PySem.W.codeIn K cd15 "_law_none" = true)
    (k15 : PySem.W.keepIn K (.ref f15) = true)
    (a16 : PySem.W.nsIn K mainGlobals "law" = some (some (.ref f16)))
    (l16 : K.lookup f16 = some ⟨oc16, od16, .func (PySem.W.fnOf "law" "law" (defArgs s_law) (defBody s_law) (defScope s_law) .none kV16 dc16 pm16 an16 cd16 ct16), sl16⟩)
    (e16 : PySem.W.codeIn K cd16 "law" = true)
    (k16 : PySem.W.keepIn K (.ref f16) = true)
    (a_MOST : PySem.W.nsIn K mainGlobals "MOST" = some (some (.int 20 t_MOST)))
    (z_all : PySem.W.nsIn K mainGlobals "all" = some none)
    (z_any : PySem.W.nsIn K mainGlobals "any" = some none)
    (z_bool : PySem.W.nsIn K mainGlobals "bool" = some none)
    (z_enumerate : PySem.W.nsIn K mainGlobals "enumerate" = some none)
    (z_int : PySem.W.nsIn K mainGlobals "int" = some none)
    (z_isinstance : PySem.W.nsIn K mainGlobals "isinstance" = some none)
    (z_len : PySem.W.nsIn K mainGlobals "len" = some none)
    (z_list : PySem.W.nsIn K mainGlobals "list" = some none)
    (z_max : PySem.W.nsIn K mainGlobals "max" = some none)
    (z_min : PySem.W.nsIn K mainGlobals "min" = some none)
    (z_range : PySem.W.nsIn K mainGlobals "range" = some none)
    (z_sorted : PySem.W.nsIn K mainGlobals "sorted" = some none)
    (z_sum : PySem.W.nsIn K mainGlobals "sum" = some none)
    (z_tuple : PySem.W.nsIn K mainGlobals "tuple" = some none)
    (q_CountError : PySem.W.nsIn K mainGlobals "CountError" = some (some (.ref c_CountError)))
    (xc_CountError : PySem.W.excIn K c_CountError upVE "ValueError.__new__" = true)
    (kp_CountError : PySem.W.keepIn K (.ref c_CountError) = true)
    (hd_CountError : PySem.W.hasDictIn K c_CountError = true)
    (sb_CountError : PySem.W.subIn K (.ref c_CountError) (.type "BaseException") = some true)
    (ty_CountError : PySem.W.typeIn K (.ref c_CountError) = some (.type "type"))
    (q_BadCandidates : PySem.W.nsIn K mainGlobals "BadCandidates" = some (some (.ref c_BadCandidates)))
    (xc_BadCandidates : PySem.W.excIn K c_BadCandidates upVE "ValueError.__new__" = true)
    (kp_BadCandidates : PySem.W.keepIn K (.ref c_BadCandidates) = true)
    (hd_BadCandidates : PySem.W.hasDictIn K c_BadCandidates = true)
    (sb_BadCandidates : PySem.W.subIn K (.ref c_BadCandidates) (.type "BaseException") = some true)
    (ty_BadCandidates : PySem.W.typeIn K (.ref c_BadCandidates) = some (.type "type"))
    (q_BadBallots : PySem.W.nsIn K mainGlobals "BadBallots" = some (some (.ref c_BadBallots)))
    (xc_BadBallots : PySem.W.excIn K c_BadBallots upVE "ValueError.__new__" = true)
    (kp_BadBallots : PySem.W.keepIn K (.ref c_BadBallots) = true)
    (hd_BadBallots : PySem.W.hasDictIn K c_BadBallots = true)
    (sb_BadBallots : PySem.W.subIn K (.ref c_BadBallots) (.type "BaseException") = some true)
    (ty_BadBallots : PySem.W.typeIn K (.ref c_BadBallots) = some (.type "type"))
    (q_BadTable : PySem.W.nsIn K mainGlobals "BadTable" = some (some (.ref c_BadTable)))
    (xc_BadTable : PySem.W.excIn K c_BadTable upVE "ValueError.__new__" = true)
    (kp_BadTable : PySem.W.keepIn K (.ref c_BadTable) = true)
    (hd_BadTable : PySem.W.hasDictIn K c_BadTable = true)
    (sb_BadTable : PySem.W.subIn K (.ref c_BadTable) (.type "BaseException") = some true)
    (ty_BadTable : PySem.W.typeIn K (.ref c_BadTable) = some (.type "type"))
    (q_NotPeaked : PySem.W.nsIn K mainGlobals "NotPeaked" = some (some (.ref c_NotPeaked)))
    (xc_NotPeaked : PySem.W.excIn K c_NotPeaked upVE "ValueError.__new__" = true)
    (kp_NotPeaked : PySem.W.keepIn K (.ref c_NotPeaked) = true)
    (hd_NotPeaked : PySem.W.hasDictIn K c_NotPeaked = true)
    (sb_NotPeaked : PySem.W.subIn K (.ref c_NotPeaked) (.type "BaseException") = some true)
    (ty_NotPeaked : PySem.W.typeIn K (.ref c_NotPeaked) = some (.type "type"))
    (qhn : PySem.W.specialIn K (.builtin "object.__class__") "__get__" = some (some (.builtin "getset_descriptor.__get__")))
    (qht : PySem.W.takesIn K (.builtin "object.__class__") = some true)
    (ga_NotPeaked : PySem.W.findIn K (.ref c_NotPeaked) "__getattribute__" = some (some (.builtin "BaseException.__getattribute__")))
    (gt_NotPeaked : PySem.W.findIn K (.ref c_NotPeaked) "__getattr__" = some none)
    (cl_NotPeaked : PySem.W.findIn K (.ref c_NotPeaked) "__class__" = some (some (.builtin "object.__class__")))
    (mo_NotPeaked : PySem.W.mroIn K c_NotPeaked (.type "object") = some true)
    (u_NotPeaked_CountError : PySem.W.subIn K (.ref c_NotPeaked) (.ref c_CountError) = some true)
    (k_NotPeaked_NotPeaked : PySem.W.kitOne K (.ref c_NotPeaked) (.ref c_NotPeaked) = some true)
    (k_NotPeaked_BadBallots : PySem.W.kitOne K (.ref c_NotPeaked) (.ref c_BadBallots) = some false)
    (k_NotPeaked_BadCandidates : PySem.W.kitOne K (.ref c_NotPeaked) (.ref c_BadCandidates) = some false)
    (k_NotPeaked_BadTable : PySem.W.kitOne K (.ref c_NotPeaked) (.ref c_BadTable) = some false) :
    ∃ T : Tx K mg, T.d_law = PySem.W.fnOf "law" "law" (defArgs s_law) (defBody s_law) (defScope s_law) .none kV16 dc16 pm16 an16 cd16 ct16 :=
  ⟨{ f_is_number := f1,
      d_is_number := _,
      F_is_number := fun_mk (st := s_is_number) l1 e1 k1,
      g_is_number := PySem.W.mg_of X G a1,
      f_asked_candidates := f2,
      d_asked_candidates := _,
      F_asked_candidates := fun_mk (st := s_asked_candidates) l2 e2 k2,
      g_asked_candidates := PySem.W.mg_of X G a2,
      f_are_ballots := f3,
      d_are_ballots := _,
      F_are_ballots := fun_mk (st := s_are_ballots) l3 e3 k3,
      g_are_ballots := PySem.W.mg_of X G a3,
      f_asked_ballots := f4,
      d_asked_ballots := _,
      F_asked_ballots := fun_mk (st := s_asked_ballots) l4 e4 k4,
      g_asked_ballots := PySem.W.mg_of X G a4,
      f_count_of := f5,
      d_count_of := _,
      F_count_of := fun_mk (st := s_count_of) l5 e5 k5,
      g_count_of := PySem.W.mg_of X G a5,
      f_counted := f6,
      d_counted := _,
      F_counted := fun_mk (st := s_counted) l6 e6 k6,
      g_counted := PySem.W.mg_of X G a6,
      f_is_peaked := f7,
      d_is_peaked := _,
      F_is_peaked := fun_mk (st := s_is_peaked) l7 e7 k7,
      g_is_peaked := PySem.W.mg_of X G a7,
      f_peaked := f8,
      d_peaked := _,
      F_peaked := fun_mk (st := s_peaked) l8 e8 k8,
      g_peaked := PySem.W.mg_of X G a8,
      f_middle := f9,
      d_middle := _,
      F_middle := fun_mk (st := s_middle) l9 e9 k9,
      g_middle := PySem.W.mg_of X G a9,
      f_law_number := f10,
      d_law_number := _,
      F_law_number := fun_mk (st := s_law_number) l10 e10 k10,
      g_law_number := PySem.W.mg_of X G a10,
      f_law_ballots := f11,
      d_law_ballots := _,
      F_law_ballots := fun_mk (st := s_law_ballots) l11 e11 k11,
      g_law_ballots := PySem.W.mg_of X G a11,
      f_law_peaks := f12,
      d_law_peaks := _,
      F_law_peaks := fun_mk (st := s_law_peaks) l12 e12 k12,
      g_law_peaks := PySem.W.mg_of X G a12,
      f_law_peaked := f13,
      d_law_peaked := _,
      F_law_peaked := fun_mk (st := s_law_peaked) l13 e13 k13,
      g_law_peaked := PySem.W.mg_of X G a13,
      f_law_middle := f14,
      d_law_middle := _,
      F_law_middle := fun_mk (st := s_law_middle) l14 e14 k14,
      g_law_middle := PySem.W.mg_of X G a14,
      f_law_none := f15,
      d_law_none := _,
      F_law_none := fun_mk (st := s_law_none) l15 e15 k15,
      g_law_none := PySem.W.mg_of X G a15,
      f_law := f16,
      d_law := _,
      F_law := fun_mk (st := s_law) l16 e16 k16,
      g_law := PySem.W.mg_of X G a16,
      g_MOST := ⟨t_MOST, PySem.W.mg_of X G a_MOST⟩,
      n_all := PySem.W.mg_none_of X G z_all,
      n_any := PySem.W.mg_none_of X G z_any,
      n_bool := PySem.W.mg_none_of X G z_bool,
      n_enumerate := PySem.W.mg_none_of X G z_enumerate,
      n_int := PySem.W.mg_none_of X G z_int,
      n_isinstance := PySem.W.mg_none_of X G z_isinstance,
      n_len := PySem.W.mg_none_of X G z_len,
      n_list := PySem.W.mg_none_of X G z_list,
      n_max := PySem.W.mg_none_of X G z_max,
      n_min := PySem.W.mg_none_of X G z_min,
      n_range := PySem.W.mg_none_of X G z_range,
      n_sorted := PySem.W.mg_none_of X G z_sorted,
      n_sum := PySem.W.mg_none_of X G z_sum,
      n_tuple := PySem.W.mg_none_of X G z_tuple,
      c_CountError := c_CountError,
      e_CountError := ⟨PySem.W.mg_of X G q_CountError, xc_CountError, kp_CountError, hd_CountError, sb_CountError, ty_CountError⟩,
      c_BadCandidates := c_BadCandidates,
      e_BadCandidates := ⟨PySem.W.mg_of X G q_BadCandidates, xc_BadCandidates, kp_BadCandidates, hd_BadCandidates, sb_BadCandidates, ty_BadCandidates⟩,
      c_BadBallots := c_BadBallots,
      e_BadBallots := ⟨PySem.W.mg_of X G q_BadBallots, xc_BadBallots, kp_BadBallots, hd_BadBallots, sb_BadBallots, ty_BadBallots⟩,
      c_BadTable := c_BadTable,
      e_BadTable := ⟨PySem.W.mg_of X G q_BadTable, xc_BadTable, kp_BadTable, hd_BadTable, sb_BadTable, ty_BadTable⟩,
      c_NotPeaked := c_NotPeaked,
      e_NotPeaked := ⟨PySem.W.mg_of X G q_NotPeaked, xc_NotPeaked, kp_NotPeaked, hd_NotPeaked, sb_NotPeaked, ty_NotPeaked⟩,
      x_NotPeaked := ⟨ga_NotPeaked, gt_NotPeaked, sb_NotPeaked, hd_NotPeaked, cl_NotPeaked, qhn, qht, mo_NotPeaked⟩,
      u_NotPeaked_CountError := u_NotPeaked_CountError,
      k_NotPeaked_NotPeaked := k_NotPeaked_NotPeaked,
      k_NotPeaked_BadBallots := k_NotPeaked_BadBallots,
      k_NotPeaked_BadCandidates := k_NotPeaked_BadCandidates,
      k_NotPeaked_BadTable := k_NotPeaked_BadTable }, rfl⟩
theorem law_of {l : PySem.W.OpenLaw} {w : World} {K : PySem.W.Frag} {mg : Str → Option Value} {fa : Addr} (hfa : mg "law" = some (.ref fa)) {kV dc pm cd ct : Value} {an : Option Addr} (hT : ∃ T : Tx K mg, T.d_law = PySem.W.fnOf "law" "law" (defArgs s_law) (defBody s_law) (defScope s_law) .none kV dc pm an cd ct) :
    ∃ fd : FuncData, (∀ (s : Shared) (v : Value), BindsTo s fd ⟨[v], []⟩ [("_law_script", v)]) ∧ ∀ base : Heap, K.In base → base.Ns mainGlobals mg → FnOk l.prog w K mg base CX0 6 fa fd ["_law_script"] (spLaw K) := by
  obtain ⟨T, e⟩ := hT
  have e2 := hfa.symm.trans T.g_law
  cases e2
  exact ⟨T.d_law, fun s v => by rw [e]; exact .of_eq rfl, fun base _ _ => ok_law T⟩
theorem all_of {l : PySem.W.OpenLaw} {w : World} {K : PySem.W.Frag} {h : Heap} {mg : Str → Option Value} {fa : Addr} (X : K.In h) (G : h.Ns mainGlobals mg) (hfa : mg "law" = some (.ref fa))
    {f1 : Addr} {od1 an1 : Option Addr} {sl1 : Array (Option Value)} {oc1 kV1 dc1 pm1 cd1 ct1 : Value} {f2 : Addr} {od2 an2 : Option Addr} {sl2 : Array (Option Value)} {oc2 kV2 dc2 pm2 cd2 ct2 : Value} {f3 : Addr} {od3 an3 : Option Addr} {sl3 : Array (Option Value)} {oc3 kV3 dc3 pm3 cd3 ct3 : Value} {f4 : Addr} {od4 an4 : Option Addr} {sl4 : Array (Option Value)} {oc4 kV4 dc4 pm4 cd4 ct4 : Value} {f5 : Addr} {od5 an5 : Option Addr} {sl5 : Array (Option Value)} {oc5 kV5 dc5 pm5 cd5 ct5 : Value} {f6 : Addr} {od6 an6 : Option Addr} {sl6 : Array (Option Value)} {oc6 kV6 dc6 pm6 cd6 ct6 : Value} {f7 : Addr} {od7 an7 : Option Addr} {sl7 : Array (Option Value)} {oc7 kV7 dc7 pm7 cd7 ct7 : Value} {f8 : Addr} {od8 an8 : Option Addr} {sl8 : Array (Option Value)} {oc8 kV8 dc8 pm8 cd8 ct8 : Value} {f9 : Addr} {od9 an9 : Option Addr} {sl9 : Array (Option Value)} {oc9 kV9 dc9 pm9 cd9 ct9 : Value} {f10 : Addr} {od10 an10 : Option Addr} {sl10 : Array (Option Value)} {oc10 kV10 dc10 pm10 cd10 ct10 : Value} {f11 : Addr} {od11 an11 : Option Addr} {sl11 : Array (Option Value)} {oc11 kV11 dc11 pm11 cd11 ct11 : Value} {f12 : Addr} {od12 an12 : Option Addr} {sl12 : Array (Option Value)} {oc12 kV12 dc12 pm12 cd12 ct12 : Value} {f13 : Addr} {od13 an13 : Option Addr} {sl13 : Array (Option Value)} {oc13 kV13 dc13 pm13 cd13 ct13 : Value} {f14 : Addr} {od14 an14 : Option Addr} {sl14 : Array (Option Value)} {oc14 kV14 dc14 pm14 cd14 ct14 : Value} {f15 : Addr} {od15 an15 : Option Addr} {sl15 : Array (Option Value)} {oc15 kV15 dc15 pm15 cd15 ct15 : Value} {f16 : Addr} {od16 an16 : Option Addr} {sl16 : Array (Option Value)} {oc16 kV16 dc16 pm16 cd16 ct16 : Value} {t_MOST : Nat} {c_CountError : Addr} {c_BadCandidates : Addr} {c_BadBallots : Addr} {c_BadTable : Addr} {c_NotPeaked : Addr}
    (a1 : PySem.W.nsIn K mainGlobals "is_number" = some (some (.ref f1)))
    (l1 : K.lookup f1 = some ⟨oc1, od1, .func (PySem.W.fnOf "is_number" "is_number" (defArgs s_is_number) (defBody s_is_number) (defScope s_is_number) .none kV1 dc1 pm1 an1 cd1 ct1), sl1⟩)
    (e1 : PySem.W.codeIn K cd1 "is_number" = true)
    (k1 : PySem.W.keepIn K (.ref f1) = true)
    (a2 : PySem.W.nsIn K mainGlobals "asked_candidates" = some (some (.ref f2)))
    (l2 : K.lookup f2 = some ⟨oc2, od2, .func (PySem.W.fnOf "asked_candidates" "asked_candidates" (defArgs s_asked_candidates) (defBody s_asked_candidates) (defScope s_asked_candidates) .none kV2 dc2 pm2 an2 cd2 ct2), sl2⟩)
    (e2 : PySem.W.codeIn K cd2 "asked_candidates" = true)
    (k2 : PySem.W.keepIn K (.ref f2) = true)
    (a3 : PySem.W.nsIn K mainGlobals "are_ballots" = some (some (.ref f3)))
    (l3 : K.lookup f3 = some ⟨oc3, od3, .func (PySem.W.fnOf "are_ballots" "are_ballots" (defArgs s_are_ballots) (defBody s_are_ballots) (defScope s_are_ballots) .none kV3 dc3 pm3 an3 cd3 ct3), sl3⟩)
    (e3 : PySem.W.codeIn K cd3 "are_ballots" = true)
    (k3 : PySem.W.keepIn K (.ref f3) = true)
    (a4 : PySem.W.nsIn K mainGlobals "asked_ballots" = some (some (.ref f4)))
    (l4 : K.lookup f4 = some ⟨oc4, od4, .func (PySem.W.fnOf "asked_ballots" "asked_ballots" (defArgs s_asked_ballots) (defBody s_asked_ballots) (defScope s_asked_ballots) .none kV4 dc4 pm4 an4 cd4 ct4), sl4⟩)
    (e4 : PySem.W.codeIn K cd4 "asked_ballots" = true)
    (k4 : PySem.W.keepIn K (.ref f4) = true)
    (a5 : PySem.W.nsIn K mainGlobals "count_of" = some (some (.ref f5)))
    (l5 : K.lookup f5 = some ⟨oc5, od5, .func (PySem.W.fnOf "count_of" "count_of" (defArgs s_count_of) (defBody s_count_of) (defScope s_count_of) .none kV5 dc5 pm5 an5 cd5 ct5), sl5⟩)
    (e5 : PySem.W.codeIn K cd5 "count_of" = true)
    (k5 : PySem.W.keepIn K (.ref f5) = true)
    (a6 : PySem.W.nsIn K mainGlobals "counted" = some (some (.ref f6)))
    (l6 : K.lookup f6 = some ⟨oc6, od6, .func (PySem.W.fnOf "counted" "counted" (defArgs s_counted) (defBody s_counted) (defScope s_counted) .none kV6 dc6 pm6 an6 cd6 ct6), sl6⟩)
    (e6 : PySem.W.codeIn K cd6 "counted" = true)
    (k6 : PySem.W.keepIn K (.ref f6) = true)
    (a7 : PySem.W.nsIn K mainGlobals "is_peaked" = some (some (.ref f7)))
    (l7 : K.lookup f7 = some ⟨oc7, od7, .func (PySem.W.fnOf "is_peaked" "is_peaked" (defArgs s_is_peaked) (defBody s_is_peaked) (defScope s_is_peaked) .none kV7 dc7 pm7 an7 cd7 ct7), sl7⟩)
    (e7 : PySem.W.codeIn K cd7 "is_peaked" = true)
    (k7 : PySem.W.keepIn K (.ref f7) = true)
    (a8 : PySem.W.nsIn K mainGlobals "peaked" = some (some (.ref f8)))
    (l8 : K.lookup f8 = some ⟨oc8, od8, .func (PySem.W.fnOf "peaked" "peaked" (defArgs s_peaked) (defBody s_peaked) (defScope s_peaked) .none kV8 dc8 pm8 an8 cd8 ct8), sl8⟩)
    (e8 : PySem.W.codeIn K cd8 "peaked" = true)
    (k8 : PySem.W.keepIn K (.ref f8) = true)
    (a9 : PySem.W.nsIn K mainGlobals "middle" = some (some (.ref f9)))
    (l9 : K.lookup f9 = some ⟨oc9, od9, .func (PySem.W.fnOf "middle" "middle" (defArgs s_middle) (defBody s_middle) (defScope s_middle) .none kV9 dc9 pm9 an9 cd9 ct9), sl9⟩)
    (e9 : PySem.W.codeIn K cd9 "middle" = true)
    (k9 : PySem.W.keepIn K (.ref f9) = true)
    (a10 : PySem.W.nsIn K mainGlobals "_law_number" = some (some (.ref f10)))
    (l10 : K.lookup f10 = some ⟨oc10, od10, .func (PySem.W.fnOf "_law_number" "_law_number" (defArgs s_law_number) (defBody s_law_number) (defScope s_law_number) .none kV10 dc10 pm10 an10 cd10 ct10), sl10⟩)
    (e10 : PySem.W.codeIn K cd10 "_law_number" = true)
    (k10 : PySem.W.keepIn K (.ref f10) = true)
    (a11 : PySem.W.nsIn K mainGlobals "_law_ballots" = some (some (.ref f11)))
    (l11 : K.lookup f11 = some ⟨oc11, od11, .func (PySem.W.fnOf "_law_ballots" "_law_ballots" (defArgs s_law_ballots) (defBody s_law_ballots) (defScope s_law_ballots) .none kV11 dc11 pm11 an11 cd11 ct11), sl11⟩)
    (e11 : PySem.W.codeIn K cd11 "_law_ballots" = true)
    (k11 : PySem.W.keepIn K (.ref f11) = true)
    (a12 : PySem.W.nsIn K mainGlobals "_law_peaks" = some (some (.ref f12)))
    (l12 : K.lookup f12 = some ⟨oc12, od12, .func (PySem.W.fnOf "_law_peaks" "_law_peaks" (defArgs s_law_peaks) (defBody s_law_peaks) (defScope s_law_peaks) .none kV12 dc12 pm12 an12 cd12 ct12), sl12⟩)
    (e12 : PySem.W.codeIn K cd12 "_law_peaks" = true)
    (k12 : PySem.W.keepIn K (.ref f12) = true)
    (a13 : PySem.W.nsIn K mainGlobals "_law_peaked" = some (some (.ref f13)))
    (l13 : K.lookup f13 = some ⟨oc13, od13, .func (PySem.W.fnOf "_law_peaked" "_law_peaked" (defArgs s_law_peaked) (defBody s_law_peaked) (defScope s_law_peaked) .none kV13 dc13 pm13 an13 cd13 ct13), sl13⟩)
    (e13 : PySem.W.codeIn K cd13 "_law_peaked" = true)
    (k13 : PySem.W.keepIn K (.ref f13) = true)
    (a14 : PySem.W.nsIn K mainGlobals "_law_middle" = some (some (.ref f14)))
    (l14 : K.lookup f14 = some ⟨oc14, od14, .func (PySem.W.fnOf "_law_middle" "_law_middle" (defArgs s_law_middle) (defBody s_law_middle) (defScope s_law_middle) .none kV14 dc14 pm14 an14 cd14 ct14), sl14⟩)
    (e14 : PySem.W.codeIn K cd14 "_law_middle" = true)
    (k14 : PySem.W.keepIn K (.ref f14) = true)
    (a15 : PySem.W.nsIn K mainGlobals "_law_none" = some (some (.ref f15)))
    (l15 : K.lookup f15 = some ⟨oc15, od15, .func (PySem.W.fnOf "_law_none" "_law_none" (defArgs s_law_none) (defBody s_law_none) (defScope s_law_none) .none kV15 dc15 pm15 an15 cd15 ct15), sl15⟩)
    (e15 : PySem.W.codeIn K cd15 "_law_none" = true)
    (k15 : PySem.W.keepIn K (.ref f15) = true)
    (a16 : PySem.W.nsIn K mainGlobals "law" = some (some (.ref f16)))
    (l16 : K.lookup f16 = some ⟨oc16, od16, .func (PySem.W.fnOf "law" "law" (defArgs s_law) (defBody s_law) (defScope s_law) .none kV16 dc16 pm16 an16 cd16 ct16), sl16⟩)
    (e16 : PySem.W.codeIn K cd16 "law" = true)
    (k16 : PySem.W.keepIn K (.ref f16) = true)
    (a_MOST : PySem.W.nsIn K mainGlobals "MOST" = some (some (.int 20 t_MOST)))
    (z_all : PySem.W.nsIn K mainGlobals "all" = some none)
    (z_any : PySem.W.nsIn K mainGlobals "any" = some none)
    (z_bool : PySem.W.nsIn K mainGlobals "bool" = some none)
    (z_enumerate : PySem.W.nsIn K mainGlobals "enumerate" = some none)
    (z_int : PySem.W.nsIn K mainGlobals "int" = some none)
    (z_isinstance : PySem.W.nsIn K mainGlobals "isinstance" = some none)
    (z_len : PySem.W.nsIn K mainGlobals "len" = some none)
    (z_list : PySem.W.nsIn K mainGlobals "list" = some none)
    (z_max : PySem.W.nsIn K mainGlobals "max" = some none)
    (z_min : PySem.W.nsIn K mainGlobals "min" = some none)
    (z_range : PySem.W.nsIn K mainGlobals "range" = some none)
    (z_sorted : PySem.W.nsIn K mainGlobals "sorted" = some none)
    (z_sum : PySem.W.nsIn K mainGlobals "sum" = some none)
    (z_tuple : PySem.W.nsIn K mainGlobals "tuple" = some none)
    (q_CountError : PySem.W.nsIn K mainGlobals "CountError" = some (some (.ref c_CountError)))
    (xc_CountError : PySem.W.excIn K c_CountError upVE "ValueError.__new__" = true)
    (kp_CountError : PySem.W.keepIn K (.ref c_CountError) = true)
    (hd_CountError : PySem.W.hasDictIn K c_CountError = true)
    (sb_CountError : PySem.W.subIn K (.ref c_CountError) (.type "BaseException") = some true)
    (ty_CountError : PySem.W.typeIn K (.ref c_CountError) = some (.type "type"))
    (q_BadCandidates : PySem.W.nsIn K mainGlobals "BadCandidates" = some (some (.ref c_BadCandidates)))
    (xc_BadCandidates : PySem.W.excIn K c_BadCandidates upVE "ValueError.__new__" = true)
    (kp_BadCandidates : PySem.W.keepIn K (.ref c_BadCandidates) = true)
    (hd_BadCandidates : PySem.W.hasDictIn K c_BadCandidates = true)
    (sb_BadCandidates : PySem.W.subIn K (.ref c_BadCandidates) (.type "BaseException") = some true)
    (ty_BadCandidates : PySem.W.typeIn K (.ref c_BadCandidates) = some (.type "type"))
    (q_BadBallots : PySem.W.nsIn K mainGlobals "BadBallots" = some (some (.ref c_BadBallots)))
    (xc_BadBallots : PySem.W.excIn K c_BadBallots upVE "ValueError.__new__" = true)
    (kp_BadBallots : PySem.W.keepIn K (.ref c_BadBallots) = true)
    (hd_BadBallots : PySem.W.hasDictIn K c_BadBallots = true)
    (sb_BadBallots : PySem.W.subIn K (.ref c_BadBallots) (.type "BaseException") = some true)
    (ty_BadBallots : PySem.W.typeIn K (.ref c_BadBallots) = some (.type "type"))
    (q_BadTable : PySem.W.nsIn K mainGlobals "BadTable" = some (some (.ref c_BadTable)))
    (xc_BadTable : PySem.W.excIn K c_BadTable upVE "ValueError.__new__" = true)
    (kp_BadTable : PySem.W.keepIn K (.ref c_BadTable) = true)
    (hd_BadTable : PySem.W.hasDictIn K c_BadTable = true)
    (sb_BadTable : PySem.W.subIn K (.ref c_BadTable) (.type "BaseException") = some true)
    (ty_BadTable : PySem.W.typeIn K (.ref c_BadTable) = some (.type "type"))
    (q_NotPeaked : PySem.W.nsIn K mainGlobals "NotPeaked" = some (some (.ref c_NotPeaked)))
    (xc_NotPeaked : PySem.W.excIn K c_NotPeaked upVE "ValueError.__new__" = true)
    (kp_NotPeaked : PySem.W.keepIn K (.ref c_NotPeaked) = true)
    (hd_NotPeaked : PySem.W.hasDictIn K c_NotPeaked = true)
    (sb_NotPeaked : PySem.W.subIn K (.ref c_NotPeaked) (.type "BaseException") = some true)
    (ty_NotPeaked : PySem.W.typeIn K (.ref c_NotPeaked) = some (.type "type"))
    (qhn : PySem.W.specialIn K (.builtin "object.__class__") "__get__" = some (some (.builtin "getset_descriptor.__get__")))
    (qht : PySem.W.takesIn K (.builtin "object.__class__") = some true)
    (ga_NotPeaked : PySem.W.findIn K (.ref c_NotPeaked) "__getattribute__" = some (some (.builtin "BaseException.__getattribute__")))
    (gt_NotPeaked : PySem.W.findIn K (.ref c_NotPeaked) "__getattr__" = some none)
    (cl_NotPeaked : PySem.W.findIn K (.ref c_NotPeaked) "__class__" = some (some (.builtin "object.__class__")))
    (mo_NotPeaked : PySem.W.mroIn K c_NotPeaked (.type "object") = some true)
    (u_NotPeaked_CountError : PySem.W.subIn K (.ref c_NotPeaked) (.ref c_CountError) = some true)
    (k_NotPeaked_NotPeaked : PySem.W.kitOne K (.ref c_NotPeaked) (.ref c_NotPeaked) = some true)
    (k_NotPeaked_BadBallots : PySem.W.kitOne K (.ref c_NotPeaked) (.ref c_BadBallots) = some false)
    (k_NotPeaked_BadCandidates : PySem.W.kitOne K (.ref c_NotPeaked) (.ref c_BadCandidates) = some false)
    (k_NotPeaked_BadTable : PySem.W.kitOne K (.ref c_NotPeaked) (.ref c_BadTable) = some false) :
    ∃ fd : FuncData, (∀ (s : Shared) (v : Value), BindsTo s fd ⟨[v], []⟩ [("_law_script", v)]) ∧ ∀ base : Heap, K.In base → base.Ns mainGlobals mg → FnOk l.prog w K mg base CX0 6 fa fd ["_law_script"] (spLaw K) :=
  law_of hfa (tx_of X G a1 l1 e1 k1 a2 l2 e2 k2 a3 l3 e3 k3 a4 l4 e4 k4 a5 l5 e5 k5 a6 l6 e6 k6 a7 l7 e7 k7 a8 l8 e8 k8 a9 l9 e9 k9 a10 l10 e10 k10 a11 l11 e11 k11 a12 l12 e12 k12 a13 l13 e13 k13 a14 l14 e14 k14 a15 l15 e15 k15 a16 l16 e16 k16 a_MOST z_all z_any z_bool z_enumerate z_int z_isinstance z_len z_list z_max z_min z_range z_sorted z_sum z_tuple q_CountError xc_CountError kp_CountError hd_CountError sb_CountError ty_CountError q_BadCandidates xc_BadCandidates kp_BadCandidates hd_BadCandidates sb_BadCandidates ty_BadCandidates q_BadBallots xc_BadBallots kp_BadBallots hd_BadBallots sb_BadBallots ty_BadBallots q_BadTable xc_BadTable kp_BadTable hd_BadTable sb_BadTable ty_BadTable q_NotPeaked xc_NotPeaked kp_NotPeaked hd_NotPeaked sb_NotPeaked ty_NotPeaked qhn qht ga_NotPeaked gt_NotPeaked cl_NotPeaked mo_NotPeaked u_NotPeaked_CountError k_NotPeaked_NotPeaked k_NotPeaked_BadBallots k_NotPeaked_BadCandidates k_NotPeaked_BadTable)
end Hc
open PySem PySem.W PyProof.Rows
set_option maxHeartbeats 0 in
theorem PySem.Challenge.cw_headcounts_k05_whole_peaks_holds : PySem.Challenge.rw_headcounts_k05_whole_peaks.Holds := by
  w_on; o_law; k_head; (case hw => w_witness2)
  k_fill
  refine L2.walk_ofB (l := PySem.Challenge.rw_headcounts_k05_whole_peaks) (n := 63) (k := 6) (x := "_law_script") (CX := fun _ => L2.CX0) (sp := fun w => Hc.spLaw _) rfl (by decide) rfl ⟨rfl, by decide, by decide⟩ (fun w h Y => PySem.W.kIn_of Y) ?F (fun _ _ a ns hl hb _ hS => ⟨a, ns, 1048576, rfl, hS, hl, fun z hz => Hc.big_of_bits (hb z hz), by decide, fun _ => rfl⟩) (fun _ _ _ _ _ h => h)
  case F =>
    intro w mg fa h KX G hmg
    refine' Hc.all_of KX G hmg ?a1 ?l1 ?e1 ?k1 ?a2 ?l2 ?e2 ?k2 ?a3 ?l3 ?e3 ?k3 ?a4 ?l4 ?e4 ?k4 ?a5 ?l5 ?e5 ?k5 ?a6 ?l6 ?e6 ?k6 ?a7 ?l7 ?e7 ?k7 ?a8 ?l8 ?e8 ?k8 ?a9 ?l9 ?e9 ?k9 ?a10 ?l10 ?e10 ?k10 ?a11 ?l11 ?e11 ?k11 ?a12 ?l12 ?e12 ?k12 ?a13 ?l13 ?e13 ?k13 ?a14 ?l14 ?e14 ?k14 ?a15 ?l15 ?e15 ?k15 ?a16 ?l16 ?e16 ?k16 ?a_MOST ?z_all ?z_any ?z_bool ?z_enumerate ?z_int ?z_isinstance ?z_len ?z_list ?z_max ?z_min ?z_range ?z_sorted ?z_sum ?z_tuple ?q_CountError ?xc_CountError ?kp_CountError ?hd_CountError ?sb_CountError ?ty_CountError ?q_BadCandidates ?xc_BadCandidates ?kp_BadCandidates ?hd_BadCandidates ?sb_BadCandidates ?ty_BadCandidates ?q_BadBallots ?xc_BadBallots ?kp_BadBallots ?hd_BadBallots ?sb_BadBallots ?ty_BadBallots ?q_BadTable ?xc_BadTable ?kp_BadTable ?hd_BadTable ?sb_BadTable ?ty_BadTable ?q_NotPeaked ?xc_NotPeaked ?kp_NotPeaked ?hd_NotPeaked ?sb_NotPeaked ?ty_NotPeaked ?qhn ?qht ?ga_NotPeaked ?gt_NotPeaked ?cl_NotPeaked ?mo_NotPeaked ?u_NotPeaked_CountError ?k_NotPeaked_NotPeaked ?k_NotPeaked_BadBallots ?k_NotPeaked_BadCandidates ?k_NotPeaked_BadTable
    (case a1 => k_is); (case l1 => k_is); (case e1 => k_is); (case k1 => k_is); (case a2 => k_is); (case l2 => k_is); (case e2 => k_is); (case k2 => k_is); (case a3 => k_is); (case l3 => k_is); (case e3 => k_is); (case k3 => k_is); (case a4 => k_is); (case l4 => k_is); (case e4 => k_is); (case k4 => k_is); (case a5 => k_is); (case l5 => k_is); (case e5 => k_is); (case k5 => k_is); (case a6 => k_is); (case l6 => k_is); (case e6 => k_is); (case k6 => k_is); (case a7 => k_is); (case l7 => k_is); (case e7 => k_is); (case k7 => k_is); (case a8 => k_is); (case l8 => k_is); (case e8 => k_is); (case k8 => k_is); (case a9 => k_is); (case l9 => k_is); (case e9 => k_is); (case k9 => k_is); (case a10 => k_is); (case l10 => k_is); (case e10 => k_is); (case k10 => k_is); (case a11 => k_is); (case l11 => k_is); (case e11 => k_is); (case k11 => k_is); (case a12 => k_is); (case l12 => k_is); (case e12 => k_is); (case k12 => k_is); (case a13 => k_is); (case l13 => k_is); (case e13 => k_is); (case k13 => k_is); (case a14 => k_is); (case l14 => k_is); (case e14 => k_is); (case k14 => k_is); (case a15 => k_is); (case l15 => k_is); (case e15 => k_is); (case k15 => k_is); (case a16 => k_is); (case l16 => k_is); (case e16 => k_is); (case k16 => k_is); (case a_MOST => k_is); (case z_all => k_is); (case z_any => k_is); (case z_bool => k_is); (case z_enumerate => k_is); (case z_int => k_is); (case z_isinstance => k_is); (case z_len => k_is); (case z_list => k_is); (case z_max => k_is); (case z_min => k_is); (case z_range => k_is); (case z_sorted => k_is); (case z_sum => k_is); (case z_tuple => k_is); (case q_CountError => k_is); (case xc_CountError => k_exc); (case kp_CountError => k_is); (case hd_CountError => k_is); (case sb_CountError => k_is); (case ty_CountError => k_is); (case q_BadCandidates => k_is); (case xc_BadCandidates => k_exc); (case kp_BadCandidates => k_is); (case hd_BadCandidates => k_is); (case sb_BadCandidates => k_is); (case ty_BadCandidates => k_is); (case q_BadBallots => k_is); (case xc_BadBallots => k_exc); (case kp_BadBallots => k_is); (case hd_BadBallots => k_is); (case sb_BadBallots => k_is); (case ty_BadBallots => k_is); (case q_BadTable => k_is); (case xc_BadTable => k_exc); (case kp_BadTable => k_is); (case hd_BadTable => k_is); (case sb_BadTable => k_is); (case ty_BadTable => k_is); (case q_NotPeaked => k_is); (case xc_NotPeaked => k_exc); (case kp_NotPeaked => k_is); (case hd_NotPeaked => k_is); (case sb_NotPeaked => k_is); (case ty_NotPeaked => k_is); (case qhn => k_is); (case qht => k_is); (case ga_NotPeaked => k_is); (case gt_NotPeaked => k_is); (case cl_NotPeaked => k_is); (case mo_NotPeaked => k_is); (case u_NotPeaked_CountError => k_is); (case k_NotPeaked_NotPeaked => kit_is); (case k_NotPeaked_BadBallots => kit_is); (case k_NotPeaked_BadCandidates => kit_is); (case k_NotPeaked_BadTable => kit_is)
