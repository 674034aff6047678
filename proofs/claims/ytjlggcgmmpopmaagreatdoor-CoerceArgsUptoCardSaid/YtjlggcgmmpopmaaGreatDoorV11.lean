import Derived.Test.YtjlggcgmmpopmaaGreatDoorV10
import Derived.Test.YtjlggcgmmpopmaaGreatDoorRows
set_option maxRecDepth 100000
set_option maxHeartbeats 2000000
set_option linter.unusedVariables false
set_option linter.unusedSimpArgs false
namespace Go.Proofs
open Go Go.Ab
theorem Z40_loop (a : TRef) (ha : a.FWraps.l.length ≤ 1048576) (l : List Int) (i : Nat) (h : i + l.length = a.FWraps.l.length) : Ok (Z40_q10 a l i) := by
 induction l generalizing i with
 | nil => exact Tot.some _
 | cons x r ih =>
  simp only [List.length_cons] at h
  have hr := ih (i + 1) (by omega)
  rw [Z40_q10]
  simp only [on]
  refine Tot.cond (fun _ => Tot.some _) fun _ => ?_
  by_cases hi : 0 < i
  ·have h1 : decide ((0 : Int) < ((i : Nat) : Int)) = true := by simpa using hi
   obtain ⟨v, hv⟩ := idxC_ok (l := a.FWraps.l) (n := (i : Int) - 1) (by omega)
   simp only [h1, cond_true, Bool.true_and, subC_ok (a := (i : Int)) (b := 1) (by omega)]
   cases decide (x = 1) <;> simp only [guardO, hv, if_true, Option.bind_some, Bool.false_eq_true, if_false, Bool.false_and, cond_false]
   ·exact hr
   ·(repeat' (first | exact Tot.some _ | assumption | (with_reducible refine Tot.bind ?_ fun _ _ => ?_) | (with_reducible refine Tot.guard (fun _ => ?_) fun _ _ _ => ?_) | (with_reducible refine Tot.cond (fun _ => ?_) fun _ => ?_) | (with_reducible refine Tot.on fun _ _ => ?_) | split))
  ·have h1 : decide ((0 : Int) < ((i : Nat) : Int)) = false := by simpa using hi
   simp only [h1, Bool.false_and, guardO, Bool.false_eq_true, if_false, cond_false]
   exact hr
theorem Z40_ok (a : TRef) (ha : a.FWraps.l.length ≤ 1048576) : Ok (Z40_q a) := by
 unfold Z40_q
 (repeat' (first | exact Tot.some _ | assumption | (with_reducible refine Tot.bind ?_ fun _ _ => ?_) | (with_reducible refine Tot.guard (fun _ => ?_) fun _ _ _ => ?_) | (with_reducible refine Tot.cond (fun _ => ?_) fun _ => ?_) | (with_reducible refine Tot.on fun _ _ => ?_) | split))
 exact Z40_loop a ha _ _ (by simp)
theorem Z29_loop (k : TValue → Option Int) (l : List TValue) (s : Int) (hk : ∀ x ∈ l, ∃ r, k x = some r ∧ 1 ≤ r ∧ r ≤ x.sz) (hs : 0 ≤ s) (hb : s + ((l.map TValue.sz).sum : Nat) ≤ 1152921504606846976) : ∃ r, Z29_q7 k l s = some r ∧ s ≤ r ∧ r ≤ s + ((l.map TValue.sz).sum : Nat) := by
 induction l generalizing s with
 | nil => exact ⟨s, rfl, by simp, by simp⟩
 | cons x r ih =>
  obtain ⟨v, h1, h2, h3⟩ := hk x List.mem_cons_self
  simp only [List.map_cons, List.sum_cons] at hb ⊢
  rw [Z29_q7]
  simp only [on, h1, Option.bind_some]
  rw [addC_ok (by omega)]
  simp only [Option.bind_some]
  obtain ⟨w, h4, h5, h6⟩ := ih (s + v) (fun y hy => hk y (List.mem_cons_of_mem _ hy)) (by omega) (by omega)
  exact ⟨w, h4, by omega, by omega⟩
theorem TValue.item_lt {v x : TValue} (h : x ∈ v.FItems.l) : x.sz < v.sz := by
 have h1 := v.sz_def; have h2 := Sl.mem_le (f := TValue.sz) h; omega
theorem TValue.items_sum (v : TValue) : 2 + (v.FItems.l.map TValue.sz).sum ≤ v.sz := by
 have h1 := v.sz_def; have h2 : Sl.sz TValue.sz v.FItems = 1 + (v.FItems.l.map TValue.sz).sum := rfl; omega
theorem Z29_tot (n : Nat) : ∀ v : TValue, v.sz < n → v.sz ≤ 1073741824 → ∃ r, Z29_qn n v = some r ∧ 1 ≤ r ∧ r ≤ v.sz := by
 induction n with
 | zero => intro v h; omega
 | succ n ih =>
  intro v h hb
  have h0 := v.items_sum
  obtain ⟨w, h4, h5, h6⟩ := Z29_loop (Z29_qn n) v.FItems.l 1 (fun x hx => by have := TValue.item_lt hx; exact ih x (by omega) (by omega)) (by omega) (by omega)
  rw [Z29_qn, h4]
  exact ⟨w, rfl, by omega, by omega⟩
theorem Z29_ok (v : TValue) (h : v.sz ≤ 1048576) : ∃ r, Z29_q v = some r ∧ 1 ≤ r ∧ r ≤ v.sz := Z29_tot F0 v (by rw [F0_eq]; omega) (by omega)
theorem Z25_loop (k : TValue → Option Int) (l : List TValue) (s b : Int) (hk : ∀ x ∈ l, ∃ r, k x = some r ∧ 1 ≤ r ∧ r ≤ b) (hs : 0 ≤ s ∧ s ≤ b) : ∃ r, Z25_q8 k l s = some r ∧ 0 ≤ r ∧ r ≤ b := by
 induction l generalizing s with
 | nil => exact ⟨s, rfl, by omega, by omega⟩
 | cons x r ih =>
  obtain ⟨v, h1, h2, h3⟩ := hk x List.mem_cons_self
  rw [Z25_q8]
  simp only [on, h1, Option.bind_some]
  exact ih _ (fun y hy => hk y (List.mem_cons_of_mem _ hy)) (by split <;> omega)
theorem Z25_tot (n : Nat) : ∀ v : TValue, v.sz < n → v.sz ≤ 1073741824 → ∃ r, Z25_qn n v = some r ∧ 1 ≤ r ∧ r ≤ v.sz := by
 induction n with
 | zero => intro v h; omega
 | succ n ih =>
  intro v h hb
  have h0 := v.items_sum
  obtain ⟨w, h4, h5, h6⟩ := Z25_loop (Z25_qn n) v.FItems.l 0 (v.sz - 1 : Nat) (fun x hx => by have := TValue.item_lt hx; obtain ⟨r, h7, h8, h9⟩ := ih x (by omega) (by omega); exact ⟨r, h7, h8, by omega⟩) (by omega)
  rw [Z25_qn, h4]
  simp only [on, Option.bind_some]
  rw [addC_ok (by omega)]
  exact ⟨w + 1, rfl, by omega, by omega⟩
theorem Z25_ok (v : TValue) (h : v.sz ≤ 1048576) : Ok (Z25_q v) := by
 obtain ⟨r, hr, _⟩ := Z25_tot F0 v (by rw [F0_eq]; omega) (by omega); exact ⟨r, hr⟩
theorem Z32_in (a : Sl Bs) (x : Bs) (m i : Nat) (h : i + m ≤ a.l.length) : Ok (Z32_q13 a x m i) := by
 induction m generalizing i with
 | zero => exact Tot.some _
 | succ m ih =>
  rw [Z32_q13]
  (repeat' (first | exact Tot.some _ | assumption | (with_reducible refine Tot.bind ?_ fun _ _ => ?_) | (with_reducible refine Tot.guard (fun _ => ?_) fun _ _ _ => ?_) | (with_reducible refine Tot.cond (fun _ => ?_) fun _ => ?_) | (with_reducible refine Tot.on fun _ _ => ?_) | split))
  ·exact get_ok (by omega)
  ·exact ih _ (by omega)
theorem Z32_out (a : Sl Bs) (l : List Bs) (i : Nat) (h : i + l.length = a.l.length) : Ok (Z32_q5 a l i) := by
 induction l generalizing i with
 | nil => exact Tot.some _
 | cons x r ih =>
  simp only [List.length_cons] at h
  rw [Z32_q5]
  (repeat' (first | exact Tot.some _ | assumption | (with_reducible refine Tot.bind ?_ fun _ _ => ?_) | (with_reducible refine Tot.guard (fun _ => ?_) fun _ _ _ => ?_) | (with_reducible refine Tot.cond (fun _ => ?_) fun _ => ?_) | (with_reducible refine Tot.on fun _ _ => ?_) | split))
  ·exact Z32_in a x _ _ (by omega)
  ·exact ih _ (by omega)
theorem Z32_ok (a : Sl Bs) : Ok (Z32_q a) := by
 unfold Z32_q
 (repeat' (first | exact Tot.some _ | assumption | (with_reducible refine Tot.bind ?_ fun _ _ => ?_) | (with_reducible refine Tot.guard (fun _ => ?_) fun _ _ _ => ?_) | (with_reducible refine Tot.cond (fun _ => ?_) fun _ => ?_) | (with_reducible refine Tot.on fun _ _ => ?_) | split))
 exact Z32_out a _ _ (by simp)
theorem Z31_ok (v : TValue) (b : Bool) : Ok (Z31_q v b) := by
 unfold Z31_q
 (repeat' (first | exact Tot.some _ | assumption | (with_reducible refine Tot.bind ?_ fun _ _ => ?_) | (with_reducible refine Tot.guard (fun _ => ?_) fun _ _ _ => ?_) | (with_reducible refine Tot.cond (fun _ => ?_) fun _ => ?_) | (with_reducible refine Tot.on fun _ _ => ?_) | split))
 exact Z32_ok _
theorem Z33_loop (b : Bool) (k : TValue → Bool → Option Bool) (l : List TValue) (hk : ∀ x ∈ l, Ok (k x b)) : Ok (Z33_q11 b k l) := by
 induction l with
 | nil => exact Tot.some _
 | cons x r ih =>
  rw [Z33_q11]
  (repeat' (first | exact Tot.some _ | assumption | (with_reducible refine Tot.bind ?_ fun _ _ => ?_) | (with_reducible refine Tot.guard (fun _ => ?_) fun _ _ _ => ?_) | (with_reducible refine Tot.cond (fun _ => ?_) fun _ => ?_) | (with_reducible refine Tot.on fun _ _ => ?_) | split))
  ·rename_i h; rw [h]; exact hk x List.mem_cons_self
  ·exact ih fun y hy => hk y (List.mem_cons_of_mem _ hy)
theorem Z33_tot (n : Nat) : ∀ (v : TValue) (b : Bool), v.sz < n → Ok (Z33_qn n v b) := by
 induction n with
 | zero => intro v b h; omega
 | succ n ih =>
  intro v b h
  rw [Z33_qn]
  (repeat' (first | exact Tot.some _ | assumption | (with_reducible refine Tot.bind ?_ fun _ _ => ?_) | (with_reducible refine Tot.guard (fun _ => ?_) fun _ _ _ => ?_) | (with_reducible refine Tot.cond (fun _ => ?_) fun _ => ?_) | (with_reducible refine Tot.on fun _ _ => ?_) | split))
  ·exact Z31_ok _ _
  ·exact Z33_loop b _ _ fun x hx => ih x b (by have := TValue.item_lt hx; omega)
theorem Z27_ok (v : TValue) (h : v.sz ≤ 1048576) : Ok (Z27_q v) := by
 unfold Z27_q
 obtain ⟨r, hr, _⟩ := Z29_ok v h
 (repeat' (first | exact Tot.some _ | assumption | (with_reducible refine Tot.bind ?_ fun _ _ => ?_) | (with_reducible refine Tot.guard (fun _ => ?_) fun _ _ _ => ?_) | (with_reducible refine Tot.cond (fun _ => ?_) fun _ => ?_) | (with_reducible refine Tot.on fun _ _ => ?_) | split))
 ·exact ⟨r, hr⟩
 ·exact Z25_ok v h
 ·exact Z33_tot F0 v true (by rw [F0_eq]; omega)
theorem Z44_loop (k : TValue → Option Bool) (l : List TValue) (hk : ∀ x ∈ l, Ok (k x)) : Ok (Z44_q5 k l) := by
 induction l with
 | nil => exact Tot.some _
 | cons x r ih =>
  rw [Z44_q5]
  (repeat' (first | exact Tot.some _ | assumption | (with_reducible refine Tot.bind ?_ fun _ _ => ?_) | (with_reducible refine Tot.guard (fun _ => ?_) fun _ _ _ => ?_) | (with_reducible refine Tot.cond (fun _ => ?_) fun _ => ?_) | (with_reducible refine Tot.on fun _ _ => ?_) | split))
  ·rename_i h; rw [h]; exact hk x List.mem_cons_self
  ·exact ih fun y hy => hk y (List.mem_cons_of_mem _ hy)
theorem Z44_tot (n : Nat) : ∀ (v : TValue), v.sz < n → Ok (Z44_qn n v) := by
 induction n with
 | zero => intro v h; omega
 | succ n ih =>
  intro v h
  rw [Z44_qn]
  (repeat' (first | exact Tot.some _ | assumption | (with_reducible refine Tot.bind ?_ fun _ _ => ?_) | (with_reducible refine Tot.guard (fun _ => ?_) fun _ _ _ => ?_) | (with_reducible refine Tot.cond (fun _ => ?_) fun _ => ?_) | (with_reducible refine Tot.on fun _ _ => ?_) | split))
  exact Z44_loop _ _ fun x hx => ih x (by have := TValue.item_lt hx; omega)
theorem Z44_ok (v : TValue) (h : v.sz ≤ 1048576) : Ok (Z44_q v) := Z44_tot F0 v (by rw [F0_eq]; omega)
theorem TArg.value_le (a : TArg) : a.FValue.sz ≤ a.sz := by have := a.sz_def; omega
theorem TDir.arg_le {x : TDir} {a : TArg} (h : a ∈ x.FArgs.l) : a.sz ≤ x.sz := by have := x.sz_def; have := Sl.mem_le (f := TArg.sz) h; omega
theorem Z46_in (h10 : TDir) (l : List TArg) (h : ∀ a ∈ l, a.sz ≤ 1048576) : Ok (Z46_q25 h10 l) := by
 induction l with
 | nil => exact Tot.some _
 | cons x r ih =>
  have h1 := h x List.mem_cons_self; have h2 := x.value_le
  rw [Z46_q25]
  (repeat' (first | exact Tot.some _ | assumption | (with_reducible refine Tot.bind ?_ fun _ _ => ?_) | (with_reducible refine Tot.guard (fun _ => ?_) fun _ _ _ => ?_) | (with_reducible refine Tot.cond (fun _ => ?_) fun _ => ?_) | (with_reducible refine Tot.on fun _ _ => ?_) | split))
  all_goals first | exact ih fun y hy => h y (List.mem_cons_of_mem _ hy) | (subst_vars; first | exact Z27_ok _ (by omega) | exact Z44_ok _ (by omega))
theorem Z46_loop (l : List TDir) (h : ∀ a ∈ l, a.sz ≤ 1048576) : Ok (Z46_q10 l) := by
 induction l with
 | nil => exact Tot.some _
 | cons x r ih =>
  have h1 := h x List.mem_cons_self
  rw [Z46_q10]
  (repeat' (first | exact Tot.some _ | assumption | (with_reducible refine Tot.bind ?_ fun _ _ => ?_) | (with_reducible refine Tot.guard (fun _ => ?_) fun _ _ _ => ?_) | (with_reducible refine Tot.cond (fun _ => ?_) fun _ => ?_) | (with_reducible refine Tot.on fun _ _ => ?_) | split))
  ·exact Z46_in x _ fun a ha => by have := TDir.arg_le ha; omega
  ·exact ih fun y hy => h y (List.mem_cons_of_mem _ hy)
theorem Z46_ok (s : Sl TDir) (h : Sl.sz TDir.sz s ≤ 1048576) : Ok (Z46_q s) := by
 unfold Z46_q
 (repeat' (first | exact Tot.some _ | assumption | (with_reducible refine Tot.bind ?_ fun _ _ => ?_) | (with_reducible refine Tot.guard (fun _ => ?_) fun _ _ _ => ?_) | (with_reducible refine Tot.cond (fun _ => ?_) fun _ => ?_) | (with_reducible refine Tot.on fun _ _ => ?_) | split))
 exact Z46_loop _ fun a ha => by have := Sl.mem_le (f := TDir.sz) ha; omega
theorem TRef.wraps_le (r : TRef) : r.FWraps.l.length ≤ r.sz := by have := r.sz_def; have := Sl.len_le (f := fun _ : Int => 1) r.FWraps (fun _ => Nat.le_refl _); omega
theorem Z48_loop (l : List TInput) (h : ∀ a ∈ l, a.sz ≤ 1048576) : Ok (Z48_q10 l) := by
 induction l with
 | nil => exact Tot.some _
 | cons x r ih =>
  have h1 := h x List.mem_cons_self; have h2 := x.sz_def; have h3 := x.FType.wraps_le
  rw [Z48_q10]
  (repeat' (first | exact Tot.some _ | assumption | (with_reducible refine Tot.bind ?_ fun _ _ => ?_) | (with_reducible refine Tot.guard (fun _ => ?_) fun _ _ _ => ?_) | (with_reducible refine Tot.cond (fun _ => ?_) fun _ => ?_) | (with_reducible refine Tot.on fun _ _ => ?_) | split))
  all_goals first | exact ih fun y hy => h y (List.mem_cons_of_mem _ hy) | (subst_vars; first | exact Z40_ok _ (by omega) | exact Z46_ok _ (by omega) | exact Z27_ok _ (by omega) | exact Z44_ok _ (by omega))
theorem Z48_ok (s : Sl TInput) (h : Sl.sz TInput.sz s ≤ 1048576) : Ok (Z48_q s) := by
 unfold Z48_q
 (repeat' (first | exact Tot.some _ | assumption | (with_reducible refine Tot.bind ?_ fun _ _ => ?_) | (with_reducible refine Tot.guard (fun _ => ?_) fun _ _ _ => ?_) | (with_reducible refine Tot.cond (fun _ => ?_) fun _ => ?_) | (with_reducible refine Tot.on fun _ _ => ?_) | split))
 exact Z48_loop _ fun a ha => by have := Sl.mem_le (f := TInput.sz) ha; omega
theorem Z47_loop (l : List TField) (h : ∀ a ∈ l, a.sz ≤ 1048576) : Ok (Z47_q10 l) := by
 induction l with
 | nil => exact Tot.some _
 | cons x r ih =>
  have h1 := h x List.mem_cons_self; have h2 := x.sz_def; have h3 := x.FType.wraps_le
  have hz : TField.zero.FType.FWraps.l.length ≤ 1048576 := by decide
  rw [Z47_q10]
  simp only [on]
  cases Z21_q x.FName <;> simp only [Bool.not_true, Bool.not_false, cond_true, cond_false, Bool.or_false, Bool.or_true, Bool.true_or, Bool.false_or]
  ·simp [guardO]; exact Tot.some _
  ·obtain ⟨b1, e1⟩ := Z48_ok x.FArgs (by omega)
   obtain ⟨b2, e2⟩ := Z40_ok x.FType (by omega)
   obtain ⟨b3, e3⟩ := Z46_ok x.FDirs (by omega)
   have hr := ih fun y hy => h y (List.mem_cons_of_mem _ hy)
   cases b1 <;> cases b2 <;> cases b3 <;> simp [guardO, e1, e2, e3] <;> first | exact Tot.some _ | exact hr
theorem Z47_ok (s : Sl TField) (h : Sl.sz TField.sz s ≤ 1048576) : Ok (Z47_q s) := by
 unfold Z47_q
 (repeat' (first | exact Tot.some _ | assumption | (with_reducible refine Tot.bind ?_ fun _ _ => ?_) | (with_reducible refine Tot.guard (fun _ => ?_) fun _ _ _ => ?_) | (with_reducible refine Tot.cond (fun _ => ?_) fun _ => ?_) | (with_reducible refine Tot.on fun _ _ => ?_) | split))
 exact Z47_loop _ fun a ha => by have := Sl.mem_le (f := TField.sz) ha; omega
theorem Z49_loop (b : Bool) (l : List TMember) (h : ∀ a ∈ l, a.sz ≤ 1048576) : Ok (Z49_q10 b l) := by
 induction l with
 | nil => exact Tot.some _
 | cons x r ih =>
  have h1 := h x List.mem_cons_self; have h2 := x.sz_def
  rw [Z49_q10]
  simp only [on]
  cases Z21_q x.FName <;> simp only [Bool.not_true, Bool.not_false, cond_true, cond_false, Bool.or_false, Bool.or_true, Bool.true_or, Bool.false_or]
  ·simp [guardO]; exact Tot.some _
  ·obtain ⟨b3, e3⟩ := Z46_ok x.FDirs (by omega)
   have hr := ih fun y hy => h y (List.mem_cons_of_mem _ hy)
   simp only [guardO, e3, if_true, Option.bind_some]
   (repeat' (first | exact Tot.some _ | assumption | (with_reducible refine Tot.bind ?_ fun _ _ => ?_) | (with_reducible refine Tot.guard (fun _ => ?_) fun _ _ _ => ?_) | (with_reducible refine Tot.cond (fun _ => ?_) fun _ => ?_) | (with_reducible refine Tot.on fun _ _ => ?_) | split))
theorem Z49_ok (s : Sl TMember) (b : Bool) (h : Sl.sz TMember.sz s ≤ 1048576) : Ok (Z49_q s b) := by
 unfold Z49_q
 (repeat' (first | exact Tot.some _ | assumption | (with_reducible refine Tot.bind ?_ fun _ _ => ?_) | (with_reducible refine Tot.guard (fun _ => ?_) fun _ _ _ => ?_) | (with_reducible refine Tot.cond (fun _ => ?_) fun _ => ?_) | (with_reducible refine Tot.on fun _ _ => ?_) | split))
 exact Z49_loop _ _ fun a ha => by have := Sl.mem_le (f := TMember.sz) ha; omega
theorem Z45_ok (x : TDef) (h : x.sz ≤ 1048576) : Ok (Z45_q x) := by
 have h2 := x.sz_def
 unfold Z45_q
 (repeat' (first | exact Tot.some _ | assumption | (with_reducible refine Tot.bind ?_ fun _ _ => ?_) | (with_reducible refine Tot.guard (fun _ => ?_) fun _ _ _ => ?_) | (with_reducible refine Tot.cond (fun _ => ?_) fun _ => ?_) | (with_reducible refine Tot.on fun _ _ => ?_) | split))
 all_goals first | exact Z46_ok _ (by omega) | exact Z47_ok _ (by omega) | exact Z49_ok _ _ (by omega) | exact Z48_ok _ (by omega)
theorem Z42_loop (l : List TDef) (h : ∀ a ∈ l, a.sz ≤ 1048576) : Ok (Z42_q10 l) := by
 induction l with
 | nil => exact Tot.some _
 | cons x r ih =>
  rw [Z42_q10]
  (repeat' (first | exact Tot.some _ | assumption | (with_reducible refine Tot.bind ?_ fun _ _ => ?_) | (with_reducible refine Tot.guard (fun _ => ?_) fun _ _ _ => ?_) | (with_reducible refine Tot.cond (fun _ => ?_) fun _ => ?_) | (with_reducible refine Tot.on fun _ _ => ?_) | split))
  ·subst_vars; exact Z45_ok _ (h _ List.mem_cons_self)
  ·exact ih fun y hy => h y (List.mem_cons_of_mem _ hy)
theorem TDoc.def_le {d : TDoc} {x : TDef} (h : x ∈ d.FDefs.l) : x.sz ≤ d.sz := by have := d.sz_def; have := Sl.mem_le (f := TDef.sz) h; omega
theorem Z42_ok (d : TDoc) (h : d.sz ≤ 1048576) : Ok (Z42_q d) := by
 unfold Z42_q
 (repeat' (first | exact Tot.some _ | assumption | (with_reducible refine Tot.bind ?_ fun _ _ => ?_) | (with_reducible refine Tot.guard (fun _ => ?_) fun _ _ _ => ?_) | (with_reducible refine Tot.cond (fun _ => ?_) fun _ => ?_) | (with_reducible refine Tot.on fun _ _ => ?_) | split))
 exact Z42_loop _ fun a ha => by have := TDoc.def_le ha; omega
end Go.Proofs

namespace Go.Proofs
open Go Go.Ab
theorem condE {α : Type} {c : Bool} {a b : Option α} {z : α} (h : cond c a b = some z) : (c = true ∧ a = some z) ∨ (c = false ∧ b = some z) := by cases c; exact .inr ⟨rfl, h⟩; exact .inl ⟨rfl, h⟩
theorem guardE {α β : Type} {c : Bool} {o : Option α} {d : α} {k : α → Option β} {z : β} (h : guardO c o d k = some z) : (c = true ∧ ∃ v, o = some v ∧ k v = some z) ∨ (c = false ∧ k d = some z) := by
  unfold guardO at h
  cases c with
  | true => obtain ⟨v, e, h⟩ := bindO_some (by simpa using h); exact .inl ⟨rfl, v, e, h⟩
  | false => exact .inr ⟨rfl, by simpa using h⟩
theorem literal_is {v : TValue} (h : Z27_q v = some true) : Z33_qn F0 v true = some true := by
  unfold Z27_q at h
  obtain ⟨a, _, h⟩ := bindO_some h
  rcases guardE h with ⟨_, b, _, h⟩ | ⟨_, h⟩
  · rcases guardE h with ⟨_, c, e, h⟩ | ⟨_, h⟩
    · simp at h; rw [h.2] at e; exact e
    · simp at h
  · rcases guardE h with ⟨_, c, e, h⟩ | ⟨_, h⟩
    · simp at h; rw [h.2] at e; exact e
    · simp at h
theorem right_is {v : TValue} (h : Z28_q v = some true) : Z33_qn F0 v false = some true := by
  unfold Z28_q at h
  obtain ⟨a, _, h⟩ := bindO_some h
  rcases guardE h with ⟨_, b, _, h⟩ | ⟨_, h⟩
  · rcases guardE h with ⟨_, c, e, h⟩ | ⟨_, h⟩
    · simp at h; rw [h.2] at e; exact e
    · simp at h
  · rcases guardE h with ⟨_, c, e, h⟩ | ⟨_, h⟩
    · simp at h; rw [h.2] at e; exact e
    · simp at h
theorem inputs_right (l : List TInput) (z : Unit ⊕ Bool) (h : Z48_q10 l = some z) : (z = Sum.inl () ∧ ∀ x ∈ l, x.FHas = true → Z27_q x.FDefault = some true) ∨ z = Sum.inr false := by
  induction l generalizing z with
  | nil => rw [Z48_q10] at h; exact .inl ⟨(Option.some.inj h).symm, fun a ha => by cases ha⟩
  | cons a r ih =>
    rw [Z48_q10] at h
    simp only [Ab.on] at h
    have step : ∀ (x27 : Bool), (a.FHas = true → Z27_q a.FDefault = some x27) → ∀ x28 : Bool, (bif ((a.FHas && ((!x27) || (!x28))) || ((!a.FHas) && (!(bif (!(a.FHas && ((!x27) || (!x28))) && (!a.FHas)) then Z50_q a.FDefault else false)))) then (some (Sum.inr false)) else (Z48_q10 r)) = some z →
        (z = Sum.inl () ∧ ∀ x ∈ a :: r, x.FHas = true → Z27_q x.FDefault = some true) ∨ z = Sum.inr false := by
      intro x27 e x28 h
      rcases condE h with ⟨_, h⟩ | ⟨hc, h⟩
      · exact .inr (Option.some.inj h).symm
      · rcases ih z h with ⟨h1, h2⟩ | h1
        · refine .inl ⟨h1, fun x hx hh => ?_⟩
          rcases List.mem_cons.1 hx with rfl | hx
          · have := e hh
            rw [hh] at hc
            cases x27 with
            | true => exact this
            | false => simp at hc
          · exact h2 x hx hh
        · exact .inr h1
    rcases guardE h with ⟨_, x22, _, h⟩ | ⟨_, h⟩ <;> rcases guardE h with ⟨_, x23, _, h⟩ | ⟨_, h⟩ <;> rcases condE h with ⟨_, h⟩ | ⟨_, h⟩
    all_goals first
      | exact .inr (Option.some.inj h).symm
      | (rcases guardE h with ⟨_, x27, e27, h⟩ | ⟨e27, h⟩
         · rcases guardE h with ⟨_, x28, _, h⟩ | ⟨_, h⟩
           · exact step x27 (fun _ => e27) x28 h
           · exact step x27 (fun _ => e27) false h
         · rcases guardE h with ⟨_, x28, _, h⟩ | ⟨_, h⟩
           · exact step false (fun hh => by rw [hh] at e27; cases e27) x28 h
           · exact step false (fun hh => by rw [hh] at e27; cases e27) false h)
end Go.Proofs

namespace Go.Proofs
open Go Go.Ab
theorem inputsRight_w {s : Sl TInput} (h : Z48_q s = some true) : ∀ x ∈ s.l, x.FHas = true → Z27_q x.FDefault = some true := by
  unfold Z48_q at h
  rcases condE h with ⟨_, h⟩ | ⟨_, h⟩
  · cases h
  · obtain ⟨z, g, h⟩ := bindO_some h
    rcases inputs_right _ _ g with ⟨_, h1⟩ | rfl
    · exact h1
    · cases h
theorem defs34 (l : List Bs) (y : Bool) (h : Z45_q34 l = Sum.inr y) : y = false := by
  induction l with
  | nil => cases h
  | cons a r ih =>
    rw [Z45_q34] at h
    simp only [Ab.on] at h
    revert h
    cases (!Z21_q a) with
    | true => intro h; exact (Sum.inr.inj h).symm
    | false => exact ih
theorem def_right {t : TDef} (h : Z45_q t = some true) : ∀ x ∈ t.FInputs.l, x.FHas = true → Z27_q x.FDefault = some true := by
  have nil : t.FInputs.l = [] → ∀ x ∈ t.FInputs.l, x.FHas = true → Z27_q x.FDefault = some true := fun e x hx => by rw [e] at hx; cases hx
  have fin : ∀ c : Bool, (some (c && decide (((t.FInputs.l.length : Nat) : Int) = (0 : Int)))) = some true → t.FInputs.l = [] := fun c h => by
    simp at h; exact h.2
  unfold Z45_q at h
  simp only [Ab.on] at h
  rcases guardE h with ⟨_, x5, _, h⟩ | ⟨_, h⟩ <;> rcases condE h with ⟨_, h⟩ | ⟨_, h⟩
  all_goals first
    | (cases h; done)
    | (cases e : Z45_q34 t.FImplements.l with
       | inr y => rw [e] at h; have := defs34 _ _ e; subst this; cases h
       | inl _ =>
         rw [e] at h
         simp only at h
         rcases condE h with ⟨_, h⟩ | ⟨_, h⟩
         · obtain ⟨x15, _, h⟩ := bindO_some h
           exact nil (fin _ h)
         · rcases condE h with ⟨_, h⟩ | ⟨_, h⟩
           · rcases guardE h with ⟨_, x, _, h⟩ | ⟨_, h⟩ <;> exact nil (fin _ h)
           · rcases condE h with ⟨_, h⟩ | ⟨_, h⟩
             · rcases guardE h with ⟨_, x, _, h⟩ | ⟨_, h⟩ <;> exact nil (fin _ h)
             · rcases condE h with ⟨_, h⟩ | ⟨_, h⟩
               · rcases guardE h with ⟨_, x, _, h⟩ | ⟨_, h⟩ <;> exact nil (fin _ h)
               · rcases condE h with ⟨_, h⟩ | ⟨_, h⟩
                 · rcases guardE h with ⟨_, x, ex, h⟩ | ⟨_, h⟩
                   · simp at h; rw [h.2] at ex; exact inputsRight_w ex
                   · simp at h
                 · cases h)
theorem docs_right (l : List TDef) (z : Unit ⊕ Bool) (h : Z42_q10 l = some z) : (z = Sum.inl () ∧ ∀ x ∈ l, Z45_q x = some true) ∨ z = Sum.inr false := by
  induction l generalizing z with
  | nil => rw [Z42_q10] at h; exact .inl ⟨(Option.some.inj h).symm, fun a ha => by cases ha⟩
  | cons a r ih =>
    rw [Z42_q10] at h
    simp only [Ab.on] at h
    obtain ⟨x, g, h⟩ := bindO_some h
    cases x with
    | false => simp at h; exact .inr h.symm
    | true =>
      simp only [Bool.not_true, cond_false] at h
      rcases ih z h with ⟨h1, h2⟩ | h1
      · exact .inl ⟨h1, fun y hy => by rcases List.mem_cons.1 hy with rfl | hy; exact g; exact h2 y hy⟩
      · exact .inr h1
theorem doc_right {d : TDoc} (h : Z42_q d = some true) : ∀ x ∈ d.FDefs.l, Z45_q x = some true := by
  unfold Z42_q at h
  rcases condE h with ⟨_, h⟩ | ⟨_, h⟩
  · cases h
  · obtain ⟨z, g, h⟩ := bindO_some h
    rcases docs_right _ _ g with ⟨_, h1⟩ | rfl
    · exact h1
    · cases h
end Go.Proofs

namespace Go.Proofs
open Go Go.Ab
theorem all2_self {α : Type} {R S : α → α → Prop} {l : List α} (h : All2 R l l) (hi : ∀ x ∈ l, R x x → S x x) : All2 S l l :=
 All2.of_get rfl fun i x y h1 h2 => by
  rw [h1] at h2; simp only [Option.some.injEq] at h2; subst h2
  obtain ⟨y, h3, h4⟩ := h.get h1
  rw [h1] at h3; simp only [Option.some.injEq] at h3; subst h3
  exact hi x (List.mem_of_getElem? h1) h4
theorem Rl.small : ∀ (m n : Nat) {v : TValue}, Rl n v v → v.sz ≤ m → Rl m v v
 | 0, _, v, _, hm => by have := v.pos; omega
 | _ + 1, 0, _, h, _ => h.elim
 | m + 1, n + 1, v, ⟨a, b, c, d, e, f, g, i, k⟩, hm => ⟨a, b, c, d, e, f, g, i, all2_self k fun x hx h => Rl.small m n h (by have := TValue.item_lt hx; omega)⟩
def nB : Nat := 1048576
theorem literal_rl {v : TValue} (h : Z27_q v = some true) (hw : v.wf) (hs : v.sz ≤ 1048576) : Rl nB v v := Rl.small _ _ (whole_rl F0 v true (literal_is h) hw hs) hs
theorem right_rl {v : TValue} (h : Z28_q v = some true) (hw : v.wf) (hs : v.sz ≤ 1048576) : Rl nB v v := Rl.small _ _ (whole_rl F0 v false (right_is h) hw hs) hs
theorem sok_wraps {t : TRef} (hw : t.wf) (hs : t.sz ≤ 1048576) : SOk t.FWraps := ⟨hw.2.1.1, by have := TRef.wraps_le t; omega⟩
theorem inOk_of {x : TInput} (hl : x.FHas = true → Z27_q x.FDefault = some true) (hw : x.wf) (hs : x.sz ≤ 1048576) : InOk nB x := by
 have := x.sz_def
 exact ⟨sok_wraps hw.2.1 (by omega), fun h => literal_rl (hl h) hw.2.2.2.1 (by omega)⟩
theorem defOk_of {t : TDef} (hl : ∀ x ∈ t.FInputs.l, x.FHas = true → Z27_q x.FDefault = some true) (hw : t.wf) (hs : t.sz ≤ 1048576) : DefOk nB t := by
 have h1 := t.sz_def
 have h2 := Sl.len_le (f := TInput.sz) t.FInputs (fun x => x.pos)
 exact ⟨by omega, fun x hx => inOk_of (hl x hx) (hw.2.2.2.2.2.2.1.2.2 x hx) (by have := Sl.mem_le (f := TInput.sz) hx; omega)⟩
theorem doc_ok {d : TDoc} (h : Z42_q d = some true) (hw : d.wf) (hs : d.sz ≤ 1048576) : ∀ s, DefOk nB (fnd d.FDefs.l s).1 := by
 intro s
 rcases fnd_mem d.FDefs.l s with e | hm
 ·rw [e]; exact ⟨by show 0 ≤ _; omega, fun x hx => by cases hx⟩
 ·exact defOk_of (def_right (doc_right h _ hm)) (hw.1.2.2 _ hm) (by have := TDoc.def_le hm; omega)
end Go.Proofs

namespace Go.Proofs
open Go Go.Ab
def Gr (o : Option Int) (s : Int) (b : Nat) : Prop := ∃ r, o = some r ∧ s ≤ r ∧ r ≤ s + b
theorem Gr.refl (s : Int) (b : Nat) : Gr (some s) s b := ⟨s, rfl, by omega, by omega⟩
theorem Gr.bind {o : Option Int} {k : Int → Option Int} {s : Int} {a b c : Nat} (h : Gr o s a) (hc : a + b ≤ c) (hk : ∀ r, s ≤ r → r ≤ s + a → Gr (k r) r b) : Gr (o.bind k) s c := by
 obtain ⟨r, e, h1, h2⟩ := h
 obtain ⟨r2, e2, h3, h4⟩ := hk r h1 h2
 exact ⟨r2, by rw [e]; exact e2, by omega, by omega⟩
theorem Gr.add {x s : Int} {b : Nat} (hx : 0 ≤ x ∧ x ≤ b) (hs : 0 ≤ s ∧ s + b ≤ 1099511627776) : Gr (addC s x) s b := ⟨s + x, addC_ok (by omega), by omega, by omega⟩
theorem Gr.part {o : Option Int} {s : Int} {b : Nat} (h : Gr o 0 b) (hs : 0 ≤ s ∧ s + b ≤ 1099511627776) : Gr (o.bind fun x => addC s x) s b := by
 obtain ⟨r, e, h1, h2⟩ := h
 rw [e]; exact Gr.add (by omega) hs
theorem keys_w (a1 : Int) : ∀ (l : List Bs) (s : Int), 0 ≤ s → s + (l.map Bs.sz).sum ≤ 1073741824 → Gr (Z35_q23 a1 l s) s (l.map Bs.sz).sum
 | [], s, _, _ => Gr.refl _ _
 | a :: r, s, h0, h => by
  simp only [List.map_cons, List.sum_cons] at h ⊢
  rw [Z35_q23]
  cases decide (s ≤ a1) with
  | false => exact Gr.refl _ _
  | true =>
   simp only [cond_true, Ab.on]
   have hb : Bs.sz a = a.length + 1 := rfl
   refine Gr.bind (a := 1) (b := a.length + (r.map Bs.sz).sum) (Gr.add (by omega) (by omega)) (by omega) fun x h1 h2 => ?_
   refine Gr.bind (a := a.length) (b := (r.map Bs.sz).sum) (Gr.add (by omega) (by omega)) (by omega) fun y h3 h4 => ?_
   exact keys_w a1 r y (by omega) (by omega)
theorem value_w (a1 : Int) (n : Nat) : ∀ v : TValue, v.sz < n → v.sz ≤ 1048576 → Gr (Z35_qn n v a1) 0 v.sz := by
 induction n with
 | zero => intro v h; omega
 | succ n ih =>
  intro v hn hs
  have hd := v.sz_def
  have ht : Bs.sz v.FText = v.FText.length + 1 := rfl
  have hk : Sl.sz Bs.sz v.FKeys = 1 + (v.FKeys.l.map Bs.sz).sum := rfl
  have hi : Sl.sz TValue.sz v.FItems = 1 + (v.FItems.l.map TValue.sz).sum := rfl
  have hl : ∀ (l : List TValue) (s : Int), (∀ x ∈ l, x.sz < n ∧ x.sz ≤ 1048576) → 0 ≤ s → s + (l.map TValue.sz).sum ≤ 1073741824 → Gr (Z35_q11 a1 (Z35_qn n) l s) s (l.map TValue.sz).sum := by
   intro l
   induction l with
   | nil => intro s _ _ _; exact Gr.refl _ _
   | cons a r ihl =>
    intro s hx h0 h
    simp only [List.map_cons, List.sum_cons] at h ⊢
    rw [Z35_q11]
    cases decide (s ≤ a1) with
    | false => exact Gr.refl _ _
    | true =>
     simp only [cond_true, Ab.on]
     obtain ⟨w, e, h1, h2⟩ := ih a (hx a (by simp)).1 (hx a (by simp)).2
     rw [e, Option.bind_some]
     refine Gr.bind (a := a.sz) (b := (r.map TValue.sz).sum) (Gr.add (by omega) (by omega)) (by omega) fun y h3 h4 => ?_
     exact ihl y (fun x hx' => hx x (by simp [hx'])) (by omega) (by omega)
  rw [Z35_qn, addC_ok (by omega), Option.bind_some]
  simp only [Ab.on]
  obtain ⟨x, e1, x1, x2⟩ := keys_w a1 v.FKeys.l (1 + (v.FText.length : Int)) (by omega) (by omega)
  rw [e1, Option.bind_some]
  obtain ⟨y, e2, y1, y2⟩ := hl v.FItems.l x (fun z hz => by have := TValue.item_lt hz; omega) (by omega) (by omega)
  rw [e2]
  exact ⟨y, rfl, by omega, by omega⟩
theorem value_W (a1 : Int) (v : TValue) (h : v.sz ≤ 1048576) : Gr (Z35_q v a1) 0 v.sz := value_w a1 F0 v (by rw [F0_eq]; omega) h
end Go.Proofs

namespace Go.Proofs
open Go Go.Ab
theorem Gr.two {o : Option Int} {k : Int → Option Int} {s : Int} {a b c : Nat} (h : Gr o 0 a) (hs : 0 ≤ s ∧ s + a ≤ 1099511627776) (hc : a + b ≤ c) (hk : ∀ r, s ≤ r → r ≤ s + a → Gr (k r) r b) : Gr (o.bind fun x => (addC s x).bind k) s c := by
 obtain ⟨x, e, h1, h2⟩ := h
 rw [e, Option.bind_some]
 exact Gr.bind (a := a) (b := b) (Gr.add (by omega) hs) hc hk
theorem args_w (a1 : Int) (h7 : TDir) : ∀ (l : List TArg) (s : Int), (∀ x ∈ l, x.sz ≤ 1048576) → 0 ≤ s → s + (l.map TArg.sz).sum ≤ 1073741824 → Gr (Z51_q19 a1 h7 l s) s (l.map TArg.sz).sum
 | [], s, _, _, _ => Gr.refl _ _
 | a :: r, s, hx, h0, h => by
  simp only [List.map_cons, List.sum_cons] at h ⊢
  have hd := a.sz_def
  have hp := Bs.sz_pos a.FName
  have hxa := hx a (by simp)
  rw [Z51_q19]
  cases decide (s ≤ a1) with
  | false => exact Gr.refl _ _
  | true =>
   simp only [cond_true, Ab.on]
   refine Gr.bind (a := 1) (b := a.FValue.sz + (r.map TArg.sz).sum) (Gr.add (by omega) (by omega)) (by omega) fun x h1 h2 => ?_
   exact Gr.two (b := (r.map TArg.sz).sum) (value_W a1 a.FValue (by omega)) (by omega) (by omega) fun y h3 h4 => args_w a1 h7 r y (fun z hz => hx z (by simp [hz])) (by omega) (by omega)
theorem dirs_loop_w (a1 : Int) : ∀ (l : List TDir) (s : Int), (∀ x ∈ l, x.sz ≤ 1048576) → 0 ≤ s → s + (l.map TDir.sz).sum ≤ 1073741824 → Gr (Z51_q7 a1 l s) s (l.map TDir.sz).sum
 | [], s, _, _, _ => Gr.refl _ _
 | a :: r, s, hx, h0, h => by
  simp only [List.map_cons, List.sum_cons] at h ⊢
  have hd := a.sz_def
  have hp := Bs.sz_pos a.FName
  have hi : Sl.sz TArg.sz a.FArgs = 1 + (a.FArgs.l.map TArg.sz).sum := rfl
  have hxa := hx a (by simp)
  rw [Z51_q7]
  cases decide (s ≤ a1) with
  | false => exact Gr.refl _ _
  | true =>
   simp only [cond_true, Ab.on]
   refine Gr.bind (a := 1) (b := (a.FArgs.l.map TArg.sz).sum + (r.map TDir.sz).sum) (Gr.add (by omega) (by omega)) (by omega) fun x h1 h2 => ?_
   exact Gr.bind (b := (r.map TDir.sz).sum) (args_w a1 a a.FArgs.l x (fun z hz => by have := TDir.arg_le hz; omega) (by omega) (by omega)) (by omega) fun y h3 h4 => dirs_loop_w a1 r y (fun z hz => hx z (by simp [hz])) (by omega) (by omega)
theorem dirs_w (a1 : Int) (s : Sl TDir) (h : Sl.sz TDir.sz s ≤ 1048576) : Gr (Z51_q s a1) 0 (Sl.sz TDir.sz s) := by
 have hi : Sl.sz TDir.sz s = 1 + (s.l.map TDir.sz).sum := rfl
 obtain ⟨r, e, h1, h2⟩ := dirs_loop_w a1 s.l 0 (fun x hx => by have := Sl.mem_le (f := TDir.sz) hx; omega) (by omega) (by omega)
 unfold Z51_q; rw [e]; exact ⟨r, rfl, h1, by omega⟩
theorem inputs_loop_w (a1 : Int) : ∀ (l : List TInput) (s : Int), (∀ x ∈ l, x.sz ≤ 1048576) → 0 ≤ s → s + (l.map TInput.sz).sum ≤ 1073741824 → Gr (Z52_q7 a1 l s) s (l.map TInput.sz).sum
 | [], s, _, _, _ => Gr.refl _ _
 | a :: r, s, hx, h0, h => by
  simp only [List.map_cons, List.sum_cons] at h ⊢
  have hd := a.sz_def
  have hp := Bs.sz_pos a.FName
  have hw := TRef.wraps_le a.FType
  have hxa := hx a (by simp)
  rw [Z52_q7]
  cases decide (s ≤ a1) with
  | false => exact Gr.refl _ _
  | true =>
   simp only [cond_true, Ab.on]
   refine Gr.bind (a := 1) (b := a.FType.FWraps.l.length + a.FDefault.sz + Sl.sz TDir.sz a.FDirs + (r.map TInput.sz).sum) (Gr.add (by omega) (by omega)) (by omega) fun x h1 h2 => ?_
   refine Gr.bind (a := a.FType.FWraps.l.length) (b := a.FDefault.sz + Sl.sz TDir.sz a.FDirs + (r.map TInput.sz).sum) (Gr.add (by omega) (by omega)) (by omega) fun y h3 h4 => ?_
   refine Gr.two (b := Sl.sz TDir.sz a.FDirs + (r.map TInput.sz).sum) (value_W a1 a.FDefault (by omega)) (by omega) (by omega) fun z h5 h6 => ?_
   exact Gr.two (b := (r.map TInput.sz).sum) (dirs_w a1 a.FDirs (by omega)) (by omega) (by omega) fun q h7 h8 => inputs_loop_w a1 r q (fun z hz => hx z (by simp [hz])) (by omega) (by omega)
theorem inputs_w (a1 : Int) (s : Sl TInput) (h : Sl.sz TInput.sz s ≤ 1048576) : Gr (Z52_q s a1) 0 (Sl.sz TInput.sz s) := by
 have hi : Sl.sz TInput.sz s = 1 + (s.l.map TInput.sz).sum := rfl
 obtain ⟨r, e, h1, h2⟩ := inputs_loop_w a1 s.l 0 (fun x hx => by have := Sl.mem_le (f := TInput.sz) hx; omega) (by omega) (by omega)
 unfold Z52_q; rw [e]; exact ⟨r, rfl, h1, by omega⟩
theorem fields_w (a1 : Int) : ∀ (l : List TField) (s : Int), (∀ x ∈ l, x.sz ≤ 1048576) → 0 ≤ s → s + (l.map TField.sz).sum ≤ 1073741824 → Gr (Z43_q41 a1 l s) s (l.map TField.sz).sum
 | [], s, _, _, _ => Gr.refl _ _
 | a :: r, s, hx, h0, h => by
  simp only [List.map_cons, List.sum_cons] at h ⊢
  have hd := a.sz_def
  have hp := Bs.sz_pos a.FName
  have hw := TRef.wraps_le a.FType
  have hxa := hx a (by simp)
  rw [Z43_q41]
  cases decide (s ≤ a1) with
  | false => exact Gr.refl _ _
  | true =>
   simp only [cond_true, Ab.on]
   refine Gr.bind (a := 1) (b := a.FType.FWraps.l.length + Sl.sz TInput.sz a.FArgs + Sl.sz TDir.sz a.FDirs + (r.map TField.sz).sum) (Gr.add (by omega) (by omega)) (by omega) fun x h1 h2 => ?_
   refine Gr.bind (a := a.FType.FWraps.l.length) (b := Sl.sz TInput.sz a.FArgs + Sl.sz TDir.sz a.FDirs + (r.map TField.sz).sum) (Gr.add (by omega) (by omega)) (by omega) fun y h3 h4 => ?_
   refine Gr.two (b := Sl.sz TDir.sz a.FDirs + (r.map TField.sz).sum) (inputs_w a1 a.FArgs (by omega)) (by omega) (by omega) fun z h5 h6 => ?_
   exact Gr.two (b := (r.map TField.sz).sum) (dirs_w a1 a.FDirs (by omega)) (by omega) (by omega) fun q h7 h8 => fields_w a1 r q (fun z hz => hx z (by simp [hz])) (by omega) (by omega)
theorem members_w (a1 : Int) : ∀ (l : List TMember) (s : Int), (∀ x ∈ l, x.sz ≤ 1048576) → 0 ≤ s → s + (l.map TMember.sz).sum ≤ 1073741824 → Gr (Z43_q28 a1 l s) s (l.map TMember.sz).sum
 | [], s, _, _, _ => Gr.refl _ _
 | a :: r, s, hx, h0, h => by
  simp only [List.map_cons, List.sum_cons] at h ⊢
  have hd := a.sz_def
  have hp := Bs.sz_pos a.FName
  have hxa := hx a (by simp)
  rw [Z43_q28]
  cases decide (s ≤ a1) with
  | false => exact Gr.refl _ _
  | true =>
   simp only [cond_true, Ab.on]
   refine Gr.bind (a := 1) (b := Sl.sz TDir.sz a.FDirs + (r.map TMember.sz).sum) (Gr.add (by omega) (by omega)) (by omega) fun x h1 h2 => ?_
   exact Gr.two (b := (r.map TMember.sz).sum) (dirs_w a1 a.FDirs (by omega)) (by omega) (by omega) fun q h7 h8 => members_w a1 r q (fun z hz => hx z (by simp [hz])) (by omega) (by omega)
theorem defs_w (a1 : Int) : ∀ (l : List TDef) (s : Int), (∀ x ∈ l, x.sz ≤ 1048576) → 0 ≤ s → s + (l.map TDef.sz).sum ≤ 1073741824 → Gr (Z43_q8 a1 l s) s (l.map TDef.sz).sum
 | [], s, _, _, _ => Gr.refl _ _
 | a :: r, s, hx, h0, h => by
  simp only [List.map_cons, List.sum_cons] at h ⊢
  have hd := a.sz_def
  have hp := Bs.sz_pos a.FName
  have h1 := Sl.len_le (f := Bs.sz) a.FImplements (fun x => Bs.sz_pos x)
  have hf : Sl.sz TField.sz a.FFields = 1 + (a.FFields.l.map TField.sz).sum := rfl
  have hm : Sl.sz TMember.sz a.FMembers = 1 + (a.FMembers.l.map TMember.sz).sum := rfl
  have hxa := hx a (by simp)
  rw [Z43_q8]
  cases decide (s ≤ a1) with
  | false => exact Gr.refl _ _
  | true =>
   simp only [cond_true, Ab.on]
   refine Gr.bind (a := a.FImplements.l.length) (b := Sl.sz TDir.sz a.FDirs + Sl.sz TInput.sz a.FInputs + (a.FFields.l.map TField.sz).sum + (a.FMembers.l.map TMember.sz).sum + (r.map TDef.sz).sum) (Gr.add (by omega) (by omega)) (by omega) fun x h1 h2 => ?_
   refine Gr.two (b := Sl.sz TInput.sz a.FInputs + (a.FFields.l.map TField.sz).sum + (a.FMembers.l.map TMember.sz).sum + (r.map TDef.sz).sum) (dirs_w a1 a.FDirs (by omega)) (by omega) (by omega) fun y h3 h4 => ?_
   refine Gr.two (b := (a.FFields.l.map TField.sz).sum + (a.FMembers.l.map TMember.sz).sum + (r.map TDef.sz).sum) (inputs_w a1 a.FInputs (by omega)) (by omega) (by omega) fun z h5 h6 => ?_
   refine Gr.bind (b := (a.FMembers.l.map TMember.sz).sum + (r.map TDef.sz).sum) (fields_w a1 a.FFields.l z (fun x hx => by have := Sl.mem_le (f := TField.sz) hx; omega) (by omega) (by omega)) (by omega) fun p h7 h8 => ?_
   exact Gr.bind (b := (r.map TDef.sz).sum) (members_w a1 a.FMembers.l p (fun x hx => by have := Sl.mem_le (f := TMember.sz) hx; omega) (by omega) (by omega)) (by omega) fun q h9 h10 => defs_w a1 r q (fun z hz => hx z (by simp [hz])) (by omega) (by omega)
theorem doc_W (a1 : Int) (d : TDoc) (h : d.sz ≤ 1048576) : ∃ r, Z43_q d a1 = some r := by
 have hd := d.sz_def
 have hi : Sl.sz TDef.sz d.FDefs = 1 + (d.FDefs.l.map TDef.sz).sum := rfl
 have hl := Sl.len_le (f := TDef.sz) d.FDefs (fun x => x.pos)
 obtain ⟨r, e, h1, h2⟩ := defs_w a1 d.FDefs.l (d.FDefs.l.length : Int) (fun x hx => by have := TDoc.def_le hx; omega) (by omega) (by omega)
 unfold Z43_q; rw [e]; exact ⟨r, rfl⟩
end Go.Proofs

namespace Go.Proofs
open Go Go.Ab
set_option maxRecDepth 100000 in
theorem example12 : Z18 = some true := by kernel_rfl
theorem gT {α β : Type} (o : Option α) (d : α) (k : α → Option β) : guardO true o d k = o.bind k := rfl
theorem gF {α β : Type} (o : Option α) (d : α) (k : α → Option β) : guardO false o d k = k d := rfl
theorem Z28_ok (v : TValue) (h : v.sz ≤ 1048576) : Ok (Z28_q v) := by
 unfold Z28_q
 obtain ⟨r, hr, _⟩ := Z29_ok v h
 (repeat' (first | exact Tot.some _ | assumption | (with_reducible refine Tot.bind ?_ fun _ _ => ?_) | (with_reducible refine Tot.guard (fun _ => ?_) fun _ _ _ => ?_) | (with_reducible refine Tot.cond (fun _ => ?_) fun _ => ?_) | (with_reducible refine Tot.on fun _ _ => ?_) | split))
 ·exact ⟨r, hr⟩
 ·exact Z25_ok v h
 ·exact Z33_tot F0 v false (by rw [F0_eq]; omega)
theorem right_spec (c : Supergraphlaw12_Case) (lit : Bool) (hs : c.sz ≤ 1048576) : ∃ b, Z19_q c lit = some b ∧
  (b = true → Z42_q c.FD = some true ∧ Z28_q c.FVars = some true ∧ (lit = true → Z27_q c.FV = some true) ∧ (lit = false → Z28_q c.FV = some true)) := by
 have hz := c.sz_def
 have hw := c.FT.wraps_le
 obtain ⟨w1, e1⟩ := doc_W 600 c.FD (by omega)
 obtain ⟨w2, e2, _⟩ := value_W 900 c.FV (by omega)
 obtain ⟨w3, e3, _⟩ := value_W 900 c.FVars (by omega)
 obtain ⟨b1, e4⟩ := Z42_ok c.FD (by omega)
 obtain ⟨b2, e5⟩ := Z40_ok c.FT (by omega)
 obtain ⟨b3, e6⟩ := Z28_ok c.FVars (by omega)
 obtain ⟨b4, e7⟩ := Z27_ok c.FV (by omega)
 obtain ⟨b5, e8⟩ := Z28_ok c.FV (by omega)
 have main : ∃ b, Z19_q c lit = some b ∧ (b = true → b1 = true ∧ b3 = true ∧ (lit = true → b4 = true) ∧ (lit = false → b5 = true)) := by
  have no : ∀ Φ : Prop, ∃ b, some false = some b ∧ (b = true → Φ) := fun _ => ⟨false, rfl, fun h => by cases h⟩
  unfold Z19_q
  rw [e1, Option.bind_some]
  cases decide ((600 : Int) < w1) with
  | true => exact no _
  | false =>
   simp only [Bool.not_false, gT, Bool.false_or, e2, Option.bind_some]
   cases decide ((900 : Int) < w2) with
   | true => exact no _
   | false =>
    simp only [Bool.not_false, gT, Bool.false_or, e3, Option.bind_some]
    cases decide ((900 : Int) < w3) with
    | true => exact no _
    | false =>
     simp only [Bool.not_false, gT, Bool.false_or, e4, Option.bind_some]
     cases b1 with
     | false => exact no _
     | true =>
      simp only [Bool.not_true, Bool.not_false, gT, Bool.false_or, e5, Option.bind_some]
      cases b2 with
      | false => exact no _
      | true =>
       simp only [Bool.not_true, Bool.not_false, gT, Bool.false_or, e6, Option.bind_some]
       cases b3 with
       | false => exact no _
       | true =>
        cases lit with
        | false =>
         simp only [Bool.not_true, Bool.not_false, gF, gT, Bool.false_and, Bool.true_and, cond_false, Bool.false_or, e8, Option.bind_some]
         exact ⟨b5, rfl, fun h => ⟨by trivial, by trivial, fun h => by simp at h, fun _ => h⟩⟩
        | true =>
         simp only [Bool.not_true, gF, gT, Bool.true_and, Bool.and_false, Bool.false_and, cond_false, Bool.or_false, e7, Option.bind_some]
         exact ⟨b4, rfl, fun h => ⟨by trivial, by trivial, fun _ => h, fun h => by simp at h⟩⟩
 obtain ⟨b, m1, m2⟩ := main
 refine ⟨b, m1, fun h => ?_⟩
 obtain ⟨n1, n2, n3, n4⟩ := m2 h
 exact ⟨by rw [e4, n1], by rw [e6, n2], fun h => by rw [e7, n3 h], fun h => by rw [e8, n4 h]⟩
theorem nB_le : nB + 1 ≤ 1099511627000 := by unfold nB; omega
theorem drop_cons_facts {α : Type} {L : List α} {i : Nat} {h : α} {r : List α} (hd : L.drop i = h :: r) : L[i]? = some h ∧ L.drop (i + 1) = r ∧ L.take (i + 1) = L.take i ++ [h] := by
 have hil : i < L.length := by
  rcases Nat.lt_or_ge i L.length with c | c
  ·exact c
  ·rw [List.drop_of_length_le c] at hd; cases hd
 have hcons := List.drop_eq_getElem_cons hil
 rw [hd] at hcons
 simp only [List.cons.injEq] at hcons
 have hg : L[i]? = some h := by rw [List.getElem?_eq_getElem hil, ← hcons.1]
 exact ⟨hg, hcons.2.symm, by rw [List.take_add_one, hg]; rfl⟩
end Go.Proofs

namespace Go.Proofs
open Go Go.Ab
end Go.Proofs

namespace Go.Proofs
open Go Go.Ab
theorem closed_spec (l : Sl TInput) (hs : Sl.sz TInput.sz l + 8 ≤ 1048576) : ∃ b, Z17_q l = some b ∧ (b = true → l.l.length ≤ 16 ∧ ∀ x ∈ l.l, x.FHas = true → Z27_q x.FDefault = some true) := by
 unfold Z17_q
 have hsz : (TDoc.mk (⟨false, [(TDef.mk (5 : Int) ([65] : Bs) (Sl.nil : Sl Bs) (Sl.nil : Sl TDir) (Sl.nil : Sl TField) (Sl.nil : Sl TMember) l)]⟩ : Sl TDef)).sz ≤ 1048576 := by
  rw [TDoc.sz_def]
  simp only [Sl.sz, List.map_cons, List.map_nil, List.sum_cons, List.sum_nil]
  rw [TDef.sz_def]
  simp only [Sl.sz, Sl.nil, Bs.sz, List.map_nil, List.sum_nil, List.length_cons, List.length_nil]
  simp only [Sl.sz] at hs
  omega
 obtain ⟨w, e1⟩ := doc_W 300 _ hsz
 obtain ⟨b, e2⟩ := Z42_ok _ hsz
 by_cases h16 : (16 : Int) < ((l.l.length : Nat) : Int)
 ·rw [decide_eq_true h16]; exact ⟨false, rfl, fun h => by cases h⟩
 ·rw [decide_eq_false h16, cond_false, e1, Option.bind_some, e2]
  have hr : b = true → ∀ x ∈ l.l, x.FHas = true → Z27_q x.FDefault = some true := fun h => by
   rw [h] at e2
   exact def_right (doc_right e2 _ (List.mem_singleton.2 rfl))
  cases decide (w ≤ 300) with
  | false => exact ⟨_, rfl, fun h => by simp at h⟩
  | true =>
   by_cases h0 : ((l.l.length : Nat) : Int) = 0
   ·rw [decide_eq_true h0]
    have h0' : l.l = [] := List.eq_nil_of_length_eq_zero (by omega)
    exact ⟨_, rfl, fun _ => ⟨by omega, fun x hx => by rw [h0'] at hx; cases hx⟩⟩
   ·rw [decide_eq_false h0]
    simp only [Bool.not_false, Bool.and_self, gT, Option.bind_some, Bool.true_and, Bool.false_or]
    exact ⟨b, rfl, fun h => ⟨by omega, hr h⟩⟩
end Go.Proofs

namespace Go.Proofs
open Go Go.Ab
def ArgEq (M : Nat) (a b : TArg) : Prop := a.FName = b.FName ∧ Rl M a.FValue b.FValue
def OutG (M : Nat) (p q : Option (Sl TArg ⊕ (Sl TArg × Int))) : Prop :=
 (∃ x y : Sl TArg, p = some (Sum.inl x) ∧ q = some (Sum.inl y) ∧ All2 (ArgEq M) x.l y.l) ∨ (∃ e, p = some (Sum.inr (Sl.nil, e)) ∧ q = some (Sum.inr (Sl.nil, e)))
def fndA (l : List TArg) (s : Bs) : TValue × Bool := match l.find? (fun t => t.FName == s) with | some t => (t.FValue, true) | none => (zv, false)
theorem argument_aux (s : Bs) (l : List TArg) : Z6_q7 s l = (match l.find? (fun t => t.FName == s) with | some t => Sum.inr (t.FValue, true) | none => Sum.inl ()) := by
 induction l with
 | nil => rfl
 | cons a r ih =>
  rw [Z6_q7, List.find?_cons]
  simp only [Ab.on, ih]
  cases a.FName == s <;> rfl
theorem argument_eq (l : Sl TArg) (s : Bs) : Z6_q l s = fndA l.l s := by
 unfold Z6_q fndA
 rw [argument_aux]
 cases l.l.find? (fun t => t.FName == s) <;> rfl
def cntA : List TArg → Bs → Nat
 | [], _ => 0
 | a :: r, s => (bif a.FName == s then 1 else 0) + cntA r s
theorem cntA_zero (l : List TArg) (s : Bs) : cntA l s = 0 ↔ ∀ b ∈ l, b.FName ≠ s := by
 induction l with
 | nil => exact ⟨fun _ b hb => (by cases hb), fun _ => rfl⟩
 | cons a r ih =>
  rw [cntA]
  cases h : a.FName == s with
  | true =>
   have : a.FName = s := by simpa using h
   exact ⟨fun h2 => by simp at h2, fun h2 => (h2 a List.mem_cons_self this).elim⟩
  | false =>
   have hne : a.FName ≠ s := by simpa using h
   rw [cond_false, Nat.zero_add, ih]
   exact ⟨fun h2 b hb => by rcases List.mem_cons.1 hb with rfl | hb; exact hne; exact h2 b hb, fun h2 b hb => h2 b (List.mem_cons_of_mem _ hb)⟩
theorem given_unfold (s : Bs) (a : TArg) (r : List TArg) (c : Int) (v : TValue) : Z61_q9 s (a :: r) c v = Option.bind (bif (a.FName == s) then ((addC c (1 : Int)).bind fun x25 => some (x25, bif decide (c = (0 : Int)) then a.FValue else v)) else (some (c, v))) fun z17 => Z61_q9 s r z17.1 z17.2 := by
 rw [Z61_q9]; rfl
theorem given_aux (s : Bs) {B : Nat} (hB : B ≤ 1099511627776) (l : List TArg) : ∀ (c : Nat) (v : TValue), c + l.length ≤ B → Z61_q9 s l (c : Int) v = some (((c + cntA l s : Nat) : Int), if c = 0 then (match l.find? (fun t => t.FName == s) with | some t => t.FValue | none => v) else v) := by
 induction l with
 | nil => intro c v _; rw [Z61_q9, cntA]; simp
 | cons a r ih =>
  intro c v h
  simp only [List.length_cons] at h
  rw [given_unfold, cntA, List.find?_cons]
  cases e : a.FName == s with
  | true =>
   rw [cond_true, cond_true, addC_ok (by omega), Option.bind_some, Option.bind_some]
   rw [show ((c : Int) + 1) = ((c + 1 : Nat) : Int) by omega, ih (c + 1) _ (by omega)]
   have e2 : c + 1 + cntA r s = c + (1 + cntA r s) := by omega
   rw [e2, if_neg (by omega)]
   by_cases h0 : c = 0
   ·subst h0; simp
   ·rw [if_neg h0, decide_eq_false (by omega)]; rfl
  | false =>
   rw [cond_false, cond_false, Option.bind_some, ih c v (by omega), Nat.zero_add]
theorem given_eq (l : Sl TArg) (s : Bs) (h : l.l.length ≤ 1048576) : ∃ g, Z61_q l s = some (g, ((cntA l.l s : Nat) : Int)) ∧ (fndA l.l s).2 = decide ((0 : Int) < ((cntA l.l s : Nat) : Int)) ∧ ((fndA l.l s).2 = true → g = (fndA l.l s).1 ∧ ∃ a ∈ l.l, g = a.FValue) := by
 unfold Z61_q
 have h1 := given_aux s (B := l.l.length) (by omega) l.l 0 TValue.zero (by omega)
 rw [show (((0 : Nat) : Int)) = (0 : Int) from rfl] at h1
 rw [h1, Nat.zero_add]
 refine ⟨_, rfl, ?_, ?_⟩
 ·unfold fndA
  cases e : l.l.find? (fun t => t.FName == s) with
  | none =>
   have : cntA l.l s = 0 := (cntA_zero _ _).2 fun b hb => by rw [List.find?_eq_none] at e; simpa using e b hb
   rw [this]; rfl
  | some t =>
   have : cntA l.l s ≠ 0 := fun h0 => by
    have h2 := (cntA_zero _ _).1 h0 t (List.mem_of_find?_eq_some e)
    have h3 := List.find?_some e
    exact h2 (by simpa using h3)
   exact (decide_eq_true (by omega)).symm
 ·unfold fndA
  cases e : l.l.find? (fun t => t.FName == s) with
  | none => intro h; cases h
  | some t => intro _; exact ⟨rfl, t, List.mem_of_find?_eq_some e, rfl⟩
def bad1 : List TArg → List TArg → Bool
 | _, [] => false
 | p, x :: r => (p.any fun y => y.FName == x.FName) || bad1 (p ++ [x]) r
theorem fndA_any (l : List TArg) (s : Bs) : (fndA l s).2 = l.any fun y => y.FName == s := by
 unfold fndA
 cases h : l.find? (fun t => t.FName == s) with
 | none => rw [List.find?_eq_none] at h; exact (List.any_eq_false.2 h).symm
 | some t => exact (List.any_eq_true.2 ⟨t, List.mem_of_find?_eq_some h, by simpa using List.find?_some h⟩).symm
theorem args1 (defs : Sl TInput) (L : Sl TArg) : ∀ (r : List TArg) (i : Nat), L.l.drop i = r → Z0_q50 defs L r i = bif ((r.any fun a => !(fndI defs.l a.FName).2) || bad1 (L.l.take i) r) then Sum.inr (Sl.nil, 22) else Sum.inl ()
 | [], i, _ => rfl
 | h :: r, i, hd => by
  obtain ⟨hg, h1, h2⟩ := drop_cons_facts hd
  rw [Z0_q50]
  simp only [Ab.on]
  rw [inputOf_eq, argument_eq, fndA_any, List.any_cons, bad1, args1 defs L r (i + 1) h1, h2]
  cases (fndI defs.l h.FName).2 <;> cases ((L.l.take i).any fun y => y.FName == h.FName) <;> simp
theorem args2 (defs : Sl TInput) (L : Sl TArg) (hL : L.l.length ≤ 1048576) : ∀ (r : List TArg), Z58_q48 defs L r = some (bif ((r.any fun a => !(fndI defs.l a.FName).2) || (r.any fun a => decide (1 < cntA L.l a.FName))) then Sum.inr (Sl.nil, 22) else Sum.inl ())
 | [] => rfl
 | h :: r => by
  rw [Z58_q48]
  obtain ⟨g, e, _⟩ := given_eq L h.FName hL
  simp only [Ab.on]
  rw [r10_inputOf_eq, e, Option.bind_some, args2 defs L hL r, List.any_cons, List.any_cons]
  have : decide ((1 : Int) < ((cntA L.l h.FName : Nat) : Int)) = decide (1 < cntA L.l h.FName) := by
   by_cases h1 : 1 < cntA L.l h.FName
   ·rw [decide_eq_true h1, decide_eq_true (by omega)]
   ·rw [decide_eq_false h1, decide_eq_false (by omega)]
  rw [this]
  cases (fndI defs.l h.FName).2 <;> cases decide (1 < cntA L.l h.FName) <;> simp
theorem bad1_iff : ∀ (r p : List TArg), bad1 p r = false ↔ (∀ x ∈ r, ∀ y ∈ p, y.FName ≠ x.FName) ∧ r.Pairwise fun a b => a.FName ≠ b.FName
 | [], p => by simp [bad1]
 | x :: r, p => by
  rw [bad1, Bool.or_eq_false_iff, bad1_iff r (p ++ [x]), List.pairwise_cons, List.any_eq_false]
  constructor
  ·rintro ⟨h1, h2, h3⟩
   refine ⟨fun z hz y hy => ?_, fun b hb => h2 b hb x (by simp), h3⟩
   rcases List.mem_cons.1 hz with rfl | hz
   ·simpa using h1 y hy
   ·exact h2 z hz y (by simp [hy])
  ·rintro ⟨h1, h2, h3⟩
   refine ⟨fun y hy => by simpa using h1 x List.mem_cons_self y hy, fun z hz y hy => ?_, h3⟩
   rcases List.mem_append.1 hy with hy | hy
   ·exact h1 z (List.mem_cons_of_mem _ hz) y hy
   ·rw [List.mem_singleton.1 hy]; exact h2 z hz
theorem cnt_iff : ∀ (L : List TArg), (∀ x ∈ L, cntA L x.FName ≤ 1) ↔ L.Pairwise fun a b => a.FName ≠ b.FName
 | [] => ⟨fun _ => .nil, fun _ x hx => by cases hx⟩
 | a :: r => by
  rw [List.pairwise_cons, ← cnt_iff r]
  constructor
  ·intro h
   have h1 := h a List.mem_cons_self
   rw [cntA] at h1
   simp only [beq_self_eq_true, cond_true] at h1
   refine ⟨fun b hb e => (cntA_zero r a.FName).1 (by omega) b hb e.symm, fun x hx => ?_⟩
   have h2 := h x (List.mem_cons_of_mem _ hx)
   rw [cntA] at h2; omega
  ·rintro ⟨h1, h2⟩ x hx
   rw [cntA]
   rcases List.mem_cons.1 hx with rfl | hx
   ·have : cntA r x.FName = 0 := (cntA_zero _ _).2 fun b hb e => h1 b hb e.symm
    rw [this]; cases x.FName == x.FName <;> simp
   ·have : (a.FName == x.FName) = false := by simpa using h1 x hx
    rw [this, cond_false, Nat.zero_add]; exact h2 x hx
theorem bad_same (L : List TArg) : bad1 [] L = L.any fun a => decide (1 < cntA L a.FName) := by
 have h : bad1 [] L = false ↔ (L.any fun a => decide (1 < cntA L a.FName)) = false := by
  rw [bad1_iff, List.any_eq_false, ← cnt_iff]
  exact ⟨fun h x hx => (by have := h.2 x hx; simp; omega), fun h => ⟨fun x _ y hy => (by simp at hy), fun x hx => (by have := h x hx; simp at this; omega)⟩⟩
 cases h1 : bad1 [] L <;> cases h2 : (L.any fun a => decide (1 < cntA L a.FName)) <;> simp_all
theorem appC96 {α : Type} {s r : Sl α} (h : s.l.length + r.l.length ≤ 1099511627776) : appC 96 s r = some ⟨s.nl && r.l.isEmpty, s.l ++ r.l⟩ := by
 unfold appC; rw [if_pos]
 have : (s.l.length + r.l.length) * 96 ≤ 1099511627776 * 96 := Nat.mul_le_mul_right _ h
 unfold maxN; omega
def finA (e : Int) (z : TValue) (x : Sl TArg) (nm : Bs) (k : Sl TArg → Option (Sl TArg ⊕ (Sl TArg × Int))) : Option (Sl TArg ⊕ (Sl TArg × Int)) :=
 bif (!decide (e = (0 : Int))) then (some (Sum.inr (Sl.nil, e))) else ((appC 96 x (⟨false, [TArg.mk nm z]⟩ : Sl TArg)).bind k)
theorem finA_stop {e : Int} {z z' : TValue} {x y : Sl TArg} {nm : Bs} {k k' : Sl TArg → Option (Sl TArg ⊕ (Sl TArg × Int))} {M : Nat} (he : e ≠ 0) : OutG M (finA e z x nm k) (finA e z' y nm k') := by
 unfold finA
 rw [decide_eq_false he, Bool.not_false, cond_true, cond_true]
 exact .inr ⟨e, rfl, rfl⟩
theorem finA_rel {M : Nat} {e : Int} {r r' : TValue} {x y : Sl TArg} {nm : Bs} {k k' : Sl TArg → Option (Sl TArg ⊕ (Sl TArg × Int))} (hx : All2 (ArgEq M) x.l y.l) (hb : x.l.length ≤ 1048576) (hr : Rl M r r')
  (hrec : ∀ (x' y' : Sl TArg), All2 (ArgEq M) x'.l y'.l → x'.l.length = x.l.length + 1 → OutG M (k x') (k' y')) : OutG M (finA e r x nm k) (finA e r' y nm k') := by
 by_cases he : e = 0
 ·subst he
  have hl := hx.length
  unfold finA
  simp only [decide_true, Bool.not_true, cond_false]
  rw [appC96 (by simp; omega), appC96 (by simp; omega), Option.bind_some, Option.bind_some]
  exact hrec _ _ (hx.append (.cons ⟨rfl, hr⟩ .nil)) (by show (x.l ++ [_]).length = _; simp)
 ·exact finA_stop he
theorem aC_unfold (d : TDoc) (defs : Sl TInput) (L : Sl TArg) (va : TValue) (h : TInput) (r : List TInput) (i : Nat) (x : Sl TArg) :
  Z0_q11 d defs L va (h :: r) i x = bif (Z71_q (⟨defs.nl, defs.l.take i⟩ : Sl TInput) h.FName).2 then (Z0_q11 d defs L va r (i + 1) x) else
   (guardO ((Z6_q L h.FName).2) (Z10_q ⟨d, va, true, 0⟩ (Z6_q L h.FName).1) false fun m =>
    bif ((Z6_q L h.FName).2 && (!m)) then ((Z2_q d h.FType (Z6_q L h.FName).1 va).bind fun o => finA o.2 o.1 x h.FName (Z0_q11 d defs L va r (i + 1)))
    else (bif h.FHas then ((Z2_q d h.FType h.FDefault zv).bind fun o => finA o.2 o.1 x h.FName (Z0_q11 d defs L va r (i + 1)))
    else (bif Z89_q h.FType then (finA (22 : Int) (Z6_q L h.FName).1 x h.FName (Z0_q11 d defs L va r (i + 1))) else (Z0_q11 d defs L va r (i + 1) x)))) := by
 rw [Z0_q11]; rfl
theorem aR_unfold (d : TDoc) (defs : Sl TInput) (L : Sl TArg) (va : TValue) (h : TInput) (r : List TInput) (i : Nat) (x : Sl TArg) :
  Z58_q10 d defs L va (h :: r) i x = (Z60_q defs ((i : Nat) : Int)).bind fun x23 => bif x23 then (Z58_q10 d defs L va r (i + 1) x) else
   ((Z61_q L h.FName).bind fun g => guardO (decide ((0 : Int) < g.2)) (Z64_q ⟨d, va, true, 0, 0⟩ g.1) false fun m =>
    bif (decide ((0 : Int) < g.2) && (!m)) then ((Z59_q d h.FType g.1 va).bind fun o => finA o.2 o.1 x h.FName (Z58_q10 d defs L va r (i + 1)))
    else (bif h.FHas then ((Z59_q d h.FType h.FDefault zv).bind fun o => finA o.2 o.1 x h.FName (Z58_q10 d defs L va r (i + 1)))
    else (bif (!Z38_q h.FType) then (Z58_q10 d defs L va r (i + 1) x) else (finA (22 : Int) TValue.zero x h.FName (Z58_q10 d defs L va r (i + 1)))))) := by
 rw [Z58_q10]; rfl
theorem args_loop {N : Nat} {d : TDoc} (hN : N + 1 ≤ 1099511627000) (hD : ∀ s, DefOk N (fnd d.FDefs.l s).1) {va : TValue} (hva : Rl (N + 1) va va) {defs : Sl TInput} (hdl : defs.l.length ≤ 1048576) (hdf : ∀ x ∈ defs.l, InOk N x)
  {L : Sl TArg} (hl : L.l.length ≤ 1048576) (hL : ∀ a ∈ L.l, Rl N a.FValue a.FValue) :
  ∀ (l : List TInput) (i : Nat) (x y : Sl TArg), defs.l.drop i = l → All2 (ArgEq (N + 25)) x.l y.l → x.l.length + l.length ≤ 1048576 → OutG (N + 25) (Z0_q11 d defs L va l i x) (Z58_q10 d defs L va l i y) := by
 intro l
 induction l with
 | nil => intro i x y _ hx _; exact .inl ⟨x, y, rfl, rfl, hx⟩
 | cons h r ih =>
  intro i x y hd hx hb
  simp only [List.length_cons] at hb
  obtain ⟨hget, hr, _⟩ := drop_cons_facts hd
  have hin : InOk N h := hdf h (List.mem_of_getElem? hget)
  have skip := ih (i + 1) x y hr hx (by omega)
  have hrec : ∀ (x' y' : Sl TArg), All2 (ArgEq (N + 25)) x'.l y'.l → x'.l.length = x.l.length + 1 → OutG (N + 25) (Z0_q11 d defs L va r (i + 1) x') (Z58_q10 d defs L va r (i + 1) y') :=
   fun x' y' h1 h2 => ih (i + 1) x' y' hr h1 (by omega)
  obtain ⟨g, e1, e2, e3⟩ := given_eq L h.FName hl
  rw [aC_unfold, aR_unfold, earlier_eq defs i h hget hdl, inputOf_eq, Option.bind_some, argument_eq, e1, Option.bind_some]
  simp only
  rw [← e2]
  cases (fndI (defs.l.take i) h.FName).2 with
  | true => simp only [cond_true]; exact skip
  | false =>
   simp only [cond_false]
   have rest : OutG (N + 25) (bif h.FHas then ((Z2_q d h.FType h.FDefault zv).bind fun o => finA o.2 o.1 x h.FName (Z0_q11 d defs L va r (i + 1)))
    else (bif Z89_q h.FType then (finA (22 : Int) (fndA L.l h.FName).1 x h.FName (Z0_q11 d defs L va r (i + 1))) else (Z0_q11 d defs L va r (i + 1) x)))
     (bif h.FHas then ((Z59_q d h.FType h.FDefault zv).bind fun o => finA o.2 o.1 y h.FName (Z58_q10 d defs L va r (i + 1)))
    else (bif (!Z38_q h.FType) then (Z58_q10 d defs L va r (i + 1) y) else (finA (22 : Int) TValue.zero y h.FName (Z58_q10 d defs L va r (i + 1))))) := by
    cases hh2 : h.FHas with
    | true =>
     simp only [cond_true]
     obtain ⟨p, q, e, i1, i2, i3⟩ := literal_rel (va := zv) hN hD (zv_rl.mono (by omega)) hin.1 (hin.2 hh2)
     rw [i1, i2]
     simp only [Option.bind_some]
     exact finA_rel hx (by omega) i3 hrec
    | false =>
     simp only [cond_false]
     have hnn : Z89_q h.FType = Z38_q h.FType := rfl
     rw [hnn]
     cases Z38_q h.FType with
     | true => simp only [cond_true, Bool.not_true, cond_false]; exact finA_stop (by decide)
     | false => simp only [cond_false, Bool.not_false, cond_true]; exact skip
   cases hf : (fndA L.l h.FName).2 with
   | false => simp only [gF, Bool.false_and, cond_false]; exact rest
   | true =>
    obtain ⟨hg, a, ha, hga⟩ := e3 hf
    have hgr : Rl N g g := by rw [hga]; exact hL a ha
    rw [← hg]
    obtain ⟨m, m1, m2⟩ := missing_eq hva (by omega) d true 0 hgr
    simp only [gT, m1, m2, Option.bind_some, Bool.true_and]
    cases m with
    | true => simp only [Bool.not_true, cond_false]; rw [hg]; exact rest
    | false =>
     simp only [Bool.not_false, cond_true]
     obtain ⟨p, q, e, i1, i2, i3⟩ := literal_rel (va := va) hN hD hva hin.1 hgr
     rw [i1, i2]
     simp only [Option.bind_some]
     exact finA_rel hx (by omega) i3 hrec
theorem args_rel {N : Nat} {d : TDoc} (hN : N + 1 ≤ 1099511627000) (hD : ∀ s, DefOk N (fnd d.FDefs.l s).1) {va : TValue} (hva : Rl (N + 1) va va) {defs : Sl TInput} (hdl : defs.l.length ≤ 1048576) (hdf : ∀ x ∈ defs.l, InOk N x)
  {L : Sl TArg} (hl : L.l.length ≤ 1048576) (hL : ∀ a ∈ L.l, Rl N a.FValue a.FValue) :
  ∃ (x y : Sl TArg) (e : Int), Z0_q d defs L va = some (x, e) ∧ Z58_q d defs L va = some (y, e) ∧ All2 (ArgEq (N + 25)) x.l y.l := by
 unfold Z0_q Z58_q
 rw [args1 defs L L.l 0 List.drop_zero, args2 defs L hl, List.take_zero, bad_same]
 simp only [Option.bind_some, Ab.on]
 cases ((L.l.any fun a => !(fndI defs.l a.FName).2) || L.l.any fun a => decide (1 < cntA L.l a.FName)) with
 | true => exact ⟨Sl.nil, Sl.nil, 22, rfl, rfl, .nil⟩
 | false =>
  simp only [cond_false]
  rcases args_loop hN hD hva hdl hdf hl hL defs.l 0 Sl.nil Sl.nil List.drop_zero .nil (by show 0 + _ ≤ _; omega) with ⟨x, y, p1, p2, p3⟩ | ⟨e, p1, p2⟩
  ·rw [p1, p2]; exact ⟨x, y, 0, rfl, rfl, p3⟩
  ·rw [p1, p2]; exact ⟨Sl.nil, Sl.nil, e, rfl, rfl, .nil⟩
theorem lawArgs_cmp (p q : Sl TArg × Int) (M : Nat) (hM : M ≤ 1099511627776) (h : All2 (ArgEq M) p.1.l q.1.l) : ∀ (n i : Nat), i ≤ p.1.l.length → p.1.l.length < i + n → Z16_l22 p q n i = some true := by
 intro n
 induction n with
 | zero => intro i _ h; omega
 | succ n ih =>
  intro i hi hn
  rw [Z16_l22]
  by_cases hlt : i < p.1.l.length
  ·obtain ⟨b, hb, hab⟩ := h.get (List.getElem?_eq_getElem hlt)
   rw [Q.ltT hlt, cond_true, List.getElem?_eq_getElem hlt, hb]
   simp only [Option.bind_some]
   rw [hab.1]
   simp only [beq_self_eq_true, Bool.not_true, Bool.not_false, gT, Option.bind_some, Bool.or_false, cond_false]
   rw [Z34_eq, equal_eq hab.2 hM, Option.bind_some]
   exact ih (i + 1) (by omega) (by omega)
  ·rw [Q.ltF hlt, cond_false]
   unfold Z16_j18
   rw [example12]; rfl
theorem lawArgs_loop (c : Supergraphlaw12_Case) (defs : Sl TInput) (L : Sl TArg) (hL : ∀ a ∈ L.l, a.FValue.sz ≤ 1048576) (hj : (∀ a ∈ L.l, Z27_q a.FValue = some true) → Z16_j9 c defs L = some true) :
  ∀ (n i : Nat), i ≤ L.l.length → L.l.length < i + n → (∀ a ∈ L.l.take i, Z27_q a.FValue = some true) → Z16_l38 c defs L n i = some true := by
 intro n
 induction n with
 | zero => intro i _ h; omega
 | succ n ih =>
  intro i hi hn ha
  rw [Z16_l38]
  by_cases hlt : i < L.l.length
  ·have hs := hL _ (List.getElem_mem hlt)
   obtain ⟨w, e1, _⟩ := value_W 300 _ hs
   obtain ⟨b, e2⟩ := Z27_ok _ hs
   rw [Q.ltT hlt, cond_true, List.getElem?_eq_getElem hlt]
   simp only [Option.bind_some]
   rw [Z35_eq, e1, Option.bind_some]
   cases decide ((300 : Int) < w) with
   | true => simp only [Bool.not_true, gF, Bool.true_or, cond_true]; rw [example12]; rfl
   | false =>
    simp only [Bool.not_false, gT, Option.bind_some, Bool.false_or]
    rw [Z27_eq, e2, Option.bind_some]
    cases b with
    | false => simp only [Bool.not_false, cond_true]; rw [example12]; rfl
    | true =>
     simp only [Bool.not_true, cond_false]
     refine ih (i + 1) (by omega) (by omega) fun a hm => ?_
     rw [List.take_add_one, List.getElem?_eq_getElem hlt] at hm
     rcases List.mem_append.1 hm with hm | hm
     ·exact ha a hm
     ·rw [List.mem_singleton.1 hm]; exact e2
  ·rw [Q.ltF hlt, cond_false]
   refine hj fun a hm => ha a ?_
   rw [List.take_of_length_le (by omega)]; exact hm
theorem args_eq (c : Supergraphlaw12_Case) (defs : Sl TInput) (L : Sl TArg) (hs : c.sz + Sl.sz TInput.sz defs + Sl.sz TArg.sz L ≤ 1048576) (hw : c.wf) (hdw : Sl.wf TInput.wf defs) (hlw : Sl.wf TArg.wf L) : Z16 c defs L = some true := by
 have hz := c.sz_def
 have hp1 := c.FT.pos; have hp2 := c.FV.sz_def; have hp3 := c.FVars.sz_def; have hp4 := c.FD.pos
 have q1 := Bs.sz_pos c.FV.FText; have q2 := Sl.sz_pos TValue.sz c.FV.FItems; have q3 := Sl.sz_pos Bs.sz c.FV.FKeys
 have q4 := Bs.sz_pos c.FVars.FText; have q5 := Sl.sz_pos TValue.sz c.FVars.FItems; have q6 := Sl.sz_pos Bs.sz c.FVars.FKeys
 have q7 := Sl.sz_pos TInput.sz defs; have q8 := Sl.sz_pos TArg.sz L
 have hdl := Sl.len_le (f := TInput.sz) defs (fun x => x.pos)
 have hll := Sl.len_le (f := TArg.sz) L (fun x => x.pos)
 unfold Z16
 obtain ⟨b, e, hb⟩ := right_spec c true (by omega)
 rw [Z19_eq, e, Option.bind_some, Z17_eq]
 cases b with
 | false => rw [Bool.not_false, Bool.not_true, gF, Bool.true_or, Bool.true_or, cond_true, example12]; rfl
 | true =>
  obtain ⟨b2, e2, hb2⟩ := closed_spec defs (by omega)
  rw [e2]
  simp only [Bool.not_true, Bool.not_false, gT, Option.bind_some, Bool.false_or]
  cases b2 with
  | false => rw [Bool.not_false, Bool.true_or, cond_true, example12]; rfl
  | true =>
   rw [Bool.not_true, Bool.false_or]
   cases decide ((20 : Int) < ((L.l.length : Nat) : Int)) with
   | true => rw [cond_true, example12]; rfl
   | false =>
    rw [cond_false]
    obtain ⟨h1, h2, h3, _⟩ := hb rfl
    obtain ⟨h4, h5⟩ := hb2 rfl
    have hv : ∀ a ∈ L.l, a.FValue.sz ≤ 1048576 := fun a ha => by have := Sl.mem_le (f := TArg.sz) ha; have := a.sz_def; omega
    refine lawArgs_loop c defs L hv (fun hlit => ?_) _ 0 (by omega) (by omega) fun a ha => by simp at ha
    unfold Z16_j9
    obtain ⟨x, y, e, p1, p2, p3⟩ := args_rel (N := nB) nB_le (doc_ok h1 hw.1 (by omega)) ((right_rl h2 hw.2.2.2.1 (by omega)).mono (Nat.le_succ _)) (by omega)
     (fun x hx => inOk_of (h5 x hx) (hdw.2.2 x hx) (by have := Sl.mem_le (f := TInput.sz) hx; omega)) (by omega) (fun a ha => literal_rl (hlit a ha) (TArg.FValue_wf (hlw.2.2 a ha)) (hv a ha))
    rw [Z0_eq, Z58_eq, p1, p2, Option.bind_some, Option.bind_some]
    simp only [decide_true, Bool.not_true, Bool.false_or, p3.length, cond_false]
    have h9 := lawArgs_cmp (x, e) (y, e) (nB + 25) (by unfold nB; omega) p3 (x.l.length + 1) 0 (by omega) (by show x.l.length < _; omega)
    rw [p3.length] at h9
    exact h9
end Go.Proofs

namespace Go.Proofs.YtjlggcgmmpopmaaGreatDoor
open Go Go.Ab Go.RowKit Go.ChangeShapes Go.WideShapes Go.ChangeAt
theorem bulkAll {H : Type} (l : List (DataW H)) : Rows.uptoBulkAll l = (l.map Rows.uptoBulk).sum := by
 induction l with
 | nil => rfl
 | cons x r ih => simp only [Rows.uptoBulkAll, List.map_cons, List.sum_cons, ih]
theorem bulkB {H : Type} : Bulk (H := H) Rows.uptoBulk := by
 refine ⟨fun d => ?_, fun b => by simp [Rows.uptoBulk], fun e s => by simp only [Rows.uptoBulk, bulkAll]; omega, fun l => by simp only [Rows.uptoBulk, bulkAll]; omega⟩
 cases d with
 | lit l => cases l <;> simp [Rows.uptoBulk]
 | nil => simp [Rows.uptoBulk]
 | ptr d => simp [Rows.uptoBulk]
 | slice elems spare => simp [Rows.uptoBulk]
 | agg parts => simp [Rows.uptoBulk]
 | iface t d => simp [Rows.uptoBulk]
 | map entries => simp [Rows.uptoBulk]
 | held h => simp [Rows.uptoBulk]
theorem own : ownKnob Tryz.prog.godebug = none := by kernel_rfl
theorem laid : laidOutB Tryz.prog = true := by kernel_rfl
theorem bound {H : Type} {l : List (DataW H)} (hk : Rows.uptoSmall H l = true) : Rows.uptoBulkAll l ≤ 1048576 := of_decide_eq_true hk
theorem table {W : World} (h : laidMet Tryz.prog Rows.coerceLiteralsUptoRow.laid W) : ∃ u fr, W.heap[1]? = some (.cells (Lib.pow10Tab.map fun z => Value.int .u64 z).toArray u fr) :=
 tab_of (P := Tryz.prog) (name := "internal/strconv.uint64pow10") (g := 1) (t := 168) (e := 161) (n := 20) (by kernel_rfl) (by kernel_rfl) (by kernel_rfl) (by kernel_rfl) (by kernel_rfl) (by kernel_rfl) h
  (by rw [show (Lib.tabData .u64 Lib.pow10Tab : DataW Unit) = Rows.laid_internal_strconv_uint64pow10 from (by kernel_rfl)]; exact .tail _ (.tail _ (.head _)))
theorem isTab (u : TypeId) (fr : Nat × Nat) : IsTab Tryz.prog (.fix 1 (.cells (Lib.pow10Tab.map fun z => Value.int .u64 z).toArray u fr)) := .of (by kernel_rfl)
theorem args_call (c : Supergraphlaw12_Case) (l : Sl TInput) (L : Sl TArg) (hs : c.sz + Sl.sz TInput.sz l + Sl.sz TArg.sz L ≤ 1048576) (hw : c.wf) (hl : Sl.wf TInput.wf l) (hL : Sl.wf TArg.wf L) (u : TypeId) (fr : Nat × Nat) : ACalls Tryz.prog 5 [.agg c.c, .d (Sl.d 10 TInput.c none l), .d (Sl.d 6 TArg.c none L)] (hTab 1 (.cells (Lib.pow10Tab.map fun z => Value.int .u64 z).toArray u fr)) fun r h' => r = .a (.d (.bool true)) ∧ h' = hTab 1 (.cells (Lib.pow10Tab.map fun z => Value.int .u64 z).toArray u fr) :=
 Z16_walk (args_eq c l L hs hw hl hL) _ (gT := 0) rfl (isTab u fr)
end Go.Proofs.YtjlggcgmmpopmaaGreatDoor

