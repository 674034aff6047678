import Derived.Test.YtjghdpblmakljaaGreatV11
set_option maxRecDepth 100000
set_option maxHeartbeats 2000000
set_option linter.unusedVariables false
set_option linter.unusedSimpArgs false
namespace Go.Proofs
open Go Go.Ab
theorem Z35_loop (a : TRef) (ha : a.FWraps.l.length ≤ 1048576) (l : List Int) (i : Nat) (h : i + l.length = a.FWraps.l.length) : Ok (Z35_q10 a l i) := by
 induction l generalizing i with
 | nil => exact Tot.some _
 | cons x r ih =>
  simp only [List.length_cons] at h
  have hr := ih (i + 1) (by omega)
  rw [Z35_q10]
  simp only [on]
  refine Tot.cond (fun _ => Tot.some _) fun _ => ?_
  by_cases hi : 0 < i
  ·have h1 : decide ((0 : Int) < ((i : Nat) : Int)) = true := by simpa using hi
   obtain ⟨v, hv⟩ := idxC_ok (l := a.FWraps.l) (n := (i : Int) - 1) (by omega)
   simp only [h1, cond_true, Bool.true_and, subC_ok (a := (i : Int)) (b := 1) (by omega)]
   cases decide (x = 1) <;> simp only [guardO, hv, if_true, Option.bind_some, Bool.false_eq_true, if_false, Bool.false_and, cond_false]
   ·exact hr
   ·(repeat' (first | exact Tot.some _ | assumption | (with_reducible refine Tot.bind ?_ fun _ _ => ?_) | (with_reducible refine Tot.guard (fun _ => ?_) fun _ _ _ => ?_) | (with_reducible refine Tot.cond (fun _ => ?_) fun _ => ?_) | (with_reducible refine Tot.on fun _ _ => ?_) | split))
  ·have h1 : decide ((0 : Int) < ((i : Nat) : Int)) = false := by simpa using hi
   simp only [h1, Bool.false_and, guardO, Bool.false_eq_true, if_false, cond_false]
   exact hr
theorem Z35_ok (a : TRef) (ha : a.FWraps.l.length ≤ 1048576) : Ok (Z35_q a) := by
 unfold Z35_q
 (repeat' (first | exact Tot.some _ | assumption | (with_reducible refine Tot.bind ?_ fun _ _ => ?_) | (with_reducible refine Tot.guard (fun _ => ?_) fun _ _ _ => ?_) | (with_reducible refine Tot.cond (fun _ => ?_) fun _ => ?_) | (with_reducible refine Tot.on fun _ _ => ?_) | split))
 exact Z35_loop a ha _ _ (by simp)
theorem Z25_loop (k : TValue → Option Int) (l : List TValue) (s : Int) (hk : ∀ x ∈ l, ∃ r, k x = some r ∧ 1 ≤ r ∧ r ≤ x.sz) (hs : 0 ≤ s) (hb : s + ((l.map TValue.sz).sum : Nat) ≤ 1152921504606846976) : ∃ r, Z25_q7 k l s = some r ∧ s ≤ r ∧ r ≤ s + ((l.map TValue.sz).sum : Nat) := by
 induction l generalizing s with
 | nil => exact ⟨s, rfl, by simp, by simp⟩
 | cons x r ih =>
  obtain ⟨v, h1, h2, h3⟩ := hk x List.mem_cons_self
  simp only [List.map_cons, List.sum_cons] at hb ⊢
  rw [Z25_q7]
  simp only [on, h1, Option.bind_some]
  rw [addC_ok (by omega)]
  simp only [Option.bind_some]
  obtain ⟨w, h4, h5, h6⟩ := ih (s + v) (fun y hy => hk y (List.mem_cons_of_mem _ hy)) (by omega) (by omega)
  exact ⟨w, h4, by omega, by omega⟩
theorem TValue.item_lt {v x : TValue} (h : x ∈ v.FItems.l) : x.sz < v.sz := by
 have h1 := v.sz_def; have h2 := Sl.mem_le (f := TValue.sz) h; omega
theorem TValue.items_sum (v : TValue) : 2 + (v.FItems.l.map TValue.sz).sum ≤ v.sz := by
 have h1 := v.sz_def; have h2 : Sl.sz TValue.sz v.FItems = 1 + (v.FItems.l.map TValue.sz).sum := rfl; omega
theorem Z25_tot (n : Nat) : ∀ v : TValue, v.sz < n → v.sz ≤ 1073741824 → ∃ r, Z25_qn n v = some r ∧ 1 ≤ r ∧ r ≤ v.sz := by
 induction n with
 | zero => intro v h; omega
 | succ n ih =>
  intro v h hb
  have h0 := v.items_sum
  obtain ⟨w, h4, h5, h6⟩ := Z25_loop (Z25_qn n) v.FItems.l 1 (fun x hx => by have := TValue.item_lt hx; exact ih x (by omega) (by omega)) (by omega) (by omega)
  rw [Z25_qn, h4]
  exact ⟨w, rfl, by omega, by omega⟩
theorem Z25_ok (v : TValue) (h : v.sz ≤ 1048576) : ∃ r, Z25_q v = some r ∧ 1 ≤ r ∧ r ≤ v.sz := Z25_tot F0 v (by rw [F0_eq]; omega) (by omega)
theorem Z23_loop (k : TValue → Option Int) (l : List TValue) (s b : Int) (hk : ∀ x ∈ l, ∃ r, k x = some r ∧ 1 ≤ r ∧ r ≤ b) (hs : 0 ≤ s ∧ s ≤ b) : ∃ r, Z23_q8 k l s = some r ∧ 0 ≤ r ∧ r ≤ b := by
 induction l generalizing s with
 | nil => exact ⟨s, rfl, by omega, by omega⟩
 | cons x r ih =>
  obtain ⟨v, h1, h2, h3⟩ := hk x List.mem_cons_self
  rw [Z23_q8]
  simp only [on, h1, Option.bind_some]
  exact ih _ (fun y hy => hk y (List.mem_cons_of_mem _ hy)) (by split <;> omega)
theorem Z23_tot (n : Nat) : ∀ v : TValue, v.sz < n → v.sz ≤ 1073741824 → ∃ r, Z23_qn n v = some r ∧ 1 ≤ r ∧ r ≤ v.sz := by
 induction n with
 | zero => intro v h; omega
 | succ n ih =>
  intro v h hb
  have h0 := v.items_sum
  obtain ⟨w, h4, h5, h6⟩ := Z23_loop (Z23_qn n) v.FItems.l 0 (v.sz - 1 : Nat) (fun x hx => by have := TValue.item_lt hx; obtain ⟨r, h7, h8, h9⟩ := ih x (by omega) (by omega); exact ⟨r, h7, h8, by omega⟩) (by omega)
  rw [Z23_qn, h4]
  simp only [on, Option.bind_some]
  rw [addC_ok (by omega)]
  exact ⟨w + 1, rfl, by omega, by omega⟩
theorem Z23_ok (v : TValue) (h : v.sz ≤ 1048576) : Ok (Z23_q v) := by
 obtain ⟨r, hr, _⟩ := Z23_tot F0 v (by rw [F0_eq]; omega) (by omega); exact ⟨r, hr⟩
theorem Z27_in (a : Sl Bs) (x : Bs) (m i : Nat) (h : i + m ≤ a.l.length) : Ok (Z27_q13 a x m i) := by
 induction m generalizing i with
 | zero => exact Tot.some _
 | succ m ih =>
  rw [Z27_q13]
  (repeat' (first | exact Tot.some _ | assumption | (with_reducible refine Tot.bind ?_ fun _ _ => ?_) | (with_reducible refine Tot.guard (fun _ => ?_) fun _ _ _ => ?_) | (with_reducible refine Tot.cond (fun _ => ?_) fun _ => ?_) | (with_reducible refine Tot.on fun _ _ => ?_) | split))
  ·exact get_ok (by omega)
  ·exact ih _ (by omega)
theorem Z27_out (a : Sl Bs) (l : List Bs) (i : Nat) (h : i + l.length = a.l.length) : Ok (Z27_q5 a l i) := by
 induction l generalizing i with
 | nil => exact Tot.some _
 | cons x r ih =>
  simp only [List.length_cons] at h
  rw [Z27_q5]
  (repeat' (first | exact Tot.some _ | assumption | (with_reducible refine Tot.bind ?_ fun _ _ => ?_) | (with_reducible refine Tot.guard (fun _ => ?_) fun _ _ _ => ?_) | (with_reducible refine Tot.cond (fun _ => ?_) fun _ => ?_) | (with_reducible refine Tot.on fun _ _ => ?_) | split))
  ·exact Z27_in a x _ _ (by omega)
  ·exact ih _ (by omega)
theorem Z27_ok (a : Sl Bs) : Ok (Z27_q a) := by
 unfold Z27_q
 (repeat' (first | exact Tot.some _ | assumption | (with_reducible refine Tot.bind ?_ fun _ _ => ?_) | (with_reducible refine Tot.guard (fun _ => ?_) fun _ _ _ => ?_) | (with_reducible refine Tot.cond (fun _ => ?_) fun _ => ?_) | (with_reducible refine Tot.on fun _ _ => ?_) | split))
 exact Z27_out a _ _ (by simp)
theorem Z26_ok (v : TValue) (b : Bool) : Ok (Z26_q v b) := by
 unfold Z26_q
 (repeat' (first | exact Tot.some _ | assumption | (with_reducible refine Tot.bind ?_ fun _ _ => ?_) | (with_reducible refine Tot.guard (fun _ => ?_) fun _ _ _ => ?_) | (with_reducible refine Tot.cond (fun _ => ?_) fun _ => ?_) | (with_reducible refine Tot.on fun _ _ => ?_) | split))
 exact Z27_ok _
theorem Z28_loop (b : Bool) (k : TValue → Bool → Option Bool) (l : List TValue) (hk : ∀ x ∈ l, Ok (k x b)) : Ok (Z28_q11 b k l) := by
 induction l with
 | nil => exact Tot.some _
 | cons x r ih =>
  rw [Z28_q11]
  (repeat' (first | exact Tot.some _ | assumption | (with_reducible refine Tot.bind ?_ fun _ _ => ?_) | (with_reducible refine Tot.guard (fun _ => ?_) fun _ _ _ => ?_) | (with_reducible refine Tot.cond (fun _ => ?_) fun _ => ?_) | (with_reducible refine Tot.on fun _ _ => ?_) | split))
  ·rename_i h; rw [h]; exact hk x List.mem_cons_self
  ·exact ih fun y hy => hk y (List.mem_cons_of_mem _ hy)
theorem Z28_tot (n : Nat) : ∀ (v : TValue) (b : Bool), v.sz < n → Ok (Z28_qn n v b) := by
 induction n with
 | zero => intro v b h; omega
 | succ n ih =>
  intro v b h
  rw [Z28_qn]
  (repeat' (first | exact Tot.some _ | assumption | (with_reducible refine Tot.bind ?_ fun _ _ => ?_) | (with_reducible refine Tot.guard (fun _ => ?_) fun _ _ _ => ?_) | (with_reducible refine Tot.cond (fun _ => ?_) fun _ => ?_) | (with_reducible refine Tot.on fun _ _ => ?_) | split))
  ·exact Z26_ok _ _
  ·exact Z28_loop b _ _ fun x hx => ih x b (by have := TValue.item_lt hx; omega)
theorem Z24_ok (v : TValue) (h : v.sz ≤ 1048576) : Ok (Z24_q v) := by
 unfold Z24_q
 obtain ⟨r, hr, _⟩ := Z25_ok v h
 (repeat' (first | exact Tot.some _ | assumption | (with_reducible refine Tot.bind ?_ fun _ _ => ?_) | (with_reducible refine Tot.guard (fun _ => ?_) fun _ _ _ => ?_) | (with_reducible refine Tot.cond (fun _ => ?_) fun _ => ?_) | (with_reducible refine Tot.on fun _ _ => ?_) | split))
 ·exact ⟨r, hr⟩
 ·exact Z23_ok v h
 ·exact Z28_tot F0 v true (by rw [F0_eq]; omega)
theorem Z41_loop (k : TValue → Option Bool) (l : List TValue) (hk : ∀ x ∈ l, Ok (k x)) : Ok (Z41_q5 k l) := by
 induction l with
 | nil => exact Tot.some _
 | cons x r ih =>
  rw [Z41_q5]
  (repeat' (first | exact Tot.some _ | assumption | (with_reducible refine Tot.bind ?_ fun _ _ => ?_) | (with_reducible refine Tot.guard (fun _ => ?_) fun _ _ _ => ?_) | (with_reducible refine Tot.cond (fun _ => ?_) fun _ => ?_) | (with_reducible refine Tot.on fun _ _ => ?_) | split))
  ·rename_i h; rw [h]; exact hk x List.mem_cons_self
  ·exact ih fun y hy => hk y (List.mem_cons_of_mem _ hy)
theorem Z41_tot (n : Nat) : ∀ (v : TValue), v.sz < n → Ok (Z41_qn n v) := by
 induction n with
 | zero => intro v h; omega
 | succ n ih =>
  intro v h
  rw [Z41_qn]
  (repeat' (first | exact Tot.some _ | assumption | (with_reducible refine Tot.bind ?_ fun _ _ => ?_) | (with_reducible refine Tot.guard (fun _ => ?_) fun _ _ _ => ?_) | (with_reducible refine Tot.cond (fun _ => ?_) fun _ => ?_) | (with_reducible refine Tot.on fun _ _ => ?_) | split))
  exact Z41_loop _ _ fun x hx => ih x (by have := TValue.item_lt hx; omega)
theorem Z41_ok (v : TValue) (h : v.sz ≤ 1048576) : Ok (Z41_q v) := Z41_tot F0 v (by rw [F0_eq]; omega)
theorem TArg.value_le (a : TArg) : a.FValue.sz ≤ a.sz := by have := a.sz_def; omega
theorem TDir.arg_le {x : TDir} {a : TArg} (h : a ∈ x.FArgs.l) : a.sz ≤ x.sz := by have := x.sz_def; have := Sl.mem_le (f := TArg.sz) h; omega
theorem Z43_in (h10 : TDir) (l : List TArg) (h : ∀ a ∈ l, a.sz ≤ 1048576) : Ok (Z43_q25 h10 l) := by
 induction l with
 | nil => exact Tot.some _
 | cons x r ih =>
  have h1 := h x List.mem_cons_self; have h2 := x.value_le
  rw [Z43_q25]
  (repeat' (first | exact Tot.some _ | assumption | (with_reducible refine Tot.bind ?_ fun _ _ => ?_) | (with_reducible refine Tot.guard (fun _ => ?_) fun _ _ _ => ?_) | (with_reducible refine Tot.cond (fun _ => ?_) fun _ => ?_) | (with_reducible refine Tot.on fun _ _ => ?_) | split))
  all_goals first | exact ih fun y hy => h y (List.mem_cons_of_mem _ hy) | (subst_vars; first | exact Z24_ok _ (by omega) | exact Z41_ok _ (by omega))
theorem Z43_loop (l : List TDir) (h : ∀ a ∈ l, a.sz ≤ 1048576) : Ok (Z43_q10 l) := by
 induction l with
 | nil => exact Tot.some _
 | cons x r ih =>
  have h1 := h x List.mem_cons_self
  rw [Z43_q10]
  (repeat' (first | exact Tot.some _ | assumption | (with_reducible refine Tot.bind ?_ fun _ _ => ?_) | (with_reducible refine Tot.guard (fun _ => ?_) fun _ _ _ => ?_) | (with_reducible refine Tot.cond (fun _ => ?_) fun _ => ?_) | (with_reducible refine Tot.on fun _ _ => ?_) | split))
  ·exact Z43_in x _ fun a ha => by have := TDir.arg_le ha; omega
  ·exact ih fun y hy => h y (List.mem_cons_of_mem _ hy)
theorem Z43_ok (s : Sl TDir) (h : Sl.sz TDir.sz s ≤ 1048576) : Ok (Z43_q s) := by
 unfold Z43_q
 (repeat' (first | exact Tot.some _ | assumption | (with_reducible refine Tot.bind ?_ fun _ _ => ?_) | (with_reducible refine Tot.guard (fun _ => ?_) fun _ _ _ => ?_) | (with_reducible refine Tot.cond (fun _ => ?_) fun _ => ?_) | (with_reducible refine Tot.on fun _ _ => ?_) | split))
 exact Z43_loop _ fun a ha => by have := Sl.mem_le (f := TDir.sz) ha; omega
theorem TRef.wraps_le (r : TRef) : r.FWraps.l.length ≤ r.sz := by have := r.sz_def; have := Sl.len_le (f := fun _ : Int => 1) r.FWraps (fun _ => Nat.le_refl _); omega
theorem Z45_loop (l : List TInput) (h : ∀ a ∈ l, a.sz ≤ 1048576) : Ok (Z45_q10 l) := by
 induction l with
 | nil => exact Tot.some _
 | cons x r ih =>
  have h1 := h x List.mem_cons_self; have h2 := x.sz_def; have h3 := x.FType.wraps_le
  rw [Z45_q10]
  (repeat' (first | exact Tot.some _ | assumption | (with_reducible refine Tot.bind ?_ fun _ _ => ?_) | (with_reducible refine Tot.guard (fun _ => ?_) fun _ _ _ => ?_) | (with_reducible refine Tot.cond (fun _ => ?_) fun _ => ?_) | (with_reducible refine Tot.on fun _ _ => ?_) | split))
  all_goals first | exact ih fun y hy => h y (List.mem_cons_of_mem _ hy) | (subst_vars; first | exact Z35_ok _ (by omega) | exact Z43_ok _ (by omega) | exact Z24_ok _ (by omega) | exact Z41_ok _ (by omega))
theorem Z45_ok (s : Sl TInput) (h : Sl.sz TInput.sz s ≤ 1048576) : Ok (Z45_q s) := by
 unfold Z45_q
 (repeat' (first | exact Tot.some _ | assumption | (with_reducible refine Tot.bind ?_ fun _ _ => ?_) | (with_reducible refine Tot.guard (fun _ => ?_) fun _ _ _ => ?_) | (with_reducible refine Tot.cond (fun _ => ?_) fun _ => ?_) | (with_reducible refine Tot.on fun _ _ => ?_) | split))
 exact Z45_loop _ fun a ha => by have := Sl.mem_le (f := TInput.sz) ha; omega
theorem Z44_loop (l : List TField) (h : ∀ a ∈ l, a.sz ≤ 1048576) : Ok (Z44_q10 l) := by
 induction l with
 | nil => exact Tot.some _
 | cons x r ih =>
  have h1 := h x List.mem_cons_self; have h2 := x.sz_def; have h3 := x.FType.wraps_le
  have hz : TField.zero.FType.FWraps.l.length ≤ 1048576 := by decide
  rw [Z44_q10]
  simp only [on]
  cases Z19_q x.FName <;> simp only [Bool.not_true, Bool.not_false, cond_true, cond_false, Bool.or_false, Bool.or_true, Bool.true_or, Bool.false_or]
  ·simp [guardO]; exact Tot.some _
  ·obtain ⟨b1, e1⟩ := Z45_ok x.FArgs (by omega)
   obtain ⟨b2, e2⟩ := Z35_ok x.FType (by omega)
   obtain ⟨b3, e3⟩ := Z43_ok x.FDirs (by omega)
   have hr := ih fun y hy => h y (List.mem_cons_of_mem _ hy)
   cases b1 <;> cases b2 <;> cases b3 <;> simp [guardO, e1, e2, e3] <;> first | exact Tot.some _ | exact hr
theorem Z44_ok (s : Sl TField) (h : Sl.sz TField.sz s ≤ 1048576) : Ok (Z44_q s) := by
 unfold Z44_q
 (repeat' (first | exact Tot.some _ | assumption | (with_reducible refine Tot.bind ?_ fun _ _ => ?_) | (with_reducible refine Tot.guard (fun _ => ?_) fun _ _ _ => ?_) | (with_reducible refine Tot.cond (fun _ => ?_) fun _ => ?_) | (with_reducible refine Tot.on fun _ _ => ?_) | split))
 exact Z44_loop _ fun a ha => by have := Sl.mem_le (f := TField.sz) ha; omega
theorem Z46_loop (b : Bool) (l : List TMember) (h : ∀ a ∈ l, a.sz ≤ 1048576) : Ok (Z46_q10 b l) := by
 induction l with
 | nil => exact Tot.some _
 | cons x r ih =>
  have h1 := h x List.mem_cons_self; have h2 := x.sz_def
  rw [Z46_q10]
  simp only [on]
  cases Z19_q x.FName <;> simp only [Bool.not_true, Bool.not_false, cond_true, cond_false, Bool.or_false, Bool.or_true, Bool.true_or, Bool.false_or]
  ·simp [guardO]; exact Tot.some _
  ·obtain ⟨b3, e3⟩ := Z43_ok x.FDirs (by omega)
   have hr := ih fun y hy => h y (List.mem_cons_of_mem _ hy)
   simp only [guardO, e3, if_true, Option.bind_some]
   (repeat' (first | exact Tot.some _ | assumption | (with_reducible refine Tot.bind ?_ fun _ _ => ?_) | (with_reducible refine Tot.guard (fun _ => ?_) fun _ _ _ => ?_) | (with_reducible refine Tot.cond (fun _ => ?_) fun _ => ?_) | (with_reducible refine Tot.on fun _ _ => ?_) | split))
theorem Z46_ok (s : Sl TMember) (b : Bool) (h : Sl.sz TMember.sz s ≤ 1048576) : Ok (Z46_q s b) := by
 unfold Z46_q
 (repeat' (first | exact Tot.some _ | assumption | (with_reducible refine Tot.bind ?_ fun _ _ => ?_) | (with_reducible refine Tot.guard (fun _ => ?_) fun _ _ _ => ?_) | (with_reducible refine Tot.cond (fun _ => ?_) fun _ => ?_) | (with_reducible refine Tot.on fun _ _ => ?_) | split))
 exact Z46_loop _ _ fun a ha => by have := Sl.mem_le (f := TMember.sz) ha; omega
theorem Z42_ok (x : TDef) (h : x.sz ≤ 1048576) : Ok (Z42_q x) := by
 have h2 := x.sz_def
 unfold Z42_q
 (repeat' (first | exact Tot.some _ | assumption | (with_reducible refine Tot.bind ?_ fun _ _ => ?_) | (with_reducible refine Tot.guard (fun _ => ?_) fun _ _ _ => ?_) | (with_reducible refine Tot.cond (fun _ => ?_) fun _ => ?_) | (with_reducible refine Tot.on fun _ _ => ?_) | split))
 all_goals first | exact Z43_ok _ (by omega) | exact Z44_ok _ (by omega) | exact Z46_ok _ _ (by omega) | exact Z45_ok _ (by omega)
theorem Z40_loop (l : List TDef) (h : ∀ a ∈ l, a.sz ≤ 1048576) : Ok (Z40_q10 l) := by
 induction l with
 | nil => exact Tot.some _
 | cons x r ih =>
  rw [Z40_q10]
  (repeat' (first | exact Tot.some _ | assumption | (with_reducible refine Tot.bind ?_ fun _ _ => ?_) | (with_reducible refine Tot.guard (fun _ => ?_) fun _ _ _ => ?_) | (with_reducible refine Tot.cond (fun _ => ?_) fun _ => ?_) | (with_reducible refine Tot.on fun _ _ => ?_) | split))
  ·subst_vars; exact Z42_ok _ (h _ List.mem_cons_self)
  ·exact ih fun y hy => h y (List.mem_cons_of_mem _ hy)
theorem TDoc.def_le {d : TDoc} {x : TDef} (h : x ∈ d.FDefs.l) : x.sz ≤ d.sz := by have := d.sz_def; have := Sl.mem_le (f := TDef.sz) h; omega
theorem Z40_ok (d : TDoc) (h : d.sz ≤ 1048576) : Ok (Z40_q d) := by
 unfold Z40_q
 (repeat' (first | exact Tot.some _ | assumption | (with_reducible refine Tot.bind ?_ fun _ _ => ?_) | (with_reducible refine Tot.guard (fun _ => ?_) fun _ _ _ => ?_) | (with_reducible refine Tot.cond (fun _ => ?_) fun _ => ?_) | (with_reducible refine Tot.on fun _ _ => ?_) | split))
 exact Z40_loop _ fun a ha => by have := TDoc.def_le ha; omega
end Go.Proofs

namespace Go.Proofs
open Go Go.Ab
theorem Z51_loop (k : TValue → Option Bool) (l : List TValue) (hk : ∀ x ∈ l, Ok (k x)) : Ok (Z51_q5 k l) := by
 induction l with
 | nil => exact Tot.some _
 | cons x r ih =>
  rw [Z51_q5]
  (repeat' (first | exact Tot.some _ | assumption | (with_reducible refine Tot.bind ?_ fun _ _ => ?_) | (with_reducible refine Tot.guard (fun _ => ?_) fun _ _ _ => ?_) | (with_reducible refine Tot.cond (fun _ => ?_) fun _ => ?_) | (with_reducible refine Tot.on fun _ _ => ?_) | split))
  ·rename_i h; rw [h]; exact hk x List.mem_cons_self
  ·exact ih fun y hy => hk y (List.mem_cons_of_mem _ hy)
theorem Z51_tot (n : Nat) : ∀ (v : TValue), v.sz < n → Ok (Z51_qn n v) := by
 induction n with
 | zero => intro v h; omega
 | succ n ih =>
  intro v h
  rw [Z51_qn]
  (repeat' (first | exact Tot.some _ | assumption | (with_reducible refine Tot.bind ?_ fun _ _ => ?_) | (with_reducible refine Tot.guard (fun _ => ?_) fun _ _ _ => ?_) | (with_reducible refine Tot.cond (fun _ => ?_) fun _ => ?_) | (with_reducible refine Tot.on fun _ _ => ?_) | split))
  exact Z51_loop _ _ fun x hx => ih x (by have := TValue.item_lt hx; omega)
theorem Z51_ok (v : TValue) (h : v.sz ≤ 1048576) : Ok (Z51_q v) := Z51_tot F0 v (by rw [F0_eq]; omega)
theorem Z55_loop (l : List TVar) (h : ∀ a ∈ l, a.sz ≤ 1048576) : Ok (Z55_q6 l) := by
 induction l with
 | nil => exact Tot.some _
 | cons x r ih =>
  have h1 := h x List.mem_cons_self; have h2 := x.sz_def; have h3 := x.FType.wraps_le
  have hr := ih fun y hy => h y (List.mem_cons_of_mem _ hy)
  rw [Z55_q6]
  (repeat' (first | exact Tot.some _ | assumption | (with_reducible refine Tot.bind ?_ fun _ _ => ?_) | (with_reducible refine Tot.guard (fun _ => ?_) fun _ _ _ => ?_) | (with_reducible refine Tot.cond (fun _ => ?_) fun _ => ?_) | (with_reducible refine Tot.on fun _ _ => ?_) | split))
  all_goals (subst_vars; first | exact Z35_ok _ (by omega) | exact Z24_ok _ (by omega) | exact Z51_ok _ (by omega))
theorem Z55_ok (s : Sl TVar) (h : Sl.sz TVar.sz s ≤ 1048576) : Ok (Z55_q s) := by
 unfold Z55_q
 (repeat' (first | exact Tot.some _ | assumption | (with_reducible refine Tot.bind ?_ fun _ _ => ?_) | (with_reducible refine Tot.guard (fun _ => ?_) fun _ _ _ => ?_) | (with_reducible refine Tot.cond (fun _ => ?_) fun _ => ?_) | (with_reducible refine Tot.on fun _ _ => ?_) | split))
 exact Z55_loop _ fun a ha => by have := Sl.mem_le (f := TVar.sz) ha; omega
theorem Z50_loop (l : List TArg) (h : ∀ a ∈ l, a.sz ≤ 1048576) : Ok (Z50_q6 l) := by
 induction l with
 | nil => exact Tot.some _
 | cons x r ih =>
  have h1 := h x List.mem_cons_self; have h2 := x.value_le
  have hr := ih fun y hy => h y (List.mem_cons_of_mem _ hy)
  obtain ⟨b, e⟩ := Z24_ok x.FValue (by omega)
  rw [Z50_q6]
  simp only [on]
  cases Z19_q x.FName <;> simp only [guardO, e, Bool.not_true, Bool.not_false, cond_true, cond_false, Bool.or_false, Bool.or_true, Bool.true_or, Bool.false_or, if_true, Bool.false_eq_true, if_false, Option.bind_some]
  ·exact Tot.some _
  ·(repeat' (first | exact Tot.some _ | assumption | (with_reducible refine Tot.bind ?_ fun _ _ => ?_) | (with_reducible refine Tot.guard (fun _ => ?_) fun _ _ _ => ?_) | (with_reducible refine Tot.cond (fun _ => ?_) fun _ => ?_) | (with_reducible refine Tot.on fun _ _ => ?_) | split))
theorem Z50_ok (s : Sl TArg) (h : Sl.sz TArg.sz s ≤ 1048576) : Ok (Z50_q s) := by
 unfold Z50_q
 (repeat' (first | exact Tot.some _ | assumption | (with_reducible refine Tot.bind ?_ fun _ _ => ?_) | (with_reducible refine Tot.guard (fun _ => ?_) fun _ _ _ => ?_) | (with_reducible refine Tot.cond (fun _ => ?_) fun _ => ?_) | (with_reducible refine Tot.on fun _ _ => ?_) | split))
 exact Z50_loop _ fun a ha => by have := Sl.mem_le (f := TArg.sz) ha; omega
theorem Z52_loop (l : List TDir) (h : ∀ a ∈ l, a.sz ≤ 1048576) : Ok (Z52_q6 l) := by
 induction l with
 | nil => exact Tot.some _
 | cons x r ih =>
  have h1 := h x List.mem_cons_self; have h2 := x.sz_def
  have hr := ih fun y hy => h y (List.mem_cons_of_mem _ hy)
  obtain ⟨b, e⟩ := Z50_ok x.FArgs (by omega)
  rw [Z52_q6]
  simp only [on]
  cases Z19_q x.FName <;> simp only [guardO, e, Bool.not_true, Bool.not_false, cond_true, cond_false, Bool.or_false, Bool.or_true, Bool.true_or, Bool.false_or, if_true, Bool.false_eq_true, if_false, Option.bind_some]
  ·exact Tot.some _
  ·(repeat' (first | exact Tot.some _ | assumption | (with_reducible refine Tot.bind ?_ fun _ _ => ?_) | (with_reducible refine Tot.guard (fun _ => ?_) fun _ _ _ => ?_) | (with_reducible refine Tot.cond (fun _ => ?_) fun _ => ?_) | (with_reducible refine Tot.on fun _ _ => ?_) | split))
theorem Z52_ok (s : Sl TDir) (h : Sl.sz TDir.sz s ≤ 1048576) : Ok (Z52_q s) := by
 unfold Z52_q
 (repeat' (first | exact Tot.some _ | assumption | (with_reducible refine Tot.bind ?_ fun _ _ => ?_) | (with_reducible refine Tot.guard (fun _ => ?_) fun _ _ _ => ?_) | (with_reducible refine Tot.cond (fun _ => ?_) fun _ => ?_) | (with_reducible refine Tot.on fun _ _ => ?_) | split))
 exact Z52_loop _ fun a ha => by have := Sl.mem_le (f := TDir.sz) ha; omega
theorem r08_sels_loop (i : Int) (k : TSel → Int → Option Bool) (l : List TSel) (hk : ∀ x ∈ l, Ok (k x i)) : Ok (r08_selsRight_q10 i k l) := by
 induction l with
 | nil => exact Tot.some _
 | cons x r ih =>
  have hr := ih fun y hy => hk y (List.mem_cons_of_mem _ hy)
  rw [r08_selsRight_q10]
  (repeat' (first | exact Tot.some _ | assumption | (with_reducible refine Tot.bind ?_ fun _ _ => ?_) | (with_reducible refine Tot.guard (fun _ => ?_) fun _ _ _ => ?_) | (with_reducible refine Tot.cond (fun _ => ?_) fun _ => ?_) | (with_reducible refine Tot.on fun _ _ => ?_) | split))
  rename_i h; rw [h]; exact hk x List.mem_cons_self
theorem TSel.sub_lt (s : TSel) : Sl.sz TSel.sz s.FSels < s.sz := by
 have h1 := s.sz_def; have := Bs.sz_pos s.FAlias; omega
theorem r08_sels_tot (n : Nat) : (∀ (s : Sl TSel) (i : Int), Sl.sz TSel.sz s ≤ 1048576 → 2 * Sl.sz TSel.sz s < n → 0 ≤ i → i ≤ 25 → Ok (r08_selsRight_qn n s i)) ∧ (∀ (s : TSel) (i : Int), s.sz ≤ 1048576 → 2 * s.sz < n → 0 ≤ i → i ≤ 24 → Ok (Z53_qn n s i)) := by
 induction n with
 | zero => exact ⟨fun s i _ h => by omega, fun s i _ h => by omega⟩
 | succ n ih =>
  refine ⟨fun s i hs h h0 h1 => ?_, fun s i hs h h0 h1 => ?_⟩
  ·rw [r08_selsRight_qn]
   refine Tot.cond (fun _ => Tot.some _) fun hc => ?_
   simp only [Bool.or_eq_false_iff, decide_eq_false_iff_not] at hc
   (repeat' (first | exact Tot.some _ | assumption | (with_reducible refine Tot.bind ?_ fun _ _ => ?_) | (with_reducible refine Tot.guard (fun _ => ?_) fun _ _ _ => ?_) | (with_reducible refine Tot.cond (fun _ => ?_) fun _ => ?_) | (with_reducible refine Tot.on fun _ _ => ?_) | split))
   exact r08_sels_loop _ _ _ fun x hx => ih.2 x i (by have := Sl.mem_le (f := TSel.sz) hx; omega) (by have := Sl.mem_le (f := TSel.sz) hx; omega) h0 (by omega)
  ·have h2 := s.sz_def
   have h3 := s.sub_lt
   obtain ⟨b1, e1⟩ := Z52_ok s.FDirs (by omega)
   obtain ⟨b2, e2⟩ := Z50_ok s.FArgs (by omega)
   obtain ⟨b3, e3⟩ := ih.1 s.FSels (i + 1) (by omega) (by omega) (by omega) (by omega)
   rw [Z53_qn]
   (repeat' (first | exact Tot.some _ | assumption | (with_reducible refine Tot.bind ?_ fun _ _ => ?_) | (with_reducible refine Tot.guard (fun _ => ?_) fun _ _ _ => ?_) | (with_reducible refine Tot.cond (fun _ => ?_) fun _ => ?_) | (with_reducible refine Tot.on fun _ _ => ?_) | split))
   all_goals first
    | exact ⟨_, e1⟩ | exact ⟨_, e2⟩ | exact ⟨_, e3⟩
    | (rw [addC_ok (by omega)]; exact Tot.some _)
    | (rename_i hg _ hv _; have h9 := hv hg; rw [addC_ok (by omega)] at h9; obtain rfl := Option.some.inj h9; exact ⟨_, e3⟩)
    | (rename_i hv; rw [addC_ok (by omega)] at hv; obtain rfl := Option.some.inj hv; exact ⟨_, e3⟩)
    | (rename_i hv _ hg; have h9 := hv hg; rw [addC_ok (by omega)] at h9; obtain rfl := Option.some.inj h9; exact ⟨_, e3⟩)
    | (rename_i hv _ _ hg; have h9 := hv hg; rw [addC_ok (by omega)] at h9; obtain rfl := Option.some.inj h9; exact ⟨_, e3⟩)
theorem r08_selsRight_ok (s : Sl TSel) (h : Sl.sz TSel.sz s ≤ 1048576) : Ok (r08_selsRight_q s 1) := (r08_sels_tot F0).1 s 1 h (by rw [F0_eq]; omega) (by omega) (by omega)
theorem Z49_ops (l : List TOp) (h : ∀ a ∈ l, a.sz ≤ 1048576) : Ok (Z49_q30 l) := by
 induction l with
 | nil => exact Tot.some _
 | cons x r ih =>
  have h1 := h x List.mem_cons_self; have h2 := x.sz_def
  have hr := ih fun y hy => h y (List.mem_cons_of_mem _ hy)
  rw [Z49_q30]
  (repeat' (first | exact Tot.some _ | assumption | (with_reducible refine Tot.bind ?_ fun _ _ => ?_) | (with_reducible refine Tot.guard (fun _ => ?_) fun _ _ _ => ?_) | (with_reducible refine Tot.cond (fun _ => ?_) fun _ => ?_) | (with_reducible refine Tot.on fun _ _ => ?_) | split))
  all_goals (subst_vars; first | exact Z55_ok _ (by omega) | exact r08_selsRight_ok _ (by omega))
theorem Z49_frags (l : List TFrag) (h : ∀ a ∈ l, a.sz ≤ 1048576) : Ok (Z49_q14 l) := by
 induction l with
 | nil => exact Tot.some _
 | cons x r ih =>
  have h1 := h x List.mem_cons_self; have h2 := x.sz_def
  have hr := ih fun y hy => h y (List.mem_cons_of_mem _ hy)
  rw [Z49_q14]
  (repeat' (first | exact Tot.some _ | assumption | (with_reducible refine Tot.bind ?_ fun _ _ => ?_) | (with_reducible refine Tot.guard (fun _ => ?_) fun _ _ _ => ?_) | (with_reducible refine Tot.cond (fun _ => ?_) fun _ => ?_) | (with_reducible refine Tot.on fun _ _ => ?_) | split))
  all_goals (subst_vars; first | exact r08_selsRight_ok _ (by omega))
theorem TQuery.op_le {d : TQuery} {x : TOp} (h : x ∈ d.FOps.l) : x.sz ≤ d.sz := by have := d.sz_def; have := Sl.mem_le (f := TOp.sz) h; omega
theorem TQuery.frag_le {d : TQuery} {x : TFrag} (h : x ∈ d.FFrags.l) : x.sz ≤ d.sz := by have := d.sz_def; have := Sl.mem_le (f := TFrag.sz) h; omega
theorem TQuery.lens (d : TQuery) : d.FOps.l.length ≤ d.sz ∧ d.FFrags.l.length ≤ d.sz := by
 have h1 := d.sz_def; have h2 := Sl.len_lt (f := TOp.sz) d.FOps TOp.pos; have h3 := Sl.len_lt (f := TFrag.sz) d.FFrags TFrag.pos; omega
theorem Z49_ok (q : TQuery) (h : q.sz ≤ 1048576) : Ok (Z49_q q) := by
 have hl := q.lens
 unfold Z49_q
 rw [addC_ok (by omega)]
 (repeat' (first | exact Tot.some _ | assumption | (with_reducible refine Tot.bind ?_ fun _ _ => ?_) | (with_reducible refine Tot.guard (fun _ => ?_) fun _ _ _ => ?_) | (with_reducible refine Tot.cond (fun _ => ?_) fun _ => ?_) | (with_reducible refine Tot.on fun _ _ => ?_) | split))
 ·exact Z49_ops _ fun a ha => by have := TQuery.op_le ha; omega
 ·exact Z49_frags _ fun a ha => by have := TQuery.frag_le ha; omega
theorem Z56_args (m : Int) (h7 : TSel) (l : List TArg) (s : Int) (hs : 0 ≤ s) (hb : s + ((l.map TArg.sz).sum : Nat) ≤ 1152921504606846976) (ha : ∀ a ∈ l, a.sz ≤ 1048576) : ∃ r, Z56_q29 m h7 l s = some r ∧ s ≤ r ∧ r + (l.length : Nat) ≤ s + ((l.map TArg.sz).sum : Nat) := by
 induction l generalizing s with
 | nil => exact ⟨s, rfl, by simp, by simp⟩
 | cons x r ih =>
  have h1 := ha x List.mem_cons_self; have h2 := x.sz_def; have hp := Bs.sz_pos x.FName
  obtain ⟨v, h3, h4, h5⟩ := Z25_ok x.FValue (by omega)
  have hr : r.length ≤ (r.map TArg.sz).sum := by
   have := Sl.len_le (f := TArg.sz) ⟨false, r⟩ TArg.pos
   have h9 := Sl.len_lt (f := TArg.sz) ⟨false, r⟩ TArg.pos
   have h8 : Sl.sz TArg.sz ⟨false, r⟩ = 1 + (r.map TArg.sz).sum := rfl
   simp only at h9; omega
  simp only [List.map_cons, List.sum_cons, List.length_cons] at hb ⊢
  rw [Z56_q29]
  cases decide (s ≤ m) with
  | false => exact ⟨s, rfl, by omega, by omega⟩
  | true =>
   simp only [on, cond_true, h3, Option.bind_some]
   rw [addC_ok (by omega)]
   simp only [Option.bind_some]
   obtain ⟨w, h6, h7, h8⟩ := ih (s + v) (by omega) (by omega) (fun y hy => ha y (List.mem_cons_of_mem _ hy))
   exact ⟨w, h6, by omega, by omega⟩
theorem Z56_loop (m : Int) (k : Sl TSel → Int → Option Int) (l : List TSel) (s : Int) (hm : -2305843009213693952 ≤ m ∧ m ≤ 1152921504606846976) (hs : 0 ≤ s) (hb : s + ((l.map TSel.sz).sum : Nat) ≤ 1048576) (hk : ∀ x ∈ l, ∀ m', m - 1048576 ≤ m' → m' ≤ m → ∃ r, k x.FSels m' = some r ∧ 0 ≤ r ∧ r ≤ (Sl.sz TSel.sz x.FSels : Nat)) : ∃ r, Z56_q7 m k l s = some r ∧ s ≤ r ∧ r ≤ s + ((l.map TSel.sz).sum : Nat) := by
 induction l generalizing s with
 | nil => exact ⟨s, rfl, by simp, by simp⟩
 | cons x r ih =>
  have h2 := x.sz_def
  have h3 := Sl.len_lt (f := TArg.sz) x.FArgs TArg.pos; have h4 := Sl.len_lt (f := TDir.sz) x.FDirs TDir.pos
  have h5 : Sl.sz TArg.sz x.FArgs = 1 + (x.FArgs.l.map TArg.sz).sum := rfl
  have h0 := Bs.sz_pos x.FName; have h01 := Bs.sz_pos x.FAlias; have h02 := Bs.sz_pos x.FOn
  have h6 : x.FArgs.l.length ≤ 2 * (x.FArgs.l.map TArg.sz).sum := by omega
  simp only [List.map_cons, List.sum_cons] at hb ⊢
  rw [Z56_q7]
  cases decide (s ≤ m) with
  | false => exact ⟨s, rfl, by omega, by omega⟩
  | true =>
   simp only [on, cond_true]
   iterate 3 (rw [addC_ok (by omega)]; simp only [Option.bind_some])
   obtain ⟨w, e1, e2, e3⟩ := Z56_args m x x.FArgs.l (s + 1 + (x.FArgs.l.length : Nat) + (x.FDirs.l.length : Nat)) (by omega) (by omega) (fun a haa => by have := Sl.mem_le (f := TArg.sz) haa; omega)
   simp only [e1, Option.bind_some]
   rw [subC_ok (by omega)]
   simp only [Option.bind_some]
   obtain ⟨y, e4, e5, e6⟩ := hk x List.mem_cons_self (m - w) (by omega) (by omega)
   simp only [e4, Option.bind_some]
   rw [addC_ok (by omega)]
   simp only [Option.bind_some]
   obtain ⟨z, e7, e8, e9⟩ := ih (w + y) (by omega) (by omega) (fun y hy => hk y (List.mem_cons_of_mem _ hy))
   exact ⟨z, e7, by omega, by omega⟩
theorem Z56_tot (n : Nat) : ∀ (l : Sl TSel) (m : Int), Sl.sz TSel.sz l < n → Sl.sz TSel.sz l ≤ 1048576 → -2199023255552 + (Sl.sz TSel.sz l : Nat) * 1048576 ≤ m → m ≤ 1152921504606846976 → ∃ r, Z56_qn n l m = some r ∧ 0 ≤ r ∧ r ≤ (Sl.sz TSel.sz l : Nat) := by
 induction n with
 | zero => intro l m h; omega
 | succ n ih =>
  intro l m h1 h2 h3 h4
  have h5 : Sl.sz TSel.sz l = 1 + (l.l.map TSel.sz).sum := rfl
  obtain ⟨r, e1, e2, e3⟩ := Z56_loop m (Z56_qn n) l.l 0 ⟨by omega, h4⟩ (by omega) (by omega) (fun x hx m' h6 h7 => by
   have h8 := Sl.mem_le (f := TSel.sz) hx; have h9 := x.sub_lt
   exact ih _ _ (by omega) (by omega) (by omega) (by omega))
  rw [Z56_qn, e1]
  exact ⟨r, rfl, by omega, by omega⟩
theorem Z56_ok (l : Sl TSel) (h : Sl.sz TSel.sz l ≤ 1048576) : ∃ r, Z56_q l 600 = some r ∧ 0 ≤ r ∧ r ≤ (Sl.sz TSel.sz l : Nat) := Z56_tot F0 l 600 (by rw [F0_eq]; omega) h (by omega) (by omega)
theorem Z48_ops (l : List TOp) (s : Int) (hs : 0 ≤ s) (hb : s + ((l.map TOp.sz).sum : Nat) ≤ 1073741824) (ha : ∀ a ∈ l, a.sz ≤ 1048576) : ∃ r, Z48_q24 l s = some r ∧ 0 ≤ r ∧ r ≤ s + ((l.map TOp.sz).sum : Nat) := by
 induction l generalizing s with
 | nil => exact ⟨s, rfl, by omega, by simp⟩
 | cons x r ih =>
  have h1 := ha x List.mem_cons_self; have h2 := x.sz_def
  have h3 := Sl.len_lt (f := TVar.sz) x.FVars TVar.pos
  simp only [List.map_cons, List.sum_cons] at hb ⊢
  rw [Z48_q24]
  cases decide (s ≤ 600) with
  | false => exact ⟨s, rfl, by omega, by omega⟩
  | true =>
   simp only [on, cond_true]
   rw [addC_ok (by omega)]
   obtain ⟨w, e1, e2, e3⟩ := Z56_ok x.FSels (by omega)
   simp only [Option.bind_some, e1]
   rw [addC_ok (by omega)]
   simp only [Option.bind_some]
   obtain ⟨z, e7, e8, e9⟩ := ih (s + (x.FVars.l.length : Nat) + w) (by omega) (by omega) (fun y hy => ha y (List.mem_cons_of_mem _ hy))
   exact ⟨z, e7, by omega, by omega⟩
theorem Z48_frags (l : List TFrag) (s : Int) (hs : 0 ≤ s) (hb : s + ((l.map TFrag.sz).sum : Nat) ≤ 2147483648) (ha : ∀ a ∈ l, a.sz ≤ 1048576) : ∃ r, Z48_q12 l s = some r ∧ 0 ≤ r ∧ r ≤ s + ((l.map TFrag.sz).sum : Nat) := by
 induction l generalizing s with
 | nil => exact ⟨s, rfl, by omega, by simp⟩
 | cons x r ih =>
  have h1 := ha x List.mem_cons_self; have h2 := x.sz_def
  simp only [List.map_cons, List.sum_cons] at hb ⊢
  rw [Z48_q12]
  cases decide (s ≤ 600) with
  | false => exact ⟨s, rfl, by omega, by omega⟩
  | true =>
   simp only [on, cond_true]
   obtain ⟨w, e1, e2, e3⟩ := Z56_ok x.FSels (by omega)
   simp only [Option.bind_some, e1]
   rw [addC_ok (by omega)]
   simp only [Option.bind_some]
   obtain ⟨z, e7, e8, e9⟩ := ih (s + w) (by omega) (by omega) (fun y hy => ha y (List.mem_cons_of_mem _ hy))
   exact ⟨z, e7, by omega, by omega⟩
theorem Z48_ok (q : TQuery) (h : q.sz ≤ 1048576) : Ok (Z48_q q) := by
 have hl := q.lens; have hd := q.sz_def
 have h1 : Sl.sz TOp.sz q.FOps = 1 + (q.FOps.l.map TOp.sz).sum := rfl
 have h2 : Sl.sz TFrag.sz q.FFrags = 1 + (q.FFrags.l.map TFrag.sz).sum := rfl
 unfold Z48_q
 rw [addC_ok (by omega)]
 obtain ⟨r, e1, e2, e3⟩ := Z48_ops q.FOps.l ((q.FOps.l.length : Nat) + (q.FFrags.l.length : Nat)) (by omega) (by omega) fun a ha => by have := TQuery.op_le ha; omega
 simp only [Option.bind_some, e1, on]
 obtain ⟨w, e4, e5, e6⟩ := Z48_frags q.FFrags.l r (by omega) (by omega) fun a ha => by have := TQuery.frag_le ha; omega
 simp only [Option.bind_some, e4]
 exact Tot.some _
theorem Z63_in (l : List TField) (s : Int) (hs : 0 ≤ s) (hb : s + ((l.map TField.sz).sum : Nat) ≤ 1152921504606846976) (ha : ∀ a ∈ l, a.sz ≤ 1048576) : ∃ r, Z63_q36 l s = some r ∧ 0 ≤ r ∧ r ≤ s + ((l.map TField.sz).sum : Nat) := by
 induction l generalizing s with
 | nil => exact ⟨s, rfl, by omega, by simp⟩
 | cons x r ih =>
  have h1 := ha x List.mem_cons_self; have h2 := x.sz_def
  have h3 := Sl.len_lt (f := TInput.sz) x.FArgs TInput.pos; have h4 := Sl.len_lt (f := TDir.sz) x.FDirs TDir.pos
  simp only [List.map_cons, List.sum_cons] at hb ⊢
  rw [Z63_q36]
  simp only [on]
  rw [addC_ok (by omega)]; simp only [Option.bind_some]
  rw [addC_ok (by omega)]; simp only [Option.bind_some]
  obtain ⟨z, e7, e8, e9⟩ := ih (s + ((x.FArgs.l.length : Nat) + (x.FDirs.l.length : Nat))) (by omega) (by omega) (fun y hy => ha y (List.mem_cons_of_mem _ hy))
  exact ⟨z, e7, by omega, by omega⟩
theorem Z63_out (l : List TDef) (s : Int) (hs : 0 ≤ s) (hb : s + 2 * ((l.map TDef.sz).sum : Nat) ≤ 1152921504606846976) (ha : ∀ a ∈ l, a.sz ≤ 1048576) : ∃ r, Z63_q12 l s = some r := by
 induction l generalizing s with
 | nil => exact ⟨s, rfl⟩
 | cons x r ih =>
  have h1 := ha x List.mem_cons_self; have h2 := x.sz_def
  have h3 := Sl.len_lt (f := TField.sz) x.FFields TField.pos; have h4 := Sl.len_lt (f := TDir.sz) x.FDirs TDir.pos; have h5 := Sl.len_lt (f := TMember.sz) x.FMembers TMember.pos
  have h6 := Sl.len_lt (f := TInput.sz) x.FInputs TInput.pos; have h7 := Sl.len_lt (f := Bs.sz) x.FImplements Bs.sz_pos
  have h8 : Sl.sz TField.sz x.FFields = 1 + (x.FFields.l.map TField.sz).sum := rfl
  simp only [List.map_cons, List.sum_cons] at hb
  rw [Z63_q12]
  simp only [on]
  iterate 6 (rw [addC_ok (by omega)]; simp only [Option.bind_some])
  obtain ⟨z, e1, e2, e3⟩ := Z63_in x.FFields.l (s + (1 + (x.FFields.l.length : Nat) + (x.FMembers.l.length : Nat) + (x.FInputs.l.length : Nat) + (x.FDirs.l.length : Nat) + (x.FImplements.l.length : Nat))) (by omega) (by omega) (fun a haa => by have := Sl.mem_le (f := TField.sz) haa; omega)
  simp only [e1, Option.bind_some]
  exact ih z e2 (by omega) (fun y hy => ha y (List.mem_cons_of_mem _ hy))
theorem Z63_ok (d : TDoc) (h : d.sz ≤ 1048576) : Ok (Z63_q d) := by
 have hd := d.sz_def
 have h1 : Sl.sz TDef.sz d.FDefs = 1 + (d.FDefs.l.map TDef.sz).sum := rfl
 unfold Z63_q
 (repeat' (first | exact Tot.some _ | assumption | (with_reducible refine Tot.bind ?_ fun _ _ => ?_) | (with_reducible refine Tot.guard (fun _ => ?_) fun _ _ _ => ?_) | (with_reducible refine Tot.cond (fun _ => ?_) fun _ => ?_) | (with_reducible refine Tot.on fun _ _ => ?_) | split))
 exact Z63_out _ _ (by omega) (by omega) fun a ha => by have := TDoc.def_le ha; omega
end Go.Proofs

namespace Go.Proofs
open Go Go.Ab
def nnW (w : List Int) : Bool := w.head? == some 1
def liW (w : List Int) : Bool := w.head? == some 2
def barS (s : Sl Int) : Sl Int := bif nnW s.l then ⟨s.nl, s.l.drop 1⟩ else s
def bar (t : TRef) : TRef := ⟨t.FName, barS t.FWraps⟩
def innerT (t : TRef) : TRef := ⟨t.FName, ⟨(barS t.FWraps).nl, (barS t.FWraps).l.drop 1⟩⟩
theorem clone_eq {s : Sl Int} (h : SOk s) : Z91_q s = some s := by
 unfold Z91_q
 obtain ⟨nl, l⟩ := s
 cases nl with
 | true => have := h.1 rfl; simp only at this; subst this; rfl
 | false =>
  simp only [cond_false]
  rw [appC_ok (by omega) (by have := h.2; simp at this ⊢; omega)]
  simp
theorem isNonNull_eq (t : TRef) : Z106_q t = nnW t.FWraps.l := by
 unfold Z106_q nnW on
 cases t.FWraps.l with
 | nil => rfl
 | cons a r => simp; by_cases h : a = 1 <;> simp [h]
theorem head_one {w : List Int} (h : nnW w = true) : 1 ≤ w.length := by cases w <;> simp [nnW] at h ⊢
theorem sok_drop {α : Type} {s : Sl α} (n : Nat) (h : SOk s) : SOk ⟨s.nl, s.l.drop n⟩ := ⟨fun e => by simp [h.1 e], by have := h.2; simp; omega⟩
theorem barS_ok {s : Sl Int} (h : SOk s) : SOk (barS s) := by
 unfold barS
 cases nnW s.l with
 | true => exact sok_drop 1 h
 | false => exact h
theorem innerT_ok {t : TRef} (h : SOk t.FWraps) : SOk (innerT t).FWraps := sok_drop 1 (barS_ok h)
theorem nullable_eq {t : TRef} (h : SOk t.FWraps) : Z109_q t = some (bar t) := by
 unfold Z109_q bar barS on
 simp only [isNonNull_eq]
 cases hn : nnW t.FWraps.l with
 | true =>
  simp only [cond_true]
  rw [partC_tail (head_one hn)]
  simp only [Option.bind_some]
  rw [clone_eq (sok_drop 1 h)]; rfl
 | false =>
  simp only [cond_false, Option.bind_some]
  rw [clone_eq h]; rfl
theorem isList_eq {t : TRef} (h : SOk t.FWraps) : Z105_q t = some (liW (barS t.FWraps).l) := by
 unfold Z105_q
 rw [nullable_eq h]
 simp only [Option.bind_some, on, bar, liW]
 cases (barS t.FWraps).l with
 | nil => rfl
 | cons a r => simp; by_cases h : a = 2 <;> simp [h]
theorem list_one {w : List Int} (h : liW w = true) : 1 ≤ w.length := by cases w <;> simp [liW] at h ⊢
theorem inner_eq {t : TRef} (h : SOk t.FWraps) : Z104_q t = some (bif liW (barS t.FWraps).l then (innerT t, true) else (⟨[], Sl.nil⟩, false)) := by
 unfold Z104_q
 rw [isList_eq h]
 simp only [Option.bind_some]
 cases hl : liW (barS t.FWraps).l with
 | false => rfl
 | true =>
  simp only [Bool.not_true, cond_false, cond_true]
  rw [nullable_eq h]
  simp only [Option.bind_some, bar]
  rw [partC_tail (list_one hl)]
  rfl
theorem inner_lt {t : TRef} (h : liW (barS t.FWraps).l = true) : (innerT t).FWraps.l.length < t.FWraps.l.length := by
 have h1 := list_one h
 have h2 : (barS t.FWraps).l.length ≤ t.FWraps.l.length := by
  unfold barS; cases nnW t.FWraps.l <;> simp
 simp [innerT]; omega
theorem findAux (l : List TDef) (s : Bs) : Z84_q7 s l = (match l.find? (fun t => t.FName == s) with | some t => Sum.inr (t, true) | none => Sum.inl ()) := by
 induction l with
 | nil => rfl
 | cons a r ih =>
  rw [Z84_q7, List.find?_cons]
  simp only [on, ih]
  cases a.FName == s <;> rfl
def fnd (l : List TDef) (s : Bs) : TDef × Bool := match l.find? (fun t => t.FName == s) with | some t => (t, true) | none => (TDef.zero, false)
theorem find_eq (d : TDoc) (s : Bs) : Z84_q d s = fnd d.FDefs.l s := by
 unfold Z84_q fnd on
 rw [findAux]
 cases d.FDefs.l.find? (fun t => t.FName == s) <;> rfl
theorem fnd_mem (l : List TDef) (s : Bs) : (fnd l s).1 = TDef.zero ∨ (fnd l s).1 ∈ l := by
 unfold fnd
 cases h : l.find? (fun t => t.FName == s) with
 | none => exact .inl rfl
 | some t => exact .inr (List.mem_of_find?_eq_some h)
theorem fieldAux (l : List TField) (s : Bs) : Z83_q7 s l = (match l.find? (fun t => t.FName == s) with | some t => Sum.inr (t, true) | none => Sum.inl ()) := by
 induction l with
 | nil => rfl
 | cons a r ih =>
  rw [Z83_q7, List.find?_cons]
  simp only [on, ih]
  cases a.FName == s <;> rfl
def fndF (l : List TField) (s : Bs) : TField × Bool := match l.find? (fun t => t.FName == s) with | some t => (t, true) | none => (TField.zero, false)
theorem fieldOf_eq (t : TDef) (s : Bs) : Z83_q t s = fndF t.FFields.l s := by
 unfold Z83_q fndF on
 rw [fieldAux]
 cases t.FFields.l.find? (fun t => t.FName == s) <;> rfl
theorem inputAux (l : List TInput) (s : Bs) : Z85_q7 s l = (match l.find? (fun t => t.FName == s) with | some t => Sum.inr (t, true) | none => Sum.inl ()) := by
 induction l with
 | nil => rfl
 | cons a r ih =>
  rw [Z85_q7, List.find?_cons]
  simp only [on, ih]
  cases a.FName == s <;> rfl
def fndI (l : List TInput) (s : Bs) : TInput × Bool := match l.find? (fun t => t.FName == s) with | some t => (t, true) | none => (TInput.zero, false)
theorem inputOf_eq (t : Sl TInput) (s : Bs) : Z85_q t s = fndI t.l s := by
 unfold Z85_q fndI on
 rw [inputAux]
 cases t.l.find? (fun t => t.FName == s) <;> rfl
def DefsOk (d : TDoc) : Prop := ∀ x ∈ d.FDefs.l, x.FFields.l.length ≤ 1048576 ∧ x.FInputs.l.length ≤ 1048576 ∧ (∀ f ∈ x.FFields.l, SOk f.FType.FWraps ∧ f.FArgs.l.length ≤ 1048576 ∧ ∀ i ∈ f.FArgs.l, SOk i.FType.FWraps) ∧ ∀ i ∈ x.FInputs.l, SOk i.FType.FWraps
theorem TRef.sok {r : TRef} (h : r.sz ≤ 1048576) (hw : r.wf) : SOk r.FWraps := ⟨hw.2.1.1, by have := r.sz_def; have := Sl.len_le (f := fun _ : Int => 1) r.FWraps (fun _ => Nat.le_refl _); omega⟩
theorem TInput.sok {r : TInput} (h : r.sz ≤ 1048576) (hw : r.wf) : SOk r.FType.FWraps := TRef.sok (by have := r.sz_def; omega) (TInput.FType_wf hw)
theorem defsOk {d : TDoc} (h : d.sz ≤ 1048576) (hw : d.wf) : DefsOk d := by
 intro x hx
 have h1 := x.sz_def; have h2 := d.sz_def; have h3 := Sl.mem_le (f := TDef.sz) hx
 have h4 := Sl.len_lt (f := TField.sz) x.FFields TField.pos; have h5 := Sl.len_lt (f := TInput.sz) x.FInputs TInput.pos
 have w : x.wf := (TDoc.FDefs_wf hw).2.2 x hx
 refine ⟨by omega, by omega, fun f hf => ?_, fun i hi => ?_⟩
 ·have h6 := Sl.mem_le (f := TField.sz) hf; have h7 := f.sz_def; have h8 := Sl.len_lt (f := TInput.sz) f.FArgs TInput.pos
  have wf : f.wf := (TDef.FFields_wf w).2.2 f hf
  exact ⟨TRef.sok (by omega) (TField.FType_wf wf), by omega, fun i hi => TInput.sok (by have := Sl.mem_le (f := TInput.sz) hi; omega) ((TField.FArgs_wf wf).2.2 i hi)⟩
 ·exact TInput.sok (by have := Sl.mem_le (f := TInput.sz) hi; omega) ((TDef.FInputs_wf w).2.2 i hi)
theorem find_ok {d : TDoc} (h : DefsOk d) (s : Bs) : (fnd d.FDefs.l s).1.FFields.l.length ≤ 1048576 ∧ (fnd d.FDefs.l s).1.FInputs.l.length ≤ 1048576 ∧ (∀ f ∈ (fnd d.FDefs.l s).1.FFields.l, SOk f.FType.FWraps ∧ f.FArgs.l.length ≤ 1048576 ∧ ∀ i ∈ f.FArgs.l, SOk i.FType.FWraps) ∧ ∀ i ∈ (fnd d.FDefs.l s).1.FInputs.l, SOk i.FType.FWraps := by
 rcases fnd_mem d.FDefs.l s with e | e
 ·rw [e]; exact ⟨by simp [TDef.zero, Sl.nil], by simp [TDef.zero, Sl.nil], by simp [TDef.zero, Sl.nil], by simp [TDef.zero, Sl.nil]⟩
 ·exact h _ e
theorem sok_zero : SOk TInput.zero.FType.FWraps := ⟨fun _ => rfl, by decide⟩
theorem inputOk {l : List TInput} (h : ∀ i ∈ l, SOk i.FType.FWraps) (s : Bs) : SOk (fndI l s).1.FType.FWraps := by
 unfold fndI
 cases e : l.find? (fun t => t.FName == s) with
 | none => exact sok_zero
 | some t => exact h _ (List.mem_of_find?_eq_some e)
theorem fieldOk {l : List TField} (h : ∀ f ∈ l, SOk f.FType.FWraps ∧ f.FArgs.l.length ≤ 1048576 ∧ ∀ i ∈ f.FArgs.l, SOk i.FType.FWraps) (s : Bs) : SOk (fndF l s).1.FType.FWraps ∧ (fndF l s).1.FArgs.l.length ≤ 1048576 ∧ ∀ i ∈ (fndF l s).1.FArgs.l, SOk i.FType.FWraps := by
 unfold fndF
 cases e : l.find? (fun t => t.FName == s) with
 | none => exact ⟨⟨fun _ => rfl, by decide⟩, by decide, fun i hi => by cases hi⟩
 | some t => exact h _ (List.mem_of_find?_eq_some e)
end Go.Proofs

namespace Go.Proofs
open Go Go.Ab
theorem index_value (l : List TValue) (p : TValue → Option Bool) (i : Nat) (h : ∀ x ∈ l, Ok (p x)) : Ok (Z97_q6m p l i) := by
 induction l generalizing i with
 | nil => exact Tot.some _
 | cons x r ih =>
  have hr := ih (i + 1) fun y hy => h y (List.mem_cons_of_mem _ hy)
  have hx := h x List.mem_cons_self
  rw [Z97_q6m]
  simp only [on]
  (repeat' (first | exact Tot.some _ | assumption | (with_reducible refine Tot.bind ?_ fun _ _ => ?_) | (with_reducible refine Tot.guard (fun _ => ?_) fun _ _ _ => ?_) | (with_reducible refine Tot.cond (fun _ => ?_) fun _ => ?_) | (with_reducible refine Tot.on fun _ _ => ?_) | split))
theorem contains_value (l : Sl TValue) (p : TValue → Option Bool) (h : ∀ x ∈ l.l, Ok (p x)) : Ok (Z92_qm l p) := by
 unfold Z92_qm Z97_qm
 have h1 := index_value l.l p 0 h
 (repeat' (first | exact Tot.some _ | assumption | (with_reducible refine Tot.bind ?_ fun _ _ => ?_) | (with_reducible refine Tot.guard (fun _ => ?_) fun _ _ _ => ?_) | (with_reducible refine Tot.cond (fun _ => ?_) fun _ => ?_) | (with_reducible refine Tot.on fun _ _ => ?_) | split))
theorem object_loop (d : TDoc) (df : TDef) (v : TValue) (k : TDoc → TRef → TValue → Option Bool) (l : List Bs) (i : Nat) (h : ∀ t x, SOk t.FWraps → x ∈ v.FItems.l → Ok (k d t x)) (hd : ∀ i ∈ df.FInputs.l, SOk i.FType.FWraps) : Ok (Z12_q7 d df v k l i) := by
 induction l generalizing i with
 | nil => exact Tot.some _
 | cons x r ih =>
  have hr := ih (i + 1)
  rw [Z12_q7]
  simp only [on, inputOf_eq]
  have hs := inputOk hd x
  generalize fndI df.FInputs.l x = y at hs
  by_cases hi : i < v.FItems.l.length
  ·obtain ⟨b, hb⟩ := h _ _ hs (List.getElem_mem hi)
   have hd2 : decide (((v.FItems.l.length : Nat) : Int) ≤ ((i : Nat) : Int)) = false := by simp; omega
   simp only [List.getElem?_eq_getElem hi, hd2, Bool.or_false]
   cases y.2 <;> simp only [guardO, Bool.not_false, Bool.not_true, if_true, Bool.false_eq_true, if_false, Option.bind_some, hb, Bool.true_or, Bool.false_or, cond_true]
   ·exact Tot.some _
   ·(repeat' (first | exact Tot.some _ | assumption | (with_reducible refine Tot.bind ?_ fun _ _ => ?_) | (with_reducible refine Tot.guard (fun _ => ?_) fun _ _ _ => ?_) | (with_reducible refine Tot.cond (fun _ => ?_) fun _ => ?_) | (with_reducible refine Tot.on fun _ _ => ?_) | split))
  ·have hd2 : decide (((v.FItems.l.length : Nat) : Int) ≤ ((i : Nat) : Int)) = true := by simp; omega
   simp only [hd2, Bool.or_true, guardO, Bool.not_true, Bool.false_eq_true, if_false, Bool.true_or, cond_true]
   exact Tot.some _
theorem fits_tot (d : TDoc) (hd : DefsOk d) (n : Nat) :
  (∀ (t : TRef) (v : TValue), SOk t.FWraps → 2 * (v.sz * 2097152 + t.FWraps.l.length) + 2 < n → Ok (fields_fits_qn n d t v)) ∧
  (∀ (v : TValue) (t : TRef), SOk t.FWraps → 2 * (v.sz * 2097152 + t.FWraps.l.length) + 3 < n → Ok (fields_fits_1_qn n v d t)) ∧
  (∀ (x : TDef) (v : TValue), (∀ i ∈ x.FInputs.l, SOk i.FType.FWraps) → 2 * (v.sz * 2097152) + 1 < n → Ok (Z12_qn n d x v)) := by
 induction n with
 | zero => exact ⟨fun _ _ _ h => by omega, fun _ _ _ h => by omega, fun _ _ _ h => by omega⟩
 | succ n ih =>
  obtain ⟨ih1, ih2, ih3⟩ := ih
  refine ⟨fun t v ht h => ?_, fun v t ht h => ?_, fun x v hx h => ?_⟩
  ·rw [fields_fits_qn]
   simp only [inner_eq ht, Option.bind_some, find_eq]
   refine Tot.cond (fun _ => Tot.some _) fun _ => Tot.on fun _ _ => Tot.cond (fun _ => Tot.some _) fun _ => Tot.cond (fun _ => Tot.on fun _ _ => Tot.some _) fun _ => ?_
   cases hl : liW (barS t.FWraps).l with
   | true =>
    have h1 := inner_lt hl; have h2 := innerT_ok ht; have h3 := h2.2; have h4 := ht.2
    simp only [cond_true]
    (repeat' (first | exact Tot.some _ | assumption | (with_reducible refine Tot.bind ?_ fun _ _ => ?_) | (with_reducible refine Tot.guard (fun _ => ?_) fun _ _ _ => ?_) | (with_reducible refine Tot.cond (fun _ => ?_) fun _ => ?_) | (with_reducible refine Tot.on fun _ _ => ?_) | split))
    ·exact ih1 _ _ h2 (by omega)
    ·exact contains_value _ _ fun x hx => ih2 x _ h2 (by have := TValue.item_lt hx; omega)
   | false =>
    simp only [cond_false]
    (repeat' (first | exact Tot.some _ | assumption | (with_reducible refine Tot.bind ?_ fun _ _ => ?_) | (with_reducible refine Tot.guard (fun _ => ?_) fun _ _ _ => ?_) | (with_reducible refine Tot.cond (fun _ => ?_) fun _ => ?_) | (with_reducible refine Tot.on fun _ _ => ?_) | split))
    rename_i hx _ _
    rw [hx]
    exact ih3 _ _ (find_ok hd _).2.2.2 (by omega)
  ·rw [fields_fits_1_qn]
   exact Tot.bind (ih1 t v ht (by omega)) fun _ _ => Tot.some _
  ·rw [Z12_qn]
   have h1 := object_loop d x v (fields_fits_qn n) v.FKeys.l 0 (fun t y ht hy => ih1 t y ht (by have := TValue.item_lt hy; have := ht.2; omega)) hx
   (repeat' (first | exact Tot.some _ | assumption | (with_reducible refine Tot.bind ?_ fun _ _ => ?_) | (with_reducible refine Tot.guard (fun _ => ?_) fun _ _ _ => ?_) | (with_reducible refine Tot.cond (fun _ => ?_) fun _ => ?_) | (with_reducible refine Tot.on fun _ _ => ?_) | split))
def fitsB (d : TDoc) (t : TRef) (v : TValue) : Bool := (fields_fits_q d t v).getD false
theorem fits_eq {d : TDoc} (hd : DefsOk d) {t : TRef} {v : TValue} (ht : SOk t.FWraps) (hv : v.sz ≤ 1048576) : fields_fits_q d t v = some (fitsB d t v) := by
 obtain ⟨b, hb⟩ := (fits_tot d hd F0).1 t v ht (by have := ht.2; rw [F0_eq]; omega)
 have : fields_fits_q d t v = some b := hb
 simp [fitsB, this]
end Go.Proofs

namespace Go.Proofs
open Go Go.Ab
def addF (c : Fields_checker) (X : List TFault) : Fields_checker := ⟨c.Fd, c.Fq, ⟨c.Fout.nl && X.isEmpty, c.Fout.l ++ X⟩⟩
theorem addF_nil (c : Fields_checker) : addF c [] = c := by obtain ⟨d, q, nl, l⟩ := c; simp [addF]
theorem addF_add (c : Fields_checker) (X Y : List TFault) : addF (addF c X) Y = addF c (X ++ Y) := by
 cases X <;> cases Y <;> simp [addF]
def Eff (d : TDoc) (f : Fields_checker → Option Fields_checker) (X : List TFault) : Prop := ∀ c, c.Fd = d → c.Fout.l.length + X.length ≤ 4398046511104 → f c = some (addF c X)
theorem Eff.bind {d : TDoc} {f g : Fields_checker → Option Fields_checker} {X Y : List TFault} (h : Eff d f X) (h2 : Eff d g Y) : Eff d (fun c => (f c).bind g) (X ++ Y) := by
 intro c hc hb
 simp only [List.length_append] at hb
 show (f c).bind g = _
 rw [h c hc (by omega), Option.bind_some, h2 (addF c X) hc (by simp only [addF, List.length_append]; omega), addF_add]
theorem Eff.id {d : TDoc} : Eff d (fun c => some c) [] := fun c _ _ => by rw [addF_nil]
theorem Eff.of {d : TDoc} {f g : Fields_checker → Option Fields_checker} {X Y : List TFault} (h : Eff d g Y) (e : X = Y) (h2 : ∀ c, c.Fd = d → f c = g c) : Eff d f X := by
 subst e; intro c hc hb; rw [h2 c hc]; exact h c hc hb
theorem Eff.cond {d : TDoc} {f g : Fields_checker → Option Fields_checker} {X Y : List TFault} (b : Bool) (h : Eff d f X) (h2 : Eff d g Y) : Eff d (fun c => _root_.cond b (f c) (g c)) (_root_.cond b X Y) := by cases b <;> assumption
def flt (b : Bool) (e : Int) (at_ : Bs) : List TFault := bif b then [⟨e, at_⟩] else []
theorem add_eff (d : TDoc) (b : Bool) (e : Int) (at_ : Bs) : Eff d (fun c => Z3_q c b e at_) (flt b e at_) := by
 intro c hc hb
 show Z3_q c b e at_ = _
 unfold Z3_q flt at *
 cases b with
 | false => rw [cond_false, cond_false, addF_nil]
 | true =>
  simp only [cond_true, List.length_cons, List.length_nil] at hb ⊢
  rw [appC_ok32 (by omega) (by simp only [List.length_cons, List.length_nil]; omega)]
  rfl
def badV (v : TValue) : Bool := (decide (v.FKind = 7) || (decide (v.FKind = 3) && (v.FText == []))) || (decide (v.FKind = 2) && decide (v.FInt < 0))
def knownX (d : TDoc) (defs : Sl TInput) (all : Sl TArg) (strict : Bool) (at_ : Bs) : List TArg → Nat → List TFault
 | [], _ => []
 | x :: r, i => (bif (!(fndI defs.l x.FName).2) || (Z10_q ⟨all.nl, all.l.take i⟩ x.FName).2 then flt true 22 at_ else flt ((!fitsB d (fndI defs.l x.FName).1.FType x.FValue) || (strict && badV x.FValue)) 23 at_) ++ knownX d defs all strict at_ r (i + 1)
theorem known_loop {d : TDoc} (hd : DefsOk d) (defs : Sl TInput) (hs : ∀ i ∈ defs.l, SOk i.FType.FWraps) (all : Sl TArg) (strict : Bool) (at_ : Bs) (l : List TArg) (i : Nat) (hl : ∀ a ∈ l, a.sz ≤ 1048576) :
  Eff d (fun c => Z7_q3 defs all strict at_ l i c) (knownX d defs all strict at_ l i) := by
 induction l generalizing i with
 | nil => exact Eff.id
 | cons x r ih =>
  have hx := hl x List.mem_cons_self
  refine Eff.of ((Eff.cond _ (add_eff d true 22 at_) (add_eff d ((!fitsB d (fndI defs.l x.FName).1.FType x.FValue) || (strict && badV x.FValue)) 23 at_)).bind (ih (i + 1) fun y hy => hl y (List.mem_cons_of_mem _ hy))) rfl fun c hc => ?_
  rw [Z7_q3]
  simp only [on, inputOf_eq, hc, fits_eq hd (inputOk hs x.FName) (show x.FValue.sz ≤ 1048576 by have := x.value_le; omega), Option.bind_some, badV, Q.some_bind]
theorem known_eff {d : TDoc} (hd : DefsOk d) (defs : Sl TInput) (hs : ∀ i ∈ defs.l, SOk i.FType.FWraps) (all : Sl TArg) (strict : Bool) (at_ : Bs) (hl : ∀ a ∈ all.l, a.sz ≤ 1048576) :
  Eff d (fun c => Z7_q c defs all strict at_) (knownX d defs all strict at_ all.l 0) := by
 refine Eff.of (known_loop hd defs hs all strict at_ all.l 0 hl) rfl fun c hc => ?_
 unfold Z7_q
 exact Q.some_bind _
def missX (at_ : Bs) (x : Sl TArg) : List TInput → List TFault
 | [] => []
 | y :: r => flt (!(Z10_q x y.FName).2) 22 at_ ++ missX at_ x r
theorem miss_eff (d : TDoc) (at_ : Bs) (x : TDir) (l : List TInput) : Eff d (fun c => Z4_q30 at_ x l c) (missX at_ x.FArgs l) := by
 induction l with
 | nil => exact Eff.id
 | cons y r ih => exact Eff.of ((add_eff d _ 22 at_).bind ih) rfl fun c hc => by rw [Z4_q30]; rfl
def needX (at_ : Bs) (x : Sl TArg) : List TInput → List TFault
 | [] => []
 | y :: r => flt ((Z106_q y.FType && !y.FHas) && !(Z10_q x y.FName).2) 22 at_ ++ needX at_ x r
theorem need_eff (d : TDoc) (at_ : Bs) (x : TSel) (l : List TInput) : Eff d (fun c => Z6_q37 x at_ l c) (needX at_ x.FArgs l) := by
 induction l with
 | nil => exact Eff.id
 | cons y r ih => exact Eff.of ((add_eff d _ 22 at_).bind ih) rfl fun c hc => by rw [Z6_q37]; rfl
def needT (s t : Bs) : TInput := ⟨s, ⟨t, ⟨false, [1]⟩⟩, false, TValue.zero, Sl.nil⟩
def argsX (name : Bs) (field : Bool) : Sl TInput :=
 bif (name == [115, 107, 105, 112]) || (name == [105, 110, 99, 108, 117, 100, 101]) then ⟨false, [needT [105, 102] [66, 111, 111, 108, 101, 97, 110]]⟩
 else bif (name == [100, 101, 102, 101, 114]) && !field then ⟨false, [needT [108, 97, 98, 101, 108] [83, 116, 114, 105, 110, 103]]⟩
 else bif (name == [115, 116, 114, 101, 97, 109]) && field then ⟨false, [needT [108, 97, 98, 101, 108] [83, 116, 114, 105, 110, 103], needT [105, 110, 105, 116, 105, 97, 108, 67, 111, 117, 110, 116] [73, 110, 116]]⟩
 else Sl.nil
theorem needed_eq (s t : Bs) : Z11_q s t = some (needT s t) := by
 unfold Z11_q Z108_q
 simp only [on, isNonNull_eq, Z107_q, Sl.nil, nnW, List.head?_nil]
 rw [show (none == some (1 : Int)) = false from rfl, cond_false]
 rw [appC_ok (by omega) (by simp)]
 rfl
theorem argsOf_eq (name : Bs) (field : Bool) : Z2_q name field = some (argsX name field) := by
 unfold Z2_q argsX
 simp only [needed_eq, Option.bind_some]
 cases (name == [115, 107, 105, 112]) || (name == [105, 110, 99, 108, 117, 100, 101]) <;> cases (name == [100, 101, 102, 101, 114]) && !field <;> cases (name == [115, 116, 114, 101, 97, 109]) && field <;> rfl
theorem argsX_ok (name : Bs) (field : Bool) : (argsX name field).l.length ≤ 2 ∧ ∀ i ∈ (argsX name field).l, SOk i.FType.FWraps := by
 have h : ∀ s t, SOk (needT s t).FType.FWraps := fun s t => ⟨fun h => (by cases h), by simp [needT]⟩
 unfold argsX
 cases (name == [115, 107, 105, 112]) || (name == [105, 110, 99, 108, 117, 100, 101]) <;> cases (name == [100, 101, 102, 101, 114]) && !field <;> cases (name == [115, 116, 114, 101, 97, 109]) && field <;> simp [Sl.nil, h]
def defsX (field : Bool) (t : TRef) (is : Bool) (x : TDir) : Sl TInput := bif ((x.FName == [115, 116, 114, 101, 97, 109]) && is) && !(liW (barS t.FWraps).l) then Sl.nil else argsX x.FName field
def dirX (d : TDoc) (s : TSel) (t : TRef) (is : Bool) (at_ : Bs) (x : TDir) (i : Nat) : List TFault :=
 bif (defsX ((!decide (s.FKind = 2)) && !decide (s.FKind = 3)) t is x).nl || (bif !(defsX ((!decide (s.FKind = 2)) && !decide (s.FKind = 3)) t is x).nl then Z93_q (bif !(defsX ((!decide (s.FKind = 2)) && !decide (s.FKind = 3)) t is x).nl then ⟨s.FDirs.nl, s.FDirs.l.take i⟩ else Sl.nil) (fun y => Z5_q y x) else false) then flt true 29 at_
 else knownX d (defsX ((!decide (s.FKind = 2)) && !decide (s.FKind = 3)) t is x) x.FArgs ((x.FName == [100, 101, 102, 101, 114]) || (x.FName == [115, 116, 114, 101, 97, 109])) at_ x.FArgs.l 0 ++ missX at_ x.FArgs (defsX ((!decide (s.FKind = 2)) && !decide (s.FKind = 3)) t is x).l
def dirsX (d : TDoc) (s : TSel) (t : TRef) (is : Bool) (at_ : Bs) : List TDir → Nat → List TFault
 | [], _ => []
 | x :: r, i => dirX d s t is at_ x i ++ dirsX d s t is at_ r (i + 1)
theorem defsX_ok (field : Bool) (t : TRef) (is : Bool) (x : TDir) : (defsX field t is x).l.length ≤ 2 ∧ ∀ i ∈ (defsX field t is x).l, SOk i.FType.FWraps := by
 unfold defsX
 cases ((x.FName == [115, 116, 114, 101, 97, 109]) && is) && !(liW (barS t.FWraps).l) with
 | true => exact ⟨by simp [Sl.nil], fun i hi => by cases hi⟩
 | false => exact argsX_ok _ _
theorem guard_isList {α : Type} (b : Bool) {t : TRef} (h : SOk t.FWraps) (k : Bool → Option α) : guardO b (Z105_q t) false k = k (b && liW (barS t.FWraps).l) := by
 cases b with
 | false => rfl
 | true => rw [isList_eq h]; rfl
theorem dirs_loop {d : TDoc} (hd : DefsOk d) (s : TSel) {t : TRef} (ht : SOk t.FWraps) (is : Bool) (at_ : Bs) (l : List TDir) (i : Nat) (hl : ∀ a ∈ l, a.sz ≤ 1048576) :
  Eff d (fun c => Z4_q4 s t is at_ l i c) (dirsX d s t is at_ l i) := by
 induction l generalizing i with
 | nil => exact Eff.id
 | cons x r ih =>
  have hx := hl x List.mem_cons_self
  have hk := known_eff hd (defsX ((!decide (s.FKind = 2)) && !decide (s.FKind = 3)) t is x) (defsX_ok _ _ _ _).2 x.FArgs ((x.FName == [100, 101, 102, 101, 114]) || (x.FName == [115, 116, 114, 101, 97, 109])) at_ fun a ha => by have := TDir.arg_le ha; omega
  refine Eff.of ((Eff.cond _ (add_eff d true 29 at_) (hk.bind (miss_eff d at_ x _))).bind (ih (i + 1) fun y hy => hl y (List.mem_cons_of_mem _ hy))) rfl fun c hc => ?_
  rw [Z4_q4]
  simp only [on, argsOf_eq, Option.bind_some, guard_isList _ ht, Q.some_bind]
  have e : (bif ((x.FName == [115, 116, 114, 101, 97, 109]) && is) && !((x.FName == [115, 116, 114, 101, 97, 109]) && is && liW (barS t.FWraps).l) then (Sl.nil : Sl TInput) else argsX x.FName ((!decide (s.FKind = 2)) && !decide (s.FKind = 3))) = defsX ((!decide (s.FKind = 2)) && !decide (s.FKind = 3)) t is x := by
   unfold defsX
   cases ((x.FName == [115, 116, 114, 101, 97, 109]) && is) <;> rfl
  simp only [e]
theorem dirs_eff {d : TDoc} (hd : DefsOk d) (s : TSel) {t : TRef} (ht : SOk t.FWraps) (is : Bool) (at_ : Bs) (hl : ∀ a ∈ s.FDirs.l, a.sz ≤ 1048576) :
  Eff d (fun c => Z4_q c s t is at_) (dirsX d s t is at_ s.FDirs.l 0) := by
 refine Eff.of (dirs_loop hd s ht is at_ s.FDirs.l 0 hl) rfl fun c hc => ?_
 unfold Z4_q
 exact Q.some_bind _
end Go.Proofs

namespace Go.Proofs
open Go Go.Ab
def sTypename : Bs := [95, 95, 116, 121, 112, 101, 110, 97, 109, 101]
def typeX (d : TDoc) (on_ f : Bs) : TRef × Bool :=
 bif !Z82_q d on_ then (⟨[], Sl.nil⟩, false)
 else bif f == sTypename then (⟨[83, 116, 114, 105, 110, 103], ⟨false, [1]⟩⟩, true)
 else bif !(fndF (fnd d.FDefs.l on_).1.FFields.l f).2 then (⟨[], Sl.nil⟩, false)
 else (⟨(fndF (fnd d.FDefs.l on_).1.FFields.l f).1.FType.FName, (fndF (fnd d.FDefs.l on_).1.FFields.l f).1.FType.FWraps⟩, true)
theorem type_eq {d : TDoc} (hd : DefsOk d) (on_ f : Bs) : Z1_q d on_ f = some (typeX d on_ f) := by
 unfold Z1_q typeX
 simp only [on, find_eq, fieldOf_eq, Z107_q, clone_eq (fieldOk (find_ok hd on_).2.2.1 f).1, Option.bind_some]
 have hs : Z108_q ⟨[83, 116, 114, 105, 110, 103], Sl.nil⟩ = some ⟨[83, 116, 114, 105, 110, 103], ⟨false, [1]⟩⟩ := by kernel_rfl
 rw [hs]
 cases Z82_q d on_ with
 | false => rfl
 | true =>
  simp only [Bool.not_true, cond_false]
  show (bif f == sTypename then _ else _) = some (bif f == sTypename then _ else _)
  cases f == sTypename with
  | true => rfl
  | false =>
   simp only [cond_false]
   cases (fndF (fnd d.FDefs.l on_).1.FFields.l f).2 <;> rfl
theorem typeX_ok {d : TDoc} (hd : DefsOk d) (on_ f : Bs) : SOk (typeX d on_ f).1.FWraps := by
 have h1 := (fieldOk (find_ok hd on_).2.2.1 f).1
 unfold typeX
 cases Z82_q d on_ with
 | false => exact ⟨fun _ => rfl, by simp [Sl.nil]⟩
 | true =>
  simp only [Bool.not_true, cond_false]
  cases f == sTypename with
  | true => exact ⟨fun h => (by cases h), by simp⟩
  | false =>
   simp only [cond_false]
   cases (fndF (fnd d.FDefs.l on_).1.FFields.l f).2 with
   | false => exact ⟨fun _ => rfl, by simp [Sl.nil]⟩
   | true => exact h1
def keyX (s : TSel) : Bs := bif s.FAlias == [] then s.FName else s.FAlias
def placeX (s : TSel) (at_ : Bs) : Bs := at_ ++ ([47] ++ keyX s)
def defX (d : TDoc) (s : TSel) (on_ : Bs) : TField := bif !(s.FName == sTypename) then (fndF (fnd d.FDefs.l on_).1.FFields.l s.FName).1 else ⟨[], Sl.nil, TRef.zero, Sl.nil⟩
def leafX (d : TDoc) (s : TSel) (t : TRef) (at_ : Bs) : List TFault :=
 flt ((Z87_q d t.FName && decide ((0 : Int) < ((s.FSels.l.length : Nat) : Int))) || ((bif !(Z87_q d t.FName && decide ((0 : Int) < ((s.FSels.l.length : Nat) : Int))) then Z82_q d t.FName else false) && decide (((s.FSels.l.length : Nat) : Int) = 0))) 21 at_
def ownX (d : TDoc) (s : TSel) (on_ at_ : Bs) : List TFault :=
 flt (Z103_q s.FAlias) 6 at_ ++ (flt ((!(typeX d on_ s.FName).2) && (bif !(typeX d on_ s.FName).2 then Z82_q d on_ else false)) 20 at_ ++
  ((bif (typeX d on_ s.FName).2 then leafX d s (typeX d on_ s.FName).1 at_ ++ (knownX d (defX d s on_).FArgs s.FArgs false at_ s.FArgs.l 0 ++ needX at_ s.FArgs (defX d s on_).FArgs.l) else []) ++
   dirsX d s (typeX d on_ s.FName).1 (typeX d on_ s.FName).2 at_ s.FDirs.l 0))
def selX (k : List TSel → Bs → Bs → List TFault) (d : TDoc) (on_ at_ : Bs) (s : TSel) : List TFault :=
 bif decide (s.FKind = 2) then dirsX d s ⟨[], Sl.nil⟩ false at_ s.FDirs.l 0
 else bif decide (s.FKind = 3) then dirsX d s ⟨[], Sl.nil⟩ false at_ s.FDirs.l 0 ++ k s.FSels.l (bif !(s.FOn == []) then s.FOn else on_) at_
 else ownX d s on_ (placeX s at_) ++ k s.FSels.l (typeX d on_ s.FName).1.FName (placeX s at_)
def selsX : Nat → TDoc → List TSel → Bs → Bs → List TFault
 | 0, _, _, _, _ => []
 | n + 1, d, l, on_, at_ => l.flatMap (selX (selsX n d) d on_ at_)
theorem defX_ok {d : TDoc} (hd : DefsOk d) (s : TSel) (on_ : Bs) : (defX d s on_).FArgs.l.length ≤ 1048576 ∧ ∀ i ∈ (defX d s on_).FArgs.l, SOk i.FType.FWraps := by
 unfold defX
 cases s.FName == sTypename with
 | true => exact ⟨by simp [Sl.nil], fun i hi => by cases hi⟩
 | false => exact (fieldOk (find_ok hd on_).2.2.1 _).2
theorem nil_ok : SOk (TRef.mk [] Sl.nil).FWraps := ⟨fun _ => rfl, by simp [Sl.nil]⟩
theorem TSel.dir_le {s : TSel} (hs : s.sz ≤ 1048576) : (∀ a ∈ s.FDirs.l, a.sz ≤ 1048576) ∧ ∀ a ∈ s.FArgs.l, a.sz ≤ 1048576 := by
 have h := s.sz_def
 exact ⟨fun a ha => by have := Sl.mem_le (f := TDir.sz) ha; omega, fun a ha => by have := Sl.mem_le (f := TArg.sz) ha; omega⟩
theorem TSel.key_le (s : TSel) (at_ : Bs) : (placeX s at_).length + Sl.sz TSel.sz s.FSels ≤ at_.length + s.sz := by
 have h := s.sz_def
 have h1 : Bs.sz s.FAlias = s.FAlias.length + 1 := rfl
 have h2 : Bs.sz s.FName = s.FName.length + 1 := rfl
 unfold placeX keyX
 cases s.FAlias == [] <;> simp <;> omega
theorem loop_eff {d : TDoc} (on_ at_ : Bs) (k : Fields_checker → Sl TSel → Bs → Bs → Option Fields_checker) (kf : Fields_checker → TSel → Bs → Bs → Option Fields_checker) (X : TSel → List TFault) (l : List TSel)
  (h : ∀ s ∈ l, Eff d (fun c => bif decide (s.FKind = 2) then (Z4_q c s ⟨[], Sl.nil⟩ false at_) else (bif decide (s.FKind = 3) then ((Z4_q c s ⟨[], Sl.nil⟩ false at_).bind fun x => k x s.FSels (bif !(s.FOn == []) then s.FOn else on_) at_) else (kf c s on_ at_))) (X s)) :
  Eff d (fun c => fields_checker_sels_q3 on_ at_ k kf l c) (l.flatMap X) := by
 induction l with
 | nil => exact Eff.id
 | cons s r ih =>
  refine Eff.of ((h s List.mem_cons_self).bind (ih fun y hy => h y (List.mem_cons_of_mem _ hy))) (by simp) fun c hc => ?_
  rw [fields_checker_sels_q3]
  simp only [on, Q.some_bind]
theorem add_bind {c : Fields_checker} {b : Bool} {e : Int} {a : Bs} {k k' : Fields_checker → Option Fields_checker} (h : ∀ x : Fields_checker, x.Fd = c.Fd → k x = k' x) : (Z3_q c b e a).bind k = (Z3_q c b e a).bind k' := by
 unfold Z3_q
 cases b with
 | false => exact h c rfl
 | true =>
  simp only [cond_true]
  cases appC 24 c.Fout ⟨false, [⟨e, a⟩]⟩ with
  | none => rfl
  | some x => exact h _ rfl
theorem sels_tot {d : TDoc} (hd : DefsOk d) (n : Nat) :
  (∀ (l : Sl TSel) (on_ at_ : Bs) (m : Nat), 2 * Sl.sz TSel.sz l < n → Sl.sz TSel.sz l ≤ 1048576 → at_.length + Sl.sz TSel.sz l ≤ 1073741824 → Sl.sz TSel.sz l ≤ m → Eff d (fun c => fields_checker_sels_qn n c l on_ at_) (selsX m d l.l on_ at_)) ∧
  (∀ (s : TSel) (on_ at_ : Bs) (m : Nat), 2 * s.sz < n → s.sz ≤ 1048576 → at_.length + s.sz ≤ 1073741824 → s.sz ≤ m → Eff d (fun c => Z6_qn n c s on_ at_) (ownX d s on_ (placeX s at_) ++ selsX m d s.FSels.l (typeX d on_ s.FName).1.FName (placeX s at_))) := by
 induction n with
 | zero => exact ⟨fun _ _ _ _ h => by omega, fun _ _ _ _ h => by omega⟩
 | succ n ih =>
  obtain ⟨ih1, ih2⟩ := ih
  refine ⟨fun l on_ at_ m h1 h2 h3 h4 => ?_, fun s on_ at_ m h1 h2 h3 h4 => ?_⟩
  ·obtain ⟨m, rfl⟩ : ∃ k, m = k + 1 := ⟨m - 1, by have : 1 ≤ Sl.sz TSel.sz l := Sl.sz_pos _ _; omega⟩
   refine Eff.of (loop_eff on_ at_ (fields_checker_sels_qn n) (Z6_qn n) (selX (selsX m d) d on_ at_) l.l fun s hs => ?_) rfl fun c hc => by rw [fields_checker_sels_qn]; exact Q.some_bind _
   have h5 := Sl.mem_le (f := TSel.sz) hs
   have h6 := s.sub_lt
   have h7 := TSel.dir_le (s := s) (by omega)
   unfold selX
   exact Eff.cond _ (dirs_eff hd s nil_ok false at_ h7.1) (Eff.cond _ ((dirs_eff hd s nil_ok false at_ h7.1).bind (ih1 _ _ _ m (by omega) (by omega) (by omega) (by omega))) (ih2 s on_ at_ m (by omega) (by omega) (by omega) (by omega)))
  ·have h6 := s.sub_lt
   have h7 := TSel.dir_le (s := s) (by omega)
   have h8 := s.key_le at_
   have hk : (keyX s).length + 1 ≤ s.sz := by have := s.sz_def; unfold placeX at h8; simp at h8; omega
   have e1 : catC [47] (keyX s) = some ([47] ++ keyX s) := catC_ok (by simp; omega)
   have e2 : catC at_ ([47] ++ keyX s) = some (placeX s at_) := catC_ok (by simp; omega)
   have hD := defX_ok hd s on_
   have hT := typeX_ok hd on_ s.FName
   have hmid : Eff d (fun c => Option.bind (bif (typeX d on_ s.FName).2 then ((Z3_q c ((Z87_q d (typeX d on_ s.FName).1.FName && decide ((0 : Int) < ((s.FSels.l.length : Nat) : Int))) || ((bif !(Z87_q d (typeX d on_ s.FName).1.FName && decide ((0 : Int) < ((s.FSels.l.length : Nat) : Int))) then Z82_q d (typeX d on_ s.FName).1.FName else false) && decide (((s.FSels.l.length : Nat) : Int) = 0))) 21 (placeX s at_)).bind fun x => (Z7_q x (defX d s on_).FArgs s.FArgs false (placeX s at_)).bind fun y => Z6_q37 s (placeX s at_) (defX d s on_).FArgs.l y) else some c) fun y => Z4_q y s (typeX d on_ s.FName).1 (typeX d on_ s.FName).2 (placeX s at_)) ((bif (typeX d on_ s.FName).2 then leafX d s (typeX d on_ s.FName).1 (placeX s at_) ++ (knownX d (defX d s on_).FArgs s.FArgs false (placeX s at_) s.FArgs.l 0 ++ needX (placeX s at_) s.FArgs (defX d s on_).FArgs.l) else []) ++
   dirsX d s (typeX d on_ s.FName).1 (typeX d on_ s.FName).2 (placeX s at_) s.FDirs.l 0) :=
    (Eff.cond _ ((add_eff d _ 21 _).bind ((known_eff hd _ hD.2 s.FArgs false _ h7.2).bind (need_eff d _ s _))) Eff.id).bind (dirs_eff hd s hT _ _ h7.1)
   refine Eff.of (((add_eff d (Z103_q s.FAlias) 6 (placeX s at_)).bind ((add_eff d ((!(typeX d on_ s.FName).2) && (bif !(typeX d on_ s.FName).2 then Z82_q d on_ else false)) 20 (placeX s at_)).bind hmid)).bind (ih1 s.FSels (typeX d on_ s.FName).1.FName (placeX s at_) m (by omega) (by omega) (by omega) (by omega))) rfl fun c hc => ?_
   rw [Z6_qn]
   simp only [on, find_eq, fieldOf_eq, Q.some_bind]
   show ((catC [47] (keyX s)).bind fun x6 => (catC at_ x6).bind _) = _
   rw [e1, Option.bind_some, e2, Option.bind_some]
   simp only [Option.bind_assoc]
   refine add_bind fun x10 h10 => ?_
   simp only [h10, hc, type_eq hd, Option.bind_some]
   refine add_bind fun x15 h15 => ?_
   simp only [h15, h10, hc]
   refine congrArg (fun z => Option.bind (cond _ z _) _) ?_
   refine add_bind fun x27 h27 => ?_
   simp only [h27, h15, h10, hc]
   rfl
end Go.Proofs

namespace Go.Proofs
open Go Go.Ab
def unseen (fr : Sl TFrag) (seen : List Bs) : Nat := (fr.l.filter fun f => !seen.contains f.FName).length
theorem filter_le {α : Type} {p q : α → Bool} {l : List α} (h : ∀ x ∈ l, p x = true → q x = true) : (l.filter p).length ≤ (l.filter q).length := by
 induction l with
 | nil => simp
 | cons a r ih =>
  have := ih fun x hx => h x (List.mem_cons_of_mem _ hx)
  have h1 := h a List.mem_cons_self
  simp only [List.filter_cons]
  cases hp : p a <;> cases hq : q a <;> simp_all <;> omega
theorem filter_lt {α : Type} {p q : α → Bool} {l : List α} {y : α} (h : ∀ x ∈ l, p x = true → q x = true) (hy : y ∈ l) (h1 : p y = false) (h2 : q y = true) : (l.filter p).length < (l.filter q).length := by
 induction l with
 | nil => cases hy
 | cons a r ih =>
  have h3 := filter_le (l := r) (p := p) (q := q) fun x hx => h x (List.mem_cons_of_mem _ hx)
  simp only [List.filter_cons]
  rcases List.mem_cons.1 hy with rfl | hy
  ·simp [h1, h2]; omega
  ·have := ih (fun x hx => h x (List.mem_cons_of_mem _ hx)) hy
   have h4 := h a List.mem_cons_self
   cases hp : p a <;> cases hq : q a <;> simp_all <;> omega
theorem unseen_le {fr : Sl TFrag} {a b : List Bs} (h : ∀ s ∈ a, s ∈ b) : unseen fr b ≤ unseen fr a := filter_le fun x _ hp => by
 simp at hp ⊢; exact fun h2 => hp (h _ h2)
theorem unseen_lt {fr : Sl TFrag} {a b : List Bs} (h : ∀ s ∈ a, s ∈ b) {f : TFrag} (hf : f ∈ fr.l) (h1 : f.FName ∉ a) (h2 : f.FName ∈ b) : unseen fr b < unseen fr a :=
 filter_lt (fun x _ hp => by simp at hp ⊢; exact fun h2 => hp (h _ h2)) hf (by simpa using h2) (by simpa using h1)
theorem mem_insS {l : List Bs} {s t : Bs} (h : t ∈ l) : t ∈ insS l s := by unfold insS; split <;> simp [h]
theorem self_insS (l : List Bs) (s : Bs) : s ∈ insS l s := by
 unfold insS; split
 ·rename_i h; simpa using h
 ·simp
def Root (fr : Sl TFrag) (f : Fields_checker → Option (List Bs × List Bs)) (seen : List Bs) : Prop := ∃ r, (∀ c : Fields_checker, c.Fq.FFrags = fr → f c = some r) ∧ ∀ s ∈ seen, s ∈ r.2
theorem Root.bind {fr : Sl TFrag} {f : Fields_checker → Option (List Bs × List Bs)} {g : Fields_checker → List Bs × List Bs → Option (List Bs × List Bs)} {seen : List Bs} (h : Root fr f seen) (h2 : ∀ r : List Bs × List Bs, (∀ s ∈ seen, s ∈ r.2) → Root fr (fun c => g c r) r.2) : Root fr (fun c => (f c).bind (g c)) seen := by
 obtain ⟨r, h3, h4⟩ := h
 obtain ⟨r2, h5, h6⟩ := h2 r h4
 exact ⟨r2, fun c hc => by show (f c).bind _ = _; rw [h3 c hc, Option.bind_some]; exact h5 c hc, fun s hs => h6 s (h4 s hs)⟩
theorem Root.some {fr : Sl TFrag} {r : List Bs × List Bs} {seen : List Bs} (h : ∀ s ∈ seen, s ∈ r.2) : Root fr (fun _ => Option.some r) seen := ⟨r, fun _ _ => rfl, h⟩
theorem roots_in {fr : Sl TFrag} (x : TSel) (k : Fields_checker → Sl TSel → List Bs → List Bs → Option (List Bs × List Bs)) (seen0 : List Bs) (l : List TFrag) (hl : ∀ f ∈ l, f ∈ fr.l)
  (hk : ∀ (f : TFrag) keys seen, f ∈ fr.l → unseen fr seen < unseen fr seen0 → Root fr (fun c => k c f.FSels keys seen) seen) (keys seen : List Bs) (hs : ∀ s ∈ seen0, s ∈ seen) : Root fr (fun c => Z8_q23 c x k l keys seen) seen := by
 induction l generalizing keys seen with
 | nil => exact Root.some fun _ h => h
 | cons f r ih =>
  have ih := ih fun y hy => hl y (List.mem_cons_of_mem _ hy)
  have hf := hl f List.mem_cons_self
  have key : Root fr (fun c => bif (((f.FName == x.FName)) && (!(seen.contains x.FName))) then ((k c f.FSels keys (insS seen x.FName)).bind fun x38 => some (x38.1, x38.2)) else (some (keys, seen))) seen := by
   cases hc : ((f.FName == x.FName)) && (!(seen.contains x.FName)) with
   | false => exact Root.some fun _ h => h
   | true =>
    simp at hc
    have h1 : unseen fr (insS seen x.FName) < unseen fr seen0 := Nat.lt_of_lt_of_le (unseen_lt (fun s h => mem_insS h) hf (by rw [hc.1]; exact hc.2) (by rw [hc.1]; exact self_insS _ _)) (unseen_le hs)
    obtain ⟨r, h2, h3⟩ := hk f keys (insS seen x.FName) hf h1
    exact ⟨r, fun c hcc => by show Option.bind _ _ = _; rw [show k c f.FSels keys (insS seen x.FName) = _ from h2 c hcc]; rfl, fun s h => h3 s (mem_insS h)⟩
  obtain ⟨r1, h1, h2⟩ := key.bind (g := fun c z => Z8_q23 c x k r z.1 z.2) fun z hz => ih z.1 z.2 fun s h => hz s (hs s h)
  exact ⟨r1, fun c hc => by show Z8_q23 c x k (f :: r) keys seen = _; rw [Z8_q23]; exact h1 c hc, h2⟩
theorem roots_loop {fr : Sl TFrag} (k : Fields_checker → Sl TSel → List Bs → List Bs → Option (List Bs × List Bs)) (seen0 : List Bs) (l : List TSel)
  (hk : ∀ (f : TFrag) keys seen, f ∈ fr.l → unseen fr seen < unseen fr seen0 → Root fr (fun c => k c f.FSels keys seen) seen)
  (hk2 : ∀ (s : TSel) keys seen, s ∈ l → (∀ x ∈ seen0, x ∈ seen) → Root fr (fun c => k c s.FSels keys seen) seen) (keys seen : List Bs) (hs : ∀ s ∈ seen0, s ∈ seen) : Root fr (fun c => Z8_q3 c k l keys seen) seen := by
 induction l generalizing keys seen with
 | nil => exact Root.some fun _ h => h
 | cons x r ih =>
  have ih := ih fun s ks sn h => hk2 s ks sn (List.mem_cons_of_mem _ h)
  have key : Root fr (fun c => bif (decide (x.FKind = (3 : Int))) then ((k c x.FSels keys seen).bind fun x18 => some (x18.1, x18.2)) else (bif (decide (x.FKind = (2 : Int))) then (Option.bind (Z8_q23 c x k c.Fq.FFrags.l keys seen) fun z23 => some (z23.1, z23.2)) else (bif (!(x.FAlias == ([] : Bs))) then (some ((insS keys x.FAlias), seen)) else (some ((insS keys x.FName), seen))))) seen := by
   cases decide (x.FKind = (3 : Int)) with
   | true =>
    obtain ⟨r, h2, h3⟩ := hk2 x keys seen List.mem_cons_self hs
    exact ⟨r, fun c hcc => by show Option.bind _ _ = _; rw [show k c x.FSels keys seen = _ from h2 c hcc]; rfl, h3⟩
   | false =>
    cases decide (x.FKind = (2 : Int)) with
    | true =>
     obtain ⟨r, h2, h3⟩ := roots_in x k seen0 fr.l (fun f hf => hf) hk keys seen hs
     exact ⟨r, fun c hcc => by show Option.bind (Z8_q23 c x k c.Fq.FFrags.l keys seen) _ = _; rw [hcc, show Z8_q23 c x k fr.l keys seen = _ from h2 c hcc]; rfl, h3⟩
    | false =>
     cases !(x.FAlias == ([] : Bs)) with
     | true => exact Root.some (r := (insS keys x.FAlias, seen)) fun _ h => h
     | false => exact Root.some (r := (insS keys x.FName, seen)) fun _ h => h
  obtain ⟨r1, h1, h2⟩ := key.bind (g := fun c z => Z8_q3 c k r z.1 z.2) fun z hz => ih z.1 z.2 fun s h => hz s (hs s h)
  exact ⟨r1, fun c hc => by show Z8_q3 c k (x :: r) keys seen = _; rw [Z8_q3]; exact h1 c hc, h2⟩
theorem roots_tot {fr : Sl TFrag} (hfr : ∀ f ∈ fr.l, Sl.sz TSel.sz f.FSels ≤ 1048576) (n : Nat) : ∀ (l : Sl TSel) (keys seen : List Bs), Sl.sz TSel.sz l ≤ 1048576 → Sl.sz TSel.sz l + unseen fr seen * 2097152 < n → Root fr (fun c => Z8_qn n c l keys seen) seen := by
 induction n with
 | zero => intro l keys seen _ h; omega
 | succ n ih =>
  intro l keys seen h1 h2
  obtain ⟨r, h3, h4⟩ := roots_loop (fr := fr) (Z8_qn n) seen l.l (fun f ks sn hf hu => ih _ _ _ (hfr f hf) (by have := hfr f hf; omega))
   (fun s ks sn hs hsn => ih _ _ _ (by have := Sl.mem_le (f := TSel.sz) hs; have := s.sub_lt; omega) (by have := Sl.mem_le (f := TSel.sz) hs; have := s.sub_lt; have := unseen_le (fr := fr) hsn; omega)) keys seen fun _ h => h
  exact ⟨r, fun c hc => by show Z8_qn (n + 1) c l keys seen = _; rw [Z8_qn]; rw [show Z8_q3 c (Z8_qn n) l.l keys seen = _ from h3 c hc]; rfl, h4⟩
def bare (fr : Sl TFrag) : Fields_checker := ⟨⟨Sl.nil⟩, ⟨Sl.nil, fr⟩, Sl.nil⟩
def keysX (fr : Sl TFrag) (l : Sl TSel) : List Bs := ((Z8_q (bare fr) l [] []).getD ([], [])).1
theorem roots_eq {fr : Sl TFrag} (hfr : ∀ f ∈ fr.l, Sl.sz TSel.sz f.FSels ≤ 1048576) (hl : fr.l.length ≤ 1048576) (l : Sl TSel) (h : Sl.sz TSel.sz l ≤ 1048576) (c : Fields_checker) (hc : c.Fq.FFrags = fr) : ∃ y, Z8_q c l [] [] = some (keysX fr l, y) := by
 have hu : unseen fr [] ≤ 1048576 := Nat.le_trans (List.length_filter_le _ _) hl
 obtain ⟨r, h1, _⟩ := roots_tot hfr F0 l [] [] h (by rw [F0_eq]; omega)
 have e1 : Z8_q c l [] [] = some r := h1 c hc
 have e2 : Z8_q (bare fr) l [] [] = some r := h1 _ rfl
 exact ⟨r.2, by rw [e1]; simp [keysX, e2]⟩
def M0 : Nat := 2097152
def opX (d : TDoc) (fr : Sl TFrag) (o : TOp) : List TFault :=
 flt ((((!(fnd d.FDefs.l (Z88_q o.FKind)).2) || (!decide ((fnd d.FDefs.l (Z88_q o.FKind)).1.FKind = (1 : Int)))) || ((decide (o.FKind = (3 : Int))) && (!decide ((((seenM (keysX fr o.FSels)).length : Nat) : Int) = (1 : Int)))))) 30 o.FName ++ selsX M0 d o.FSels.l (Z88_q o.FKind) o.FName
def fragX (d : TDoc) (f : TFrag) : List TFault := selsX M0 d f.FSels.l f.FOn f.FName
theorem sels_eff {d : TDoc} (hd : DefsOk d) (l : Sl TSel) (on_ at_ : Bs) (h : Sl.sz TSel.sz l ≤ 1048576) (h2 : at_.length ≤ 1048576) : Eff d (fun c => fields_checker_sels_q c l on_ at_) (selsX M0 d l.l on_ at_) :=
 (sels_tot hd F0).1 l on_ at_ M0 (by rw [F0_eq]; omega) h (by omega) (by unfold M0; omega)
theorem frags_eff {d : TDoc} (hd : DefsOk d) (l : List TFrag) (hl : ∀ f ∈ l, f.sz ≤ 1048576) : Eff d (fun c => Z0_q12 l c) (l.flatMap (fragX d)) := by
 induction l with
 | nil => exact Eff.id
 | cons f r ih =>
  have h1 := hl f List.mem_cons_self
  have h2 := f.sz_def; have h3 : Bs.sz f.FName = f.FName.length + 1 := rfl
  refine Eff.of ((sels_eff hd f.FSels f.FOn f.FName (by omega) (by omega)).bind (ih fun y hy => hl y (List.mem_cons_of_mem _ hy))) (by simp [fragX]) fun c hc => ?_
  rw [Z0_q12]; rfl
theorem ops_eff {d : TDoc} (hd : DefsOk d) {fr : Sl TFrag} (hfr : ∀ f ∈ fr.l, Sl.sz TSel.sz f.FSels ≤ 1048576) (hfl : fr.l.length ≤ 1048576) (l : List TOp) (hl : ∀ f ∈ l, f.sz ≤ 1048576) (c : Fields_checker) (hc : c.Fd = d) (hq : c.Fq.FFrags = fr) (hb : c.Fout.l.length + (l.flatMap (opX d fr)).length ≤ 4398046511104) :
  Z0_q24 d l c = some (addF c (l.flatMap (opX d fr))) := by
 induction l generalizing c with
 | nil => rw [Z0_q24]; simp [addF_nil]
 | cons o r ih =>
  have h1 := hl o List.mem_cons_self
  have h2 := o.sz_def; have h3 : Bs.sz o.FName = o.FName.length + 1 := rfl
  simp only [List.flatMap_cons, List.length_append] at hb ⊢
  have he : Eff d _ (opX d fr o) := (add_eff d ((((!(fnd d.FDefs.l (Z88_q o.FKind)).2) || (!decide ((fnd d.FDefs.l (Z88_q o.FKind)).1.FKind = (1 : Int)))) || ((decide (o.FKind = (3 : Int))) && (!decide ((((seenM (keysX fr o.FSels)).length : Nat) : Int) = (1 : Int)))))) 30 o.FName).bind (sels_eff hd o.FSels (Z88_q o.FKind) o.FName (by omega) (by omega))
  obtain ⟨y, hy⟩ := roots_eq hfr hfl o.FSels (by omega) c hq
  have h4 := he c hc (by omega)
  dsimp only at h4
  rw [Z0_q24]
  simp only [on, find_eq, hy, Option.bind_some]
  rw [← Option.bind_assoc, h4, Option.bind_some, ih (fun y hy => hl y (List.mem_cons_of_mem _ hy)) (addF c (opX d fr o)) hc hq (by simp only [addF, List.length_append]; omega), addF_add]
def checkX (d : TDoc) (q : TQuery) : List TFault := q.FOps.l.flatMap (opX d q.FFrags) ++ q.FFrags.l.flatMap (fragX d)
theorem check_eq {d : TDoc} (hd : DefsOk d) (q : TQuery) (hq : q.sz ≤ 1048576) (hb : (checkX d q).length ≤ 4398046511104) : ∃ nl, Z0_q d q = some ⟨nl, checkX d q⟩ := by
 have hl := q.lens
 unfold checkX at *
 simp only [List.length_append] at hb
 have h1 := ops_eff hd (fr := q.FFrags) (fun f hf => by have := TQuery.frag_le hf; have := f.sz_def; omega) (by omega) q.FOps.l (fun o ho => by have := TQuery.op_le ho; omega) ⟨d, q, Sl.nil⟩ rfl rfl (by simp only [Sl.nil, List.length_nil]; omega)
 have h2 := frags_eff hd q.FFrags.l (fun f hf => by have := TQuery.frag_le hf; omega) (addF ⟨d, q, Sl.nil⟩ (q.FOps.l.flatMap (opX d q.FFrags))) rfl (by simp only [addF, Sl.nil, List.nil_append]; omega)
 unfold Z0_q
 rw [h1]
 simp only [Option.bind_some, on]
 rw [show Z0_q12 q.FFrags.l (addF ⟨d, q, Sl.nil⟩ (q.FOps.l.flatMap (opX d q.FFrags))) = _ from h2]
 exact ⟨_, by simp [addF, Sl.nil]; rfl⟩
end Go.Proofs



namespace Go.Proofs
open Go Go.Ab
set_option maxRecDepth 100000 in
theorem knows14 : Z16 = some true := by kernel_rfl
end Go.Proofs

namespace Go.Proofs
open Go Go.Ab
theorem cond_le {α : Type} {n : Nat} (c : Bool) {a b : List α} (h1 : a.length ≤ n) (h2 : b.length ≤ n) : (cond c a b).length ≤ n := by cases c <;> assumption
theorem flt_le (b : Bool) (e : Int) (a : Bs) : (flt b e a).length ≤ 1 := by cases b <;> simp [flt]
theorem knownX_le (d : TDoc) (defs : Sl TInput) (all : Sl TArg) (st : Bool) (a : Bs) (l : List TArg) (i : Nat) : (knownX d defs all st a l i).length ≤ l.length := by
 induction l generalizing i with
 | nil => simp [knownX]
 | cons x r ih =>
  have := ih (i + 1)
  rw [knownX]
  cases (!(fndI defs.l x.FName).2) || (Z10_q ⟨all.nl, all.l.take i⟩ x.FName).2 with
  | true => have := flt_le true 22 a; simp; omega
  | false => have := flt_le ((!fitsB d (fndI defs.l x.FName).1.FType x.FValue) || (st && badV x.FValue)) 23 a; simp; omega
theorem missX_le (a : Bs) (x : Sl TArg) (l : List TInput) : (missX a x l).length ≤ l.length := by
 induction l with
 | nil => simp [missX]
 | cons y r ih => have := flt_le (!(Z10_q x y.FName).2) 22 a; rw [missX]; simp; omega
theorem needX_le (a : Bs) (x : Sl TArg) (l : List TInput) : (needX a x l).length ≤ l.length := by
 induction l with
 | nil => simp [needX]
 | cons y r ih => have := flt_le ((Z106_q y.FType && !y.FHas) && !(Z10_q x y.FName).2) 22 a; rw [needX]; simp; omega
theorem dirX_le (d : TDoc) (s : TSel) (t : TRef) (is : Bool) (a : Bs) (x : TDir) (i : Nat) : (dirX d s t is a x i).length ≤ x.sz := by
 have h := x.sz_def; have h2 := Sl.len_lt (f := TArg.sz) x.FArgs TArg.pos; have h3 := Bs.sz_pos x.FName
 have h4 := knownX_le d (defsX ((!decide (s.FKind = 2)) && !decide (s.FKind = 3)) t is x) x.FArgs ((x.FName == [100, 101, 102, 101, 114]) || (x.FName == [115, 116, 114, 101, 97, 109])) a x.FArgs.l 0
 have h5 := missX_le a x.FArgs (defsX ((!decide (s.FKind = 2)) && !decide (s.FKind = 3)) t is x).l
 have h6 := (defsX_ok ((!decide (s.FKind = 2)) && !decide (s.FKind = 3)) t is x).1
 have h7 := flt_le true 29 a
 unfold dirX
 refine cond_le _ (by omega) ?_
 simp only [List.length_append]; omega
theorem dirsX_le (d : TDoc) (s : TSel) (t : TRef) (is : Bool) (a : Bs) (l : List TDir) (i : Nat) : (dirsX d s t is a l i).length ≤ (l.map TDir.sz).sum := by
 induction l generalizing i with
 | nil => simp [dirsX]
 | cons x r ih => have := ih (i + 1); have := dirX_le d s t is a x i; rw [dirsX]; simp; omega
theorem ownX_le {d : TDoc} (hd : DefsOk d) (s : TSel) (on_ a : Bs) : (ownX d s on_ a).length ≤ 1048579 + s.FArgs.l.length + (s.FDirs.l.map TDir.sz).sum := by
 have h1 := flt_le (Z103_q s.FAlias) 6 a
 have h2 := flt_le ((!(typeX d on_ s.FName).2) && (bif !(typeX d on_ s.FName).2 then Z82_q d on_ else false)) 20 a
 have h3 := dirsX_le d s (typeX d on_ s.FName).1 (typeX d on_ s.FName).2 a s.FDirs.l 0
 have h4 := knownX_le d (defX d s on_).FArgs s.FArgs false a s.FArgs.l 0
 have h5 := needX_le a s.FArgs (defX d s on_).FArgs.l
 have h6 := (defX_ok hd s on_).1
 have h7 : (leafX d s (typeX d on_ s.FName).1 a).length ≤ 1 := flt_le _ _ _
 have h8 : (bif (typeX d on_ s.FName).2 then leafX d s (typeX d on_ s.FName).1 a ++ (knownX d (defX d s on_).FArgs s.FArgs false a s.FArgs.l 0 ++ needX a s.FArgs (defX d s on_).FArgs.l) else []).length ≤ 1048577 + s.FArgs.l.length := by
  refine cond_le _ ?_ (by simp)
  simp only [List.length_append]; omega
 unfold ownX
 simp only [List.length_append]; omega
theorem flatMap_le {α β : Type} {f : α → List β} {g : α → Nat} {l : List α} (h : ∀ x ∈ l, (f x).length ≤ g x * 2097152) : (l.flatMap f).length ≤ (l.map g).sum * 2097152 := by
 induction l with
 | nil => simp
 | cons x r ih =>
  have h1 := h x List.mem_cons_self; have h2 := ih fun y hy => h y (List.mem_cons_of_mem _ hy)
  simp only [List.flatMap_cons, List.length_append, List.map_cons, List.sum_cons]; omega
theorem selX_le {d : TDoc} (hd : DefsOk d) (k : List TSel → Bs → Bs → List TFault) (on_ a : Bs) (s : TSel) (hk : ∀ on2 a2, (k s.FSels.l on2 a2).length ≤ (s.FSels.l.map TSel.sz).sum * 2097152) : (selX k d on_ a s).length ≤ s.sz * 2097152 := by
 have h := s.sz_def
 have h1 : Sl.sz TSel.sz s.FSels = 1 + (s.FSels.l.map TSel.sz).sum := rfl
 have h2 : Sl.sz TDir.sz s.FDirs = 1 + (s.FDirs.l.map TDir.sz).sum := rfl
 have h3 := Sl.len_lt (f := TArg.sz) s.FArgs TArg.pos
 have h4 := dirsX_le d s ⟨[], Sl.nil⟩ false a s.FDirs.l 0
 have h5 := ownX_le hd s on_ (placeX s a)
 have h6 := hk (bif !(s.FOn == []) then s.FOn else on_) a
 have h7 := hk (typeX d on_ s.FName).1.FName (placeX s a)
 unfold selX
 refine cond_le _ (by omega) (cond_le _ ?_ ?_) <;> simp only [List.length_append] <;> omega
theorem selsX_le {d : TDoc} (hd : DefsOk d) (n : Nat) (l : List TSel) (on_ a : Bs) : (selsX n d l on_ a).length ≤ (l.map TSel.sz).sum * 2097152 := by
 induction n generalizing l on_ a with
 | zero => simp [selsX]
 | succ n ih => rw [selsX]; exact flatMap_le fun s _ => selX_le hd _ on_ a s fun on2 a2 => ih _ _ _
theorem opX_le {d : TDoc} (hd : DefsOk d) (fr : Sl TFrag) (o : TOp) : (opX d fr o).length ≤ o.sz * 2097152 := by
 have h := o.sz_def
 have h1 : Sl.sz TSel.sz o.FSels = 1 + (o.FSels.l.map TSel.sz).sum := rfl
 have h2 := selsX_le hd M0 o.FSels.l (Z88_q o.FKind) o.FName
 have h3 := flt_le ((((!(fnd d.FDefs.l (Z88_q o.FKind)).2) || (!decide ((fnd d.FDefs.l (Z88_q o.FKind)).1.FKind = (1 : Int)))) || ((decide (o.FKind = (3 : Int))) && (!decide ((((seenM (keysX fr o.FSels)).length : Nat) : Int) = (1 : Int)))))) 30 o.FName
 unfold opX
 simp only [List.length_append]; omega
theorem fragX_le {d : TDoc} (hd : DefsOk d) (f : TFrag) : (fragX d f).length ≤ f.sz * 2097152 := by
 have h := f.sz_def
 have h1 : Sl.sz TSel.sz f.FSels = 1 + (f.FSels.l.map TSel.sz).sum := rfl
 unfold fragX
 exact Nat.le_trans (selsX_le hd M0 f.FSels.l f.FOn f.FName) (by omega)
theorem checkX_le {d : TDoc} (hd : DefsOk d) (q : TQuery) (hq : q.sz ≤ 1048576) : (q.FOps.l.flatMap (opX d q.FFrags)).length + (q.FFrags.l.flatMap (fragX d)).length ≤ 2199023255552 := by
 have h := q.sz_def
 have h1 : Sl.sz TOp.sz q.FOps = 1 + (q.FOps.l.map TOp.sz).sum := rfl
 have h2 : Sl.sz TFrag.sz q.FFrags = 1 + (q.FFrags.l.map TFrag.sz).sum := rfl
 have h3 := flatMap_le (l := q.FOps.l) (g := TOp.sz) fun o _ => opX_le hd q.FFrags o
 have h4 := flatMap_le (l := q.FFrags.l) (g := TFrag.sz) fun o _ => fragX_le hd o
 omega
theorem check_ok {d : TDoc} (hd : DefsOk d) (q : TQuery) (hq : q.sz ≤ 1048576) : ∃ nl, Z0_q d q = some ⟨nl, checkX d q⟩ :=
 check_eq hd q hq (by have := checkX_le hd q hq; unfold checkX; simp only [List.length_append]; omega)
theorem faults_loop (a b : Sl TFault) (l : List TFault) (i : Nat) (h : l = b.l.drop i) : Z58_q11 b l i = some (Sum.inl ()) := by
 induction l generalizing i with
 | nil => rfl
 | cons x r ih =>
  have h1 : b.l[i]? = some x := by rw [← List.head?_drop, ← h]; rfl
  have h2 : r = b.l.drop (i + 1) := by rw [← List.tail_drop, ← h]; rfl
  rw [Z58_q11]
  simp only [on, h1, Option.bind_some]
  rw [ih (i + 1) h2]
  simp
theorem faults_eq (a b : Sl TFault) (h : a.l = b.l) : Z58_q a b = some true := by
 unfold Z58_q
 rw [h, faults_loop a b b.l 0 rfl]
 simp [on]
theorem right_ok (d : TDoc) (q : TQuery) (hd : d.sz ≤ 1048576) (hq : q.sz ≤ 1048576) : Ok (Z17_q d q) := by
 unfold Z17_q
 have h1 := Z63_ok d hd; have h2 := Z48_ok q hq; have h3 := Z40_ok d hd; have h4 := Z49_ok q hq
 (repeat' (first | exact Tot.some _ | assumption | (with_reducible refine Tot.bind ?_ fun _ _ => ?_) | (with_reducible refine Tot.guard (fun _ => ?_) fun _ _ _ => ?_) | (with_reducible refine Tot.cond (fun _ => ?_) fun _ => ?_) | (with_reducible refine Tot.on fun _ _ => ?_) | split))
end Go.Proofs

namespace Go.Proofs
open Go Go.Ab
theorem r05_isNonNull_eq (t : TRef) : Z31_q t = nnW t.FWraps.l := isNonNull_eq t
def RefEq (a b : TRef) : Prop := a.FName = b.FName ∧ a.FWraps.l = b.FWraps.l
theorem Z37_is {t : TRef} (h : t.FWraps.l.length ≤ 1048576) (h1 : 1 ≤ t.FWraps.l.length) : Z37_q t = some ⟨t.FName, ⟨false, t.FWraps.l.drop 1⟩⟩ := by
 unfold Z37_q
 rw [partC_tail h1]
 simp only [Option.bind_some]
 rw [appC_ok (by omega) (by simp; omega)]
 rfl
theorem r05_nullable_eq {t : TRef} (h : t.FWraps.l.length ≤ 1048576) : Z34_q t = some ⟨t.FName, ⟨false, (barS t.FWraps).l⟩⟩ := by
 unfold Z34_q
 simp only [on, r05_isNonNull_eq, barS]
 cases hn : nnW t.FWraps.l with
 | true => simp only [cond_true]; rw [Z37_is h (head_one hn)]; rfl
 | false =>
  simp only [cond_false]
  rw [appC_ok (by omega) (by simp; omega)]
  rfl
theorem barS_len (s : Sl Int) : (barS s).l.length ≤ s.l.length := by unfold barS; cases nnW s.l <;> simp
theorem r05_isList_eq {t : TRef} (h : t.FWraps.l.length ≤ 1048576) : Z30_q t = some (liW (barS t.FWraps).l) := by
 unfold Z30_q
 rw [r05_nullable_eq h]
 simp only [Option.bind_some, on, liW]
 cases (barS t.FWraps).l with
 | nil => rfl
 | cons a r => simp; by_cases h : a = 2 <;> simp [h]
theorem r05_inner_eq {t : TRef} (h : t.FWraps.l.length ≤ 1048576) : ∃ x, Z29_q t = some (x, liW (barS t.FWraps).l) ∧ (liW (barS t.FWraps).l = true → RefEq (innerT t) x) := by
 unfold Z29_q
 rw [r05_isList_eq h]
 simp only [Option.bind_some]
 cases hl : liW (barS t.FWraps).l with
 | false => exact ⟨_, rfl, fun h => by cases h⟩
 | true =>
  have := barS_len t.FWraps
  simp only [Bool.not_true, cond_false]
  rw [r05_nullable_eq h]
  simp only [Option.bind_some]
  rw [Z37_is (show (barS t.FWraps).l.length ≤ 1048576 by omega) (list_one hl)]
  exact ⟨_, rfl, fun _ => ⟨rfl, rfl⟩⟩
theorem RefEq.bar {a b : TRef} (h : RefEq a b) : (barS a.FWraps).l = (barS b.FWraps).l := by
 unfold barS; rw [h.2]; cases nnW b.FWraps.l <;> simp [h.2]
theorem r10_findAux (l : List TDef) (s : Bs) : Z60_q6 s l = Z84_q7 s l := by
 induction l with
 | nil => rfl
 | cons a r ih => rw [Z60_q6, Z84_q7, ih]; rfl
theorem r10_find_eq (d : TDoc) (s : Bs) : Z60_q d s = fnd d.FDefs.l s := by
 rw [← find_eq]; unfold Z60_q Z84_q; rw [r10_findAux]; all_goals rfl
theorem r10_fieldAux (l : List TField) (s : Bs) : Z59_q6 s l = Z83_q7 s l := by
 induction l with
 | nil => rfl
 | cons a r ih => rw [Z59_q6, Z83_q7, ih]; rfl
theorem r10_fieldOf_eq (t : TDef) (s : Bs) : Z59_q t s = fndF t.FFields.l s := by
 rw [← fieldOf_eq]; unfold Z59_q Z83_q; rw [r10_fieldAux]; all_goals rfl
theorem r10_inputAux (l : List TInput) (s : Bs) : Z61_q6 s l = Z85_q7 s l := by
 induction l with
 | nil => rfl
 | cons a r ih => rw [Z61_q6, Z85_q7, ih]; rfl
theorem r10_inputOf_eq (t : Sl TInput) (s : Bs) : Z61_q t s = fndI t.l s := by
 rw [← inputOf_eq]; unfold Z61_q Z85_q; rw [r10_inputAux]; all_goals rfl
theorem fnd_none (l : List TDef) (s : Bs) (h : (fnd l s).2 = false) : (fnd l s).1 = TDef.zero := by
 unfold fnd at *
 cases e : l.find? (fun t => t.FName == s) with
 | none => rfl
 | some t => rw [e] at h; cases h
theorem r10_composite_eq (d : TDoc) (s : Bs) : Z57_q d s = Z82_q d s := by
 unfold Z57_q Z82_q Z90_q
 simp only [on, r10_find_eq, find_eq]
 show ((!Z89_q s && _) && _) = _
 cases h : (fnd d.FDefs.l s).2 with
 | true => simp
 | false => rw [fnd_none _ _ h]; simp [TDef.zero]
theorem r10_leaf_eq (d : TDoc) (s : Bs) : Z64_q d s = Z87_q d s := by
 unfold Z64_q Z87_q Z90_q
 simp only [on, r10_find_eq, find_eq]
 show (Z89_q s || _) = _
 cases h : (fnd d.FDefs.l s).2 with
 | true => cases Z89_q s <;> simp
 | false => rw [fnd_none _ _ h]; cases Z89_q s <;> simp [TDef.zero]
theorem r10_isInput_eq (d : TDoc) (s : Bs) : Z62_q d s = Z86_q d s := by
 unfold Z62_q Z86_q Z90_q
 simp only [on, r10_find_eq, find_eq, r10_leaf_eq]
 cases h : (fnd d.FDefs.l s).2 with
 | true => cases Z87_q d s <;> simp
 | false => rw [fnd_none _ _ h]; cases Z87_q d s <;> simp [TDef.zero]
theorem isInput_kind {d : TDoc} {s : Bs} (h : Z86_q d s = true) (hs : Z89_q s = false) : (fnd d.FDefs.l s).1.FKind = 4 ∨ (fnd d.FDefs.l s).1.FKind = 5 := by
 unfold Z86_q Z87_q Z90_q on at h
 simp only [hs, find_eq, Bool.not_false, cond_true, Bool.false_or] at h
 by_cases h4 : (fnd d.FDefs.l s).1.FKind = 4
 ·exact .inl h4
 ·simp [h4] at h; exact .inr h
def Whole (v : TValue) : Prop := ∃ n, Z28_qn n v true = some true
theorem whole_loop {n : Nat} {l : List TValue} (h : Z28_q11 true (Z28_qn n) l = some (Sum.inl ())) : ∀ x ∈ l, Z28_qn n x true = some true := by
 induction l with
 | nil => intro x hx; cases hx
 | cons a r ih =>
  rw [Z28_q11] at h
  simp only [on] at h
  cases e : Z28_qn n a true with
  | none => simp [e] at h
  | some b =>
   cases b with
   | false => simp [e] at h
   | true =>
    simp only [e, Option.bind_some, Bool.not_true, cond_false] at h
    intro x hx
    rcases List.mem_cons.1 hx with rfl | hx
    ·exact e
    ·exact ih h x hx
theorem whole_loop2 (n : Nat) (l : List TValue) (z : Unit ⊕ Bool) (h : Z28_q11 true (Z28_qn n) l = some z) : z = Sum.inl () ∨ z = Sum.inr false := by
 induction l with
 | nil => rw [Z28_q11] at h; simp at h; exact .inl h.symm
 | cons a r ih =>
  rw [Z28_q11] at h
  simp only [on] at h
  cases e : Z28_qn n a true with
  | none => simp [e] at h
  | some b =>
   cases b with
   | false => simp [e] at h; exact .inr h.symm
   | true => simp only [e, Option.bind_some, Bool.not_true, cond_false] at h; exact ih h
theorem whole_keys (l : List Bs) (z : Unit ⊕ Bool) (h : Z28_q24 true l = z) : z = Sum.inl () ∨ z = Sum.inr false := by
 induction l with
 | nil => exact .inl h.symm
 | cons a r ih =>
  rw [Z28_q24] at h
  simp only [on, cond_true] at h
  cases e : Z19_q a with
  | false => simp [e] at h; exact .inr h.symm
  | true => simp [e] at h; exact ih h
theorem whole_step {n : Nat} {v : TValue} (h : Z28_qn (n + 1) v true = some true) : Z26_q v true = some true ∧ ∀ x ∈ v.FItems.l, Z28_qn n x true = some true := by
 rw [Z28_qn] at h
 cases e : Z26_q v true with
 | none => simp [e] at h
 | some b =>
  cases b with
  | false => simp [e] at h
  | true =>
   simp only [e, Option.bind_some, Bool.not_true, cond_false, on] at h
   rcases whole_keys v.FKeys.l _ rfl with e2 | e2
   ·simp only [e2] at h
    cases e3 : Z28_q11 true (Z28_qn n) v.FItems.l with
    | none => simp [e3] at h
    | some z =>
     rcases whole_loop2 _ _ _ e3 with rfl | rfl
     ·exact ⟨rfl, whole_loop e3⟩
     ·simp [e3] at h
   ·simp [e2] at h
theorem Whole.item {v x : TValue} (h : Whole v) (hx : x ∈ v.FItems.l) : Whole x := by
 obtain ⟨n, hn⟩ := h
 cases n with
 | zero => cases hn
 | succ n => exact ⟨n, (whole_step hn).2 x hx⟩
theorem Whole.keys {v : TValue} (h : Whole v) (hk : v.FKind = 6) : v.FKeys.l.length = v.FItems.l.length := by
 obtain ⟨n, hn⟩ := h
 cases n with
 | zero => cases hn
 | succ n =>
  have h1 := (whole_step hn).1
  unfold Z26_q at h1
  simp only [hk] at h1
  by_cases h2 : ((v.FKeys.l.length : Nat) : Int) = ((v.FItems.l.length : Nat) : Int)
  ·omega
  ·exfalso; revert h1; simp [guardO, h2]
end Go.Proofs

namespace Go.Proofs
open Go Go.Ab
theorem index_ref (l : List TValue) (p p1 : TValue → Option Bool) (i : Nat) (k : TDoc → TRef → TValue → Option Bool) (d : TDoc) (x : TRef × Bool) (h : ∀ v ∈ l, ∃ b, p v = some (!b) ∧ k d x.1 v = some b) :
  ∃ z, (Z97_q6m p l i).bind (fun o => match o with | Sum.inl _ => some (-1 : Int) | Sum.inr e => some e) = some z ∧ (Option.bind (r14_Fits_q31 d x k l) fun o => match o with | Sum.inl _ => some true | Sum.inr e => some e) = some (!decide ((0 : Int) ≤ z)) := by
 induction l generalizing i with
 | nil => exact ⟨-1, rfl, rfl⟩
 | cons a r ih =>
  obtain ⟨b, h1, h2⟩ := h a List.mem_cons_self
  rw [Z97_q6m, r14_Fits_q31]
  simp only [on, h1, h2, Option.bind_some]
  cases b with
  | false => exact ⟨((i : Nat) : Int), rfl, by simp⟩
  | true => exact ih (i + 1) fun y hy => h y (List.mem_cons_of_mem _ hy)
def ge0 (x : Int) : Bool := decide (0 ≤ x)
theorem ge0_nat (i : Nat) : ge0 ((i : Nat) : Int) = true := by simp [ge0]
theorem any_member (p : TMember → Bool) (l : List TMember) (i : Nat) : ge0 (match Z99_q6 p l i with | Sum.inl _ => (-1 : Int) | Sum.inr e => e) = l.any p := by
 induction l generalizing i with
 | nil => rfl
 | cons a r ih =>
  rw [Z99_q6, List.any_cons]
  simp only [on]
  cases p a with
  | true => exact ge0_nat i
  | false => exact ih (i + 1)
theorem containsMember_eq (l : Sl TMember) (p : TMember → Bool) : Z94_q l p = l.l.any p := any_member p l.l 0
theorem named_loop (v : TValue) (l : List TMember) : (match r14_named_q26 v l with | Sum.inl _ => some false | Sum.inr e => some e) = some (decide (v.FKind = 4) && l.any (fun m => m.FName == v.FText)) := by
 induction l with
 | nil => simp [r14_named_q26]
 | cons a r ih =>
  rw [r14_named_q26, List.any_cons]
  simp only [on]
  cases hk : decide (v.FKind = 4) with
  | false => simpa [hk] using ih
  | true =>
   simp only [hk] at ih
   cases hn : a.FName == v.FText with
   | true => simp [hn]
   | false => simpa [hn] using ih
theorem any_string (s : Bs) (l : List Bs) (i : Nat) : ge0 (match Z101_q6 s l i with | Sum.inl _ => (-1 : Int) | Sum.inr e => e) = l.any (fun k => k == s) := by
 induction l generalizing i with
 | nil => rfl
 | cons a r ih =>
  rw [Z101_q6, List.any_cons]
  simp only [on]
  have e : (s == a) = (a == s) := BEq.comm
  rw [e]
  cases a == s with
  | true => exact ge0_nat i
  | false => exact ih (i + 1)
theorem contains_eq (l : Sl Bs) (s : Bs) : Z96_q l s = l.l.any (fun k => k == s) := any_string s l.l 0
theorem has_loop (y : TInput) (l : List Bs) (b : Bool) : Z78_q27 y l b = (b || l.any (fun k => k == y.FName)) := by
 induction l generalizing b with
 | nil => simp [Z78_q27]
 | cons a r ih =>
  rw [Z78_q27]
  simp only [on, ih, List.any_cons]
  cases b <;> simp
theorem any_input (p : TInput → Bool) (l : List TInput) (i : Nat) : ge0 (match Z100_q6 p l i with | Sum.inl _ => (-1 : Int) | Sum.inr e => e) = l.any p := by
 induction l generalizing i with
 | nil => rfl
 | cons a r ih =>
  rw [Z100_q6, List.any_cons]
  simp only [on]
  cases p a with
  | true => exact ge0_nat i
  | false => exact ih (i + 1)
theorem containsInput_eq (l : Sl TInput) (p : TInput → Bool) : Z95_q l p = l.l.any p := any_input p l.l 0
theorem object_1_eq (v : TValue) (a : TInput) : Z13_q a v = ((nnW a.FType.FWraps.l && !a.FHas) && !(v.FKeys.l.any (fun k => k == a.FName))) := by
 unfold Z13_q on
 simp only [isNonNull_eq, contains_eq]
 cases nnW a.FType.FWraps.l && !a.FHas <;> simp
theorem needs_eq (v : TValue) (l : List TInput) : (match Z78_q10 v l with | Sum.inl _ => some true | Sum.inr e => some e) = some (!(l.any (fun a => Z13_q a v))) := by
 induction l with
 | nil => rfl
 | cons a r ih =>
  rw [Z78_q10, List.any_cons, object_1_eq]
  simp only [on, has_loop, Bool.false_or, r05_isNonNull_eq]
  cases hk : v.FKeys.l.any (fun k => k == a.FName) with
  | true => simpa [hk] using ih
  | false =>
   cases hh : a.FHas with
   | true => simpa [hk, hh] using ih
   | false =>
    cases hn : nnW a.FType.FWraps.l with
    | true => simp [hk, hh, hn]
    | false => simpa [hk, hh, hn] using ih
theorem object_ref (d : TDoc) (df : TDef) (v : TValue) (k k2 : TDoc → TRef → TValue → Option Bool) (l : List Bs) (i : Nat) (hlen : i + l.length = v.FItems.l.length) (h : ∀ t x, SOk t.FWraps → x ∈ v.FItems.l → ∃ b, k d t x = some b ∧ k2 d t x = some b) (hd : ∀ i ∈ df.FInputs.l, SOk i.FType.FWraps) :
  Z12_q7 d df v k l i = Z78_q38 d df v k2 l i ∧ ∃ z, Z12_q7 d df v k l i = some z ∧ (z = Sum.inl () ∨ z = Sum.inr false) := by
 induction l generalizing i with
 | nil => exact ⟨rfl, _, rfl, .inl rfl⟩
 | cons x r ih =>
  simp only [List.length_cons] at hlen
  obtain ⟨h1, h2⟩ := ih (i + 1) (by omega)
  have hi : i < v.FItems.l.length := by omega
  have hs := inputOk hd x
  obtain ⟨b, hb, hb2⟩ := h (fndI df.FInputs.l x).1.FType _ hs (List.getElem_mem hi)
  have hd1 : decide (((v.FItems.l.length : Nat) : Int) ≤ ((i : Nat) : Int)) = false := by simp; omega
  have hd2 : decide (((i : Nat) : Int) < ((v.FItems.l.length : Nat) : Int)) = true := by simp; omega
  rw [Z12_q7, Z78_q38]
  simp only [on, inputOf_eq, r10_inputOf_eq, hd1, hd2, cond_true, Bool.or_false, List.getElem?_eq_getElem hi]
  cases (fndI df.FInputs.l x).2 with
  | false => simp only [guardO, Bool.not_false, Bool.not_true, Bool.false_eq_true, if_false, Bool.true_or, cond_true]; exact ⟨trivial, _, rfl, .inr rfl⟩
  | true =>
   simp only [guardO, Bool.not_true, Bool.not_false, if_true, Option.bind_some, hb, hb2, Bool.false_or]
   cases b with
   | false => exact ⟨rfl, _, rfl, .inr rfl⟩
   | true => exact ⟨h1, h2⟩
theorem meas2 {a b L T n : Nat} (h1 : a < b) (h2 : L ≤ 1048576) (h3 : 2 * (b * 2097152 + T) + 2 < n + 2) : 2 * (a * 2097152 + L) + 2 < n := by
 have h4 := Nat.lt_of_add_lt_add_right h3
 clear h3
 generalize hM : 2097152 = M at *
 have h5 : a * M + M ≤ b * M := by rw [← Nat.succ_mul]; exact Nat.mul_le_mul_right M h1
 omega
theorem meas3 {a b L T n k : Nat} (h1 : a < b) (h2 : L ≤ 1048576) (h3 : 3 * (b * 2097152 + T) + 3 < n + 3) : 3 * (a * 2097152 + L) + 3 < n + k := by
 have h4 := Nat.lt_of_add_lt_add_right h3
 clear h3
 generalize hM : 2097152 = M at *
 have h5 : a * M + M ≤ b * M := by rw [← Nat.succ_mul]; exact Nat.mul_le_mul_right M h1
 omega
theorem contains_ref (d : TDoc) (l : Sl TValue) (p : TValue → Option Bool) (k : TDoc → TRef → TValue → Option Bool) (x : TRef × Bool) (h : ∀ v ∈ l.l, ∃ b, p v = some (!b) ∧ k d x.1 v = some b) :
  ∃ b, Z92_qm l p = some b ∧ (Option.bind (r14_Fits_q31 d x k l.l) fun o => match o with | Sum.inl _ => some true | Sum.inr e => some e) = some (!b) := by
 obtain ⟨z, h1, h2⟩ := index_ref l.l p p 0 k d x h
 refine ⟨decide ((0 : Int) ≤ z), ?_, h2⟩
 unfold Z92_qm Z97_qm
 exact congrArg (fun o => Option.bind o fun x3 => some (decide ((0 : Int) ≤ x3))) h1
set_option maxRecDepth 100000 in
theorem fits_ref (d : TDoc) (hd : DefsOk d) (n : Nat) : ∀ (t t' : TRef) (v : TValue) (m : Nat), RefEq t t' → SOk t.FWraps → t'.FWraps.l.length ≤ 1048576 → Whole v → 2 * (v.sz * 2097152 + t.FWraps.l.length) + 2 < n → 3 * (v.sz * 2097152 + t.FWraps.l.length) + 3 < m → ∃ b, fields_fits_qn n d t v = some b ∧ r14_Fits_qn m d t' v = some b := by
 induction n using Nat.strongRecOn with
 | ind n ih =>
  intro t t' v m ht h1 h1' hw hn hm
  obtain ⟨n, rfl⟩ : ∃ k, n = k + 2 := ⟨n - 2, by omega⟩
  obtain ⟨m, rfl⟩ : ∃ k, m = k + 3 := ⟨m - 3, by omega⟩
  obtain ⟨x, e1, e2⟩ := r05_inner_eq h1'
  rw [fields_fits_qn, r14_Fits_qn]
  simp only [inner_eq h1, e1, ← ht.bar, Option.bind_some, on, find_eq, r10_isInput_eq, ← ht.1, isNonNull_eq, r05_isNonNull_eq, ← ht.2]
  cases decide (v.FKind = 7) with
  | true => exact ⟨true, rfl, rfl⟩
  | false =>
   simp only [cond_false]
   cases hin : Z86_q d t.FName with
   | false => exact ⟨false, rfl, rfl⟩
   | true =>
    simp only [Bool.not_true, cond_false]
    cases decide (v.FKind = 0) with
    | true => exact ⟨_, rfl, rfl⟩
    | false =>
     simp only [cond_false]
     cases hl : liW (barS t.FWraps).l with
     | true =>
      have hlt := inner_lt hl; have hx := e2 (by rw [← ht.bar]; exact hl)
      have hIO := innerT_ok h1
      have hE : RefEq (innerT t) x := ⟨by rw [← hx.1]; exact ht.1, by rw [← hx.2]; simp only [innerT]; rw [ht.bar]⟩
      have hX : x.FWraps.l.length ≤ 1048576 := by rw [← hE.2]; exact hIO.2
      have hIl := hIO.2; have h1l := h1.2
      simp only [cond_true, Bool.not_true, cond_false]
      cases decide (v.FKind = 5) with
      | false =>
       obtain ⟨b, f1, f2⟩ := ih (n + 1) (by omega) (innerT t) x v (m + 2) hE hIO hX hw (by omega) (by omega)
       exact ⟨b, by simp [f1], by simp [f2]⟩
      | true =>
       obtain ⟨b, f1, f2⟩ := contains_ref d v.FItems (fun y0 => fields_fits_1_qn (n + 1) y0 d (innerT t)) (r14_Fits_qn (m + 2)) (x, true) fun y hy => by
        have hy2 := TValue.item_lt hy
        obtain ⟨b, f1, f2⟩ := ih n (by omega) (innerT t) x y (m + 2) hE hIO hX (hw.item hy) (meas2 hy2 hIl hn) (meas3 hy2 hIl hm)
        exact ⟨b, by rw [fields_fits_1_qn, f1]; rfl, f2⟩
       exact ⟨!b, by simp only [Bool.not_true, cond_false]; rw [f1]; rfl, by simp only [Bool.not_true, cond_false]; exact f2⟩
     | false =>
      simp only [cond_false, Bool.not_false, cond_true, Q.some_bind]
      rw [r14_named_qn]
      simp only [on, r10_find_eq]
      cases hs1 : t.FName == [73, 110, 116] with
      | true => exact ⟨_, rfl, rfl⟩
      | false =>
      cases hs2 : t.FName == [83, 116, 114, 105, 110, 103] with
      | true => exact ⟨_, rfl, rfl⟩
      | false =>
      cases hs3 : t.FName == [66, 111, 111, 108, 101, 97, 110] with
      | true => exact ⟨_, rfl, rfl⟩
      | false =>
      cases hs4 : t.FName == [73, 68] with
      | true => exact ⟨_, rfl, rfl⟩
      | false =>
       have hsc : Z89_q t.FName = false := by unfold Z89_q; simp only [hs1, hs2, hs3, hs4]; rfl
       have hk := isInput_kind hin hsc
       simp only [cond_false]
       rcases hk with hk | hk
       ·simp only [hk, decide_true, cond_true, containsMember_eq, Z9_q, Q.some_bind]
        refine ⟨_, rfl, ?_⟩
        rw [show decide ((4 : Int) = 5) = false from rfl, cond_false]
        refine (named_loop v _).trans ?_
        cases decide (v.FKind = 4) <;> simp
       ·simp only [hk, decide_true, cond_true]
        rw [show decide ((5 : Int) = 4) = false from rfl, cond_false, Z78_qn]
        cases hv : decide (v.FKind = 6) with
        | false => exact ⟨false, rfl, rfl⟩
        | true =>
         have hv6 : v.FKind = 6 := of_decide_eq_true hv
         have hdf := find_ok hd t.FName
         simp only [guardO, if_true, Bool.not_true, cond_false, Bool.true_and, Q.some_bind]
         rw [Z12_qn]
         obtain ⟨g1, z, g2, g3⟩ := object_ref d (fnd d.FDefs.l t.FName).1 v (fields_fits_qn n) (r14_Fits_qn m) v.FKeys.l 0 (by rw [hw.keys hv6]; omega) (fun t2 y ht2 hy => by
          have hy2 := TValue.item_lt hy; have := ht2.2
          exact ih n (by omega) t2 t2 y m ⟨rfl, rfl⟩ ht2 ht2.2 (hw.item hy) (meas2 hy2 ht2.2 hn) (meas3 (k := 0) hy2 ht2.2 hm)) hdf.2.2.2
         rw [← g1, g2]
         simp only [Option.bind_some]
         rcases g3 with rfl | rfl
         ·simp only [on, containsInput_eq]
          exact ⟨_, rfl, needs_eq v _⟩
         ·exact ⟨false, rfl, rfl⟩
theorem fits_same {d : TDoc} (hd : DefsOk d) {t : TRef} {v : TValue} (ht : SOk t.FWraps) (hv : v.sz ≤ 1048576) (hw : Whole v) : r14_Fits_q d t v = some (fitsB d t v) := by
 obtain ⟨b, h1, h2⟩ := fits_ref d hd F0 t t v F0 ⟨rfl, rfl⟩ ht ht.2 hw (by have := ht.2; rw [F0_eq]; omega) (by have := ht.2; rw [F0_eq]; omega)
 have h3 : fields_fits_q d t v = some b := h1
 have h4 : r14_Fits_q d t v = some b := h2
 rw [h4]; simp [fitsB, h3]
end Go.Proofs

namespace Go.Proofs
open Go Go.Ab
def ArgsW (l : List TArg) : Prop := ∀ a ∈ l, Whole a.FValue
def SelW : Nat → TSel → Prop
 | 0, _ => False
 | n + 1, s => ArgsW s.FArgs.l ∧ (∀ x ∈ s.FDirs.l, ArgsW x.FArgs.l) ∧ ∀ y ∈ s.FSels.l, SelW n y
theorem literal_whole {v : TValue} (h : Z24_q v = some true) : Whole v := by
 unfold Z24_q at h
 obtain ⟨x3, g3, h⟩ := bindO_some h
 obtain ⟨x4, g4, h⟩ := guardO_some h
 obtain ⟨x5, g5, h⟩ := guardO_some h
 simp only [Option.some.injEq, Bool.and_eq_true] at h
 have h5 := g5 (by rw [Bool.and_eq_true]; exact h.1)
 rw [h.2] at h5
 exact ⟨F0, h5⟩
theorem args_right (l : List TArg) (z : Unit ⊕ Bool) (h : Z50_q6 l = some z) : (z = Sum.inl () ∧ ArgsW l) ∨ z = Sum.inr false := by
 induction l generalizing z with
 | nil => rw [Z50_q6] at h; exact .inl ⟨(Option.some.inj h).symm, fun a ha => by cases ha⟩
 | cons a r ih =>
  rw [Z50_q6] at h
  simp only [on] at h
  cases e : Z19_q a.FName with
  | false => simp [e, guardO] at h; exact .inr h.symm
  | true =>
   simp only [e, Bool.not_true, Bool.not_false, cond_true, Bool.false_or] at h
   obtain ⟨x, g, h⟩ := guardO_some h
   have hx := g rfl
   cases x with
   | false => simp at h; exact .inr h.symm
   | true =>
    simp only [Bool.not_true, cond_false] at h
    rcases ih z h with ⟨h1, h2⟩ | h1
    ·exact .inl ⟨h1, fun y hy => by rcases List.mem_cons.1 hy with rfl | hy; exact literal_whole hx; exact h2 y hy⟩
    ·exact .inr h1
theorem argsRight_w {s : Sl TArg} (h : Z50_q s = some true) : ArgsW s.l := by
 unfold Z50_q at h
 obtain ⟨z, g, h⟩ := bindO_some h
 rcases args_right _ _ g with ⟨_, h1⟩ | rfl
 ·exact h1
 ·cases h
theorem dirs_right (l : List TDir) (z : Unit ⊕ Bool) (h : Z52_q6 l = some z) : (z = Sum.inl () ∧ ∀ x ∈ l, ArgsW x.FArgs.l) ∨ z = Sum.inr false := by
 induction l generalizing z with
 | nil => rw [Z52_q6] at h; exact .inl ⟨(Option.some.inj h).symm, fun a ha => by cases ha⟩
 | cons a r ih =>
  rw [Z52_q6] at h
  simp only [on] at h
  cases e : Z19_q a.FName with
  | false => simp [e, guardO] at h; exact .inr h.symm
  | true =>
   simp only [e, Bool.not_true, Bool.not_false, cond_true, Bool.false_or] at h
   obtain ⟨x, g, h⟩ := guardO_some h
   have hx := g rfl
   cases x with
   | false => simp at h; exact .inr h.symm
   | true =>
    simp only [Bool.not_true, cond_false] at h
    rcases ih z h with ⟨h1, h2⟩ | h1
    ·exact .inl ⟨h1, fun y hy => by rcases List.mem_cons.1 hy with rfl | hy; exact argsRight_w hx; exact h2 y hy⟩
    ·exact .inr h1
theorem dirsRight_w {s : Sl TDir} (h : Z52_q s = some true) : ∀ x ∈ s.l, ArgsW x.FArgs.l := by
 unfold Z52_q at h
 obtain ⟨z, g, h⟩ := bindO_some h
 rcases dirs_right _ _ g with ⟨_, h1⟩ | rfl
 ·exact h1
 ·cases h
theorem sels_right (k : TSel → Int → Option Bool) (i : Int) (l : List TSel) (z : Unit ⊕ Bool) (h : r08_selsRight_q10 i k l = some z) : (z = Sum.inl () ∧ ∀ x ∈ l, k x i = some true) ∨ z = Sum.inr false := by
 induction l generalizing z with
 | nil => rw [r08_selsRight_q10] at h; exact .inl ⟨(Option.some.inj h).symm, fun a ha => by cases ha⟩
 | cons a r ih =>
  rw [r08_selsRight_q10] at h
  simp only [on] at h
  obtain ⟨x, g, h⟩ := bindO_some h
  cases x with
  | false => simp at h; exact .inr h.symm
  | true =>
   simp only [Bool.not_true, cond_false] at h
   rcases ih z h with ⟨h1, h2⟩ | h1
   ·exact .inl ⟨h1, fun y hy => by rcases List.mem_cons.1 hy with rfl | hy; exact g; exact h2 y hy⟩
   ·exact .inr h1
theorem sels_n_right {n : Nat} {s : Sl TSel} {i : Int} (h : r08_selsRight_qn (n + 1) s i = some true) : ∀ x ∈ s.l, Z53_qn n x i = some true := by
 rw [r08_selsRight_qn] at h
 cases e : ((decide (((s.l.length : Nat) : Int) = (0 : Int))) || (decide ((64 : Int) < ((s.l.length : Nat) : Int)))) || (decide ((24 : Int) < i)) with
 | true => rw [e] at h; cases h
 | false =>
  rw [e, cond_false] at h
  obtain ⟨z, g, h⟩ := bindO_some h
  rcases sels_right _ _ _ _ g with ⟨_, h1⟩ | rfl
  ·exact h1
  ·cases h
theorem sel_n_right {n : Nat} {s : TSel} {i : Int} (h : Z53_qn (n + 1) s i = some true) : ArgsW s.FArgs.l ∧ (∀ x ∈ s.FDirs.l, ArgsW x.FArgs.l) ∧ (s.FSels.l = [] ∨ ∃ j, r08_selsRight_qn n s.FSels j = some true) := by
 rw [Z53_qn] at h
 obtain ⟨x4, g4, h⟩ := bindO_some h
 obtain ⟨x5, g5, h⟩ := guardO_some h
 cases x4 with
 | false => cases h
 | true =>
  have h5 := g5 rfl
  cases x5 with
  | false => cases h
  | true =>
   refine ⟨argsRight_w h5, dirsRight_w g4, ?_⟩
   simp only [Bool.not_true, Bool.or_false, cond_false, on] at h
   by_cases hl : s.FSels.l = []
   ·exact .inl hl
   ·right
    have hl2 : decide (((s.FSels.l.length : Nat) : Int) = 0) = false := by
     have : s.FSels.l.length ≠ 0 := by simpa using hl
     simp; exact hl
    cases e1 : decide (s.FKind = 1) with
    | true =>
     simp only [e1, cond_true, hl2, Bool.not_false, Bool.and_true, Bool.false_or] at h
     obtain ⟨x15, g15, h⟩ := guardO_some h
     obtain ⟨x16, g16, h⟩ := guardO_some h
     simp only [Option.some.injEq, Bool.and_eq_true] at h
     have h16 := g16 (by simp only [Bool.and_eq_true]; exact h.1)
     rw [h.2] at h16
     exact ⟨_, h16⟩
    | false =>
     simp only [e1, cond_false] at h
     cases e2 : decide (s.FKind = 2) with
     | true => simp [e2, hl] at h
     | false =>
      simp only [e2, cond_false] at h
      cases e3 : decide (s.FKind = 3) with
      | false => simp [e3] at h
      | true =>
       simp only [e3, cond_true] at h
       obtain ⟨x25, g25, h⟩ := guardO_some h
       obtain ⟨x26, g26, h⟩ := guardO_some h
       simp only [Option.some.injEq, Bool.and_eq_true] at h
       have h26 := g26 (by simp only [Bool.and_eq_true]; exact h.1)
       rw [h.2] at h26
       exact ⟨_, h26⟩
theorem selW_mono {n : Nat} {s : TSel} (h : SelW n s) : SelW (n + 1) s := by
 induction n generalizing s with
 | zero => cases h
 | succ n ih => exact ⟨h.1, h.2.1, fun y hy => ih (h.2.2 y hy)⟩
theorem selW_of (n : Nat) : ∀ (s : TSel) (i : Int), Z53_qn n s i = some true → SelW n s := by
 induction n using Nat.strongRecOn with
 | ind n ih =>
  intro s i h
  cases n with
  | zero => cases h
  | succ n =>
   obtain ⟨h1, h2, h3⟩ := sel_n_right h
   refine ⟨h1, h2, fun y hy => ?_⟩
   rcases h3 with h3 | ⟨j, h3⟩
   ·rw [h3] at hy; cases hy
   ·cases n with
    | zero => cases h3
    | succ n => exact selW_mono (ih n (by omega) y j (sels_n_right h3 y hy))
theorem selsW {s : Sl TSel} (h : r08_selsRight_q s 1 = some true) : ∀ x ∈ s.l, SelW F0 x := fun x hx => by
 have h1 : r08_selsRight_qn F0 s 1 = some true := h
 have e : F0 = (F0 - 1) + 1 := by rw [F0_eq]
 rw [e] at h1 ⊢
 exact selW_mono (selW_of _ x 1 (sels_n_right h1 x hx))
theorem condE {α : Type} {c : Bool} {a b : Option α} {z : α} (h : cond c a b = some z) : (c = true ∧ a = some z) ∨ (c = false ∧ b = some z) := by cases c; exact .inr ⟨rfl, h⟩; exact .inl ⟨rfl, h⟩
theorem ops_right (l : List TOp) (z : Unit ⊕ Bool) (h : Z49_q30 l = some z) : (z = Sum.inl () ∧ ∀ o ∈ l, ∀ x ∈ o.FSels.l, SelW F0 x) ∨ z = Sum.inr false := by
 induction l generalizing z with
 | nil => rw [Z49_q30] at h; exact .inl ⟨(Option.some.inj h).symm, fun a ha => by cases ha⟩
 | cons a r ih =>
  rw [Z49_q30] at h
  simp only [on] at h
  obtain ⟨x41, g41, h⟩ := guardO_some h
  obtain ⟨x42, g42, h⟩ := guardO_some h
  rcases condE h with ⟨_, h⟩ | ⟨hc, h⟩
  ·exact .inr (Option.some.inj h).symm
  ·simp only [Bool.or_eq_false_iff] at hc
   have h42 := g42 (by rw [Bool.not_eq_true', Bool.or_eq_false_iff, Bool.or_eq_false_iff, Bool.or_eq_false_iff]; exact hc.1)
   have e : x42 = true := by simpa using hc.2
   rw [e] at h42
   rcases ih z h with ⟨h1, h2⟩ | h1
   ·exact .inl ⟨h1, fun y hy => by rcases List.mem_cons.1 hy with rfl | hy; exact selsW h42; exact h2 y hy⟩
   ·exact .inr h1
theorem frags_right (l : List TFrag) (z : Unit ⊕ Bool) (h : Z49_q14 l = some z) : (z = Sum.inl () ∧ ∀ o ∈ l, ∀ x ∈ o.FSels.l, SelW F0 x) ∨ z = Sum.inr false := by
 induction l generalizing z with
 | nil => rw [Z49_q14] at h; exact .inl ⟨(Option.some.inj h).symm, fun a ha => by cases ha⟩
 | cons a r ih =>
  rw [Z49_q14] at h
  simp only [on] at h
  obtain ⟨x26, g26, h⟩ := guardO_some h
  rcases condE h with ⟨_, h⟩ | ⟨hc, h⟩
  ·exact .inr (Option.some.inj h).symm
  ·simp only [Bool.or_eq_false_iff] at hc
   have h26 := g26 (by rw [Bool.not_eq_true', Bool.or_eq_false_iff]; exact hc.1)
   have e : x26 = true := by simpa using hc.2
   rw [e] at h26
   rcases ih z h with ⟨h1, h2⟩ | h1
   ·exact .inl ⟨h1, fun y hy => by rcases List.mem_cons.1 hy with rfl | hy; exact selsW h26; exact h2 y hy⟩
   ·exact .inr h1
theorem right_q {q : TQuery} (h : Z49_q q = some true) : (∀ o ∈ q.FOps.l, ∀ x ∈ o.FSels.l, SelW F0 x) ∧ ∀ o ∈ q.FFrags.l, ∀ x ∈ o.FSels.l, SelW F0 x := by
 unfold Z49_q at h
 obtain ⟨x5, g5, h⟩ := bindO_some h
 rcases condE h with ⟨_, h⟩ | ⟨_, h⟩
 ·cases h
 ·obtain ⟨z, g, h⟩ := bindO_some h
  rcases ops_right _ _ g with ⟨rfl, h1⟩ | rfl
  ·simp only [on] at h
   obtain ⟨z2, g2, h⟩ := bindO_some h
   rcases frags_right _ _ g2 with ⟨rfl, h2⟩ | rfl
   ·exact ⟨h1, h2⟩
   ·cases h
  ·cases h
theorem defs_right (l : List TDef) (z : Unit ⊕ Bool) (h : Z40_q10 l = some z) : (z = Sum.inl () ∧ ∀ x ∈ l, x.FName ≠ []) ∨ z = Sum.inr false := by
 induction l generalizing z with
 | nil => rw [Z40_q10] at h; exact .inl ⟨(Option.some.inj h).symm, fun a ha => by cases ha⟩
 | cons a r ih =>
  rw [Z40_q10] at h
  simp only [on] at h
  obtain ⟨x, g, h⟩ := bindO_some h
  cases x with
  | false => simp at h; exact .inr h.symm
  | true =>
   simp only [Bool.not_true, cond_false] at h
   have hn : a.FName ≠ [] := by
    intro e
    unfold Z42_q on at g
    rw [show Z19_q a.FName = false by rw [e]; rfl] at g
    simp [guardO] at g
   rcases ih z h with ⟨h1, h2⟩ | h1
   ·exact .inl ⟨h1, fun y hy => by rcases List.mem_cons.1 hy with rfl | hy; exact hn; exact h2 y hy⟩
   ·exact .inr h1
theorem empty_not {d : TDoc} (h : Z40_q d = some true) : Z82_q d [] = false := by
 have hn : ∀ x ∈ d.FDefs.l, x.FName ≠ [] := by
  unfold Z40_q at h
  rcases condE h with ⟨_, h⟩ | ⟨_, h⟩
  ·cases h
  ·obtain ⟨z, g, h⟩ := bindO_some h
   rcases defs_right _ _ g with ⟨_, h1⟩ | rfl
   ·exact h1
   ·cases h
 have hf : d.FDefs.l.find? (fun t => t.FName == []) = none := by
  rw [List.find?_eq_none]; intro x hx; simpa using hn x hx
 unfold Z82_q Z90_q on
 simp only [find_eq, fnd, hf]
 rfl
end Go.Proofs

namespace Go.Proofs
open Go Go.Ab
def Is {α : Type} (o : Option (Sl α)) (l : List α) : Prop := ∃ nl, o = some ⟨nl, l⟩
theorem app_is {s r : Sl TFault} (h : s.l.length + r.l.length ≤ 4398046511104) : Is (appC 24 s r) (s.l ++ r.l) := ⟨_, appC_ok32 (by omega) h⟩
theorem given_same (l : Sl TArg) (s : Bs) : Z74_q l s = (Z10_q l s).2 := by
 unfold Z74_q Z10_q on
 generalize l.l = l
 induction l with
 | nil => rfl
 | cons a r ih =>
  rw [Z74_q5, Z10_q7]
  simp only [on]
  cases a.FName == s with
  | true => rfl
  | false => exact ih
theorem strict_same (v : TValue) : Z81_q v = badV v := rfl
theorem args_loop {d : TDoc} (hd : DefsOk d) (defs : Sl TInput) (hs : ∀ i ∈ defs.l, SOk i.FType.FWraps) (all : Sl TArg) (st : Bool) (a : Bs) (l : List TArg) (i : Nat) (out : Sl TFault) (hl : ∀ a ∈ l, a.sz ≤ 1048576) (hw : ArgsW l) (hb : out.l.length + l.length ≤ 4398046511104) :
  Is (Z71_q27 d defs all st a l i out) (out.l ++ knownX d defs all st a l i) := by
 induction l generalizing i out with
 | nil => exact ⟨out.nl, by simp [Z71_q27, knownX]⟩
 | cons x r ih =>
  have hx := hl x List.mem_cons_self
  have hx2 := x.value_le
  have hwx := hw x List.mem_cons_self
  have ih := fun i out => ih i out (fun y hy => hl y (List.mem_cons_of_mem _ hy)) (fun y hy => hw y (List.mem_cons_of_mem _ hy))
  simp only [List.length_cons] at hb
  have e0 : ∀ e : Int, appC 24 out (⟨false, [(TFault.mk e a)]⟩ : Sl TFault) = some ⟨false, out.l ++ [TFault.mk e a]⟩ := fun e => by rw [appC_ok32 (by omega) (by simp only [List.length_cons, List.length_nil]; omega)]; simp
  rw [Z71_q27, knownX]
  simp only [on, r10_inputOf_eq, given_same, fits_same hd (inputOk hs x.FName) (show x.FValue.sz ≤ 1048576 by omega) hwx, Option.bind_some, strict_same, e0, flt]
  have hi1 := ih (i + 1) ⟨false, out.l ++ [TFault.mk 22 a]⟩ (by simp only [List.length_append, List.length_cons, List.length_nil]; omega)
  have hi2 := ih (i + 1) ⟨false, out.l ++ [TFault.mk 23 a]⟩ (by simp only [List.length_append, List.length_cons, List.length_nil]; omega)
  have hi3 := ih (i + 1) out (by omega)
  simp only [List.append_assoc, List.singleton_append] at hi1 hi2
  cases (fndI defs.l x.FName).2 with
  | false => simpa using hi1
  | true =>
   simp only [Bool.not_true, Bool.not_false, cond_true, Bool.false_or]
   cases (Z10_q ⟨all.nl, all.l.take i⟩ x.FName).2 with
   | true => simpa using hi1
   | false =>
    cases fitsB d (fndI defs.l x.FName).1.FType x.FValue with
    | false => simpa using hi2
    | true =>
     cases st with
     | false => simpa using hi3
     | true =>
      simp only [Bool.not_true, Bool.not_false, Bool.and_true, Bool.true_and, cond_true, Bool.false_or, cond_false]
      cases badV x.FValue with
      | true => simpa using hi2
      | false => simpa using hi3
theorem need_loop (all : Sl TArg) (a : Bs) (l : List TInput) (out : Sl TFault) (hb : out.l.length + l.length ≤ 4398046511104) : Is (Z71_q9 all a l out) (out.l ++ needX a all l) := by
 induction l generalizing out with
 | nil => exact ⟨out.nl, by simp [Z71_q9, needX]⟩
 | cons x r ih =>
  simp only [List.length_cons] at hb
  have e0 : ∀ e : Int, appC 24 out (⟨false, [(TFault.mk e a)]⟩ : Sl TFault) = some ⟨false, out.l ++ [TFault.mk e a]⟩ := fun e => by rw [appC_ok32 (by omega) (by simp only [List.length_cons, List.length_nil]; omega)]; simp
  have hi1 := ih ⟨false, out.l ++ [TFault.mk 22 a]⟩ (by simp only [List.length_append, List.length_cons, List.length_nil]; omega)
  have hi3 := ih out (by omega)
  simp only [List.append_assoc, List.singleton_append] at hi1
  rw [Z71_q9, needX]
  simp only [on, e0, given_same, r05_isNonNull_eq, isNonNull_eq, Option.bind_some, flt]
  cases h1 : nnW x.FType.FWraps.l with
  | false => simpa using hi3
  | true =>
   cases h2 : x.FHas with
   | true => simpa [h2] using hi3
   | false =>
    simp only [Bool.true_and, Bool.not_false, cond_true, h2]
    cases (Z10_q all x.FName).2 with
    | true => simpa using hi3
    | false => simpa using hi1
theorem args_is {d : TDoc} (hd : DefsOk d) (defs : Sl TInput) (hs : ∀ i ∈ defs.l, SOk i.FType.FWraps) (hdl : defs.l.length ≤ 1048576) (all : Sl TArg) (st : Bool) (a : Bs) (hl : ∀ a ∈ all.l, a.sz ≤ 1048576) (hll : all.l.length ≤ 1048576) (hw : ArgsW all.l) :
  Is (Z71_q d defs all st a) (knownX d defs all st a all.l 0 ++ needX a all defs.l) := by
 unfold Z71_q
 obtain ⟨nl, e1⟩ := args_loop hd defs hs all st a all.l 0 Sl.nil hl hw (by simp [Sl.nil]; omega)
 have h1 := knownX_le d defs all st a all.l 0
 rw [e1]
 simp only [Option.bind_some, on]
 obtain ⟨nl2, e2⟩ := need_loop all a defs.l ⟨nl, Sl.nil.l ++ knownX d defs all st a all.l 0⟩ (by simp only [Sl.nil, List.nil_append]; omega)
 rw [e2]
 exact ⟨nl2, by simp [Sl.nil]⟩
theorem needT_miss (a : Bs) (x : Sl TArg) (l : List TInput) (h : ∀ i ∈ l, nnW i.FType.FWraps.l = true ∧ i.FHas = false) : needX a x l = missX a x l := by
 induction l with
 | nil => rfl
 | cons y r ih =>
  have := h y List.mem_cons_self
  rw [needX, missX, ih fun z hz => h z (List.mem_cons_of_mem _ hz), isNonNull_eq, this.1, this.2]; rfl
theorem Z77_is (s t : Bs) : Z77_q s t = some (needT s t) := by
 unfold Z77_q Z33_q Z39_q
 simp only [on, r05_isNonNull_eq, Z32_q, Sl.nil, nnW, List.head?_nil]
 rw [show (none == some (1 : Int)) = false from rfl, cond_false, appC_ok (by omega) (by simp)]
 rfl
theorem allowed_is (s : TSel) (t : TRef) (is : Bool) (x : TDir) : ∃ y, Z70_q x.FName s.FKind (bif is then liW (barS t.FWraps).l else true) = some (y, !(defsX ((!decide (s.FKind = 2)) && !decide (s.FKind = 3)) t is x).nl) ∧ ((defsX ((!decide (s.FKind = 2)) && !decide (s.FKind = 3)) t is x).nl = false → y = defsX ((!decide (s.FKind = 2)) && !decide (s.FKind = 3)) t is x) := by
 unfold Z70_q defsX argsX
 simp only [on, Z77_is, Option.bind_some]
 cases h1 : x.FName == [115, 107, 105, 112] with
 | true =>
  have e := eq_of_beq h1
  simp only [e]
  exact ⟨_, rfl, fun _ => rfl⟩
 | false =>
  cases h2 : x.FName == [105, 110, 99, 108, 117, 100, 101] with
  | true =>
   have e := eq_of_beq h2
   simp only [e]
   exact ⟨_, rfl, fun _ => rfl⟩
  | false =>
   cases h3 : x.FName == [100, 101, 102, 101, 114] with
   | true =>
    have e := eq_of_beq h3
    simp only [e]
    cases decide (s.FKind = 2) <;> cases decide (s.FKind = 3) <;> cases is <;> exact ⟨_, rfl, fun h => by first | rfl | cases h⟩
   | false =>
    cases h4 : x.FName == [115, 116, 114, 101, 97, 109] with
    | false => cases decide (s.FKind = 2) <;> cases decide (s.FKind = 3) <;> cases is <;> exact ⟨_, rfl, fun h => by first | rfl | cases h⟩
    | true => cases decide (s.FKind = 2) <;> cases decide (s.FKind = 3) <;> cases is <;> cases liW (barS t.FWraps).l <;> exact ⟨_, rfl, fun h => by first | rfl | cases h⟩
theorem twice_loop (s : TSel) (x : TDir) (m k : Nat) (b : Bool) (h : k + m ≤ s.FDirs.l.length) : Z72_q30 s x m k b = some (b && !(((s.FDirs.l.drop k).take m).any fun y => y.FName == x.FName)) := by
 induction m generalizing k b with
 | zero => simp [Z72_q30]
 | succ m ih =>
  have hk : k < s.FDirs.l.length := by omega
  rw [Z72_q30, List.drop_eq_getElem_cons hk, List.take_succ_cons, List.any_cons, List.getElem?_eq_getElem hk]
  cases b with
  | false => simp only [guardO, Bool.false_eq_true, if_false]; rw [ih (k + 1) _ (by omega)]; simp
  | true => simp only [guardO, if_true, Option.bind_some]; rw [ih (k + 1) _ (by omega)]; simp
theorem any_dir (p : TDir → Bool) (l : List TDir) (i : Nat) : ge0 (match Z98_q6 p l i with | Sum.inl _ => (-1 : Int) | Sum.inr e => e) = l.any p := by
 induction l generalizing i with
 | nil => rfl
 | cons a r ih =>
  rw [Z98_q6, List.any_cons]
  simp only [on]
  cases p a with
  | true => exact ge0_nat i
  | false => exact ih (i + 1)
theorem containsDir_eq (l : Sl TDir) (p : TDir → Bool) : Z93_q l p = l.l.any p := any_dir p l.l 0
theorem argsX_need (name : Bs) (field : Bool) : ∀ i ∈ (argsX name field).l, nnW i.FType.FWraps.l = true ∧ i.FHas = false := by
 have h : ∀ s t, nnW (needT s t).FType.FWraps.l = true ∧ (needT s t).FHas = false := fun s t => ⟨rfl, rfl⟩
 unfold argsX
 cases (name == [115, 107, 105, 112]) || (name == [105, 110, 99, 108, 117, 100, 101]) <;> cases (name == [100, 101, 102, 101, 114]) && !field <;> cases (name == [115, 116, 114, 101, 97, 109]) && field <;> simp [Sl.nil, h]
theorem defsX_need (field : Bool) (t : TRef) (is : Bool) (x : TDir) : ∀ i ∈ (defsX field t is x).l, nnW i.FType.FWraps.l = true ∧ i.FHas = false := by
 unfold defsX
 cases ((x.FName == [115, 116, 114, 101, 97, 109]) && is) && !(liW (barS t.FWraps).l) with
 | true => intro i hi; cases hi
 | false => exact argsX_need _ _
theorem rdirs_loop {d : TDoc} (hd : DefsOk d) (s : TSel) (t : TRef) (is : Bool) (a : Bs) (l : List TDir) (i : Nat) (out : Sl TFault) (h : l = s.FDirs.l.drop i) (hi : i ≤ s.FDirs.l.length) (hl : ∀ a ∈ l, a.sz ≤ 1048576) (hw : ∀ x ∈ l, ArgsW x.FArgs.l) (hb : out.l.length + (l.map TDir.sz).sum ≤ 4398046511104) :
  Is (Z72_q7 d s (bif is then liW (barS t.FWraps).l else true) a l i out) (out.l ++ dirsX d s t is a l i) := by
 induction l generalizing i out with
 | nil => exact ⟨out.nl, by simp [Z72_q7, dirsX]⟩
 | cons x r ih =>
  have hlt : i < s.FDirs.l.length := by
   by_cases hh : i < s.FDirs.l.length
   ·exact hh
   ·rw [List.drop_of_length_le (by omega)] at h; cases h
  have h2 : r = s.FDirs.l.drop (i + 1) := by rw [← List.tail_drop, ← h]; rfl
  have hx := hl x List.mem_cons_self
  have hsz := x.sz_def; have hal := Sl.len_lt (f := TArg.sz) x.FArgs TArg.pos; have hnm := Bs.sz_pos x.FName
  simp only [List.map_cons, List.sum_cons] at hb
  have hdl := dirX_le d s t is a x i
  obtain ⟨y, e1, e2⟩ := allowed_is s t is x
  have ih := fun out => ih (i + 1) out h2 (by omega) (fun y hy => hl y (List.mem_cons_of_mem _ hy)) (fun y hy => hw y (List.mem_cons_of_mem _ hy))
  rw [Z72_q7, dirsX]
  simp only [on, e1, Option.bind_some]
  rw [twice_loop s x i 0 _ (by omega), Option.bind_some]
  simp only [List.drop_zero]
  have key : Is (bif (!(!(defsX ((!decide (s.FKind = 2)) && !decide (s.FKind = 3)) t is x).nl && !((s.FDirs.l.take i).any fun y => y.FName == x.FName))) then ((appC 24 out (⟨false, [(TFault.mk (29 : Int) a)]⟩ : Sl TFault)).bind fun x26 => some x26) else ((Z71_q d y x.FArgs (((x.FName == ([100, 101, 102, 101, 114] : Bs))) || ((x.FName == ([115, 116, 114, 101, 97, 109] : Bs)))) a).bind fun x27 => (appC 24 out x27).bind fun x28 => some x28)) (out.l ++ dirX d s t is a x i) := by
   simp only [Q.some_bind]
   have e9 : dirX d s t is a x i = (bif (!(!(defsX ((!decide (s.FKind = 2)) && !decide (s.FKind = 3)) t is x).nl && !((s.FDirs.l.take i).any fun y => y.FName == x.FName))) then flt true 29 a else knownX d (defsX ((!decide (s.FKind = 2)) && !decide (s.FKind = 3)) t is x) x.FArgs ((x.FName == [100, 101, 102, 101, 114]) || (x.FName == [115, 116, 114, 101, 97, 109])) a x.FArgs.l 0 ++ missX a x.FArgs (defsX ((!decide (s.FKind = 2)) && !decide (s.FKind = 3)) t is x).l) := by
    unfold dirX
    simp only [containsDir_eq, Z5_q]
    cases (defsX ((!decide (s.FKind = 2)) && !decide (s.FKind = 3)) t is x).nl <;> simp
   rw [e9] at hdl ⊢
   cases hn : (defsX ((!decide (s.FKind = 2)) && !decide (s.FKind = 3)) t is x).nl with
   | true => exact app_is (by simp only [List.length_cons, List.length_nil]; omega)
   | false =>
    have ey := e2 hn
    cases hany : (s.FDirs.l.take i).any fun y => y.FName == x.FName with
    | true => exact app_is (by simp only [List.length_cons, List.length_nil]; omega)
    | false =>
     simp only [hn, hany, Bool.not_false, Bool.and_true, Bool.not_true, cond_false] at hdl ⊢
     rw [ey]
     have hD := defsX_ok ((!decide (s.FKind = 2)) && !decide (s.FKind = 3)) t is x
     obtain ⟨nl, e3⟩ := args_is hd (defsX ((!decide (s.FKind = 2)) && !decide (s.FKind = 3)) t is x) hD.2 (by omega) x.FArgs ((x.FName == [100, 101, 102, 101, 114]) || (x.FName == [115, 116, 114, 101, 97, 109])) a (fun a ha => by have := TDir.arg_le ha; omega) (by omega) (hw x List.mem_cons_self)
     rw [e3, Option.bind_some, needT_miss a x.FArgs _ (defsX_need _ _ _ _)]
     exact app_is (by simp only [List.length_append] at hdl ⊢; omega)
  obtain ⟨nl, e3⟩ := key
  rw [e3, Option.bind_some]
  obtain ⟨nl2, e4⟩ := ih ⟨nl, out.l ++ dirX d s t is a x i⟩ (by simp only [List.length_append]; omega)
  exact ⟨nl2, by rw [e4, List.append_assoc]⟩
theorem rdirs_is {d : TDoc} (hd : DefsOk d) (s : TSel) (hs : s.sz ≤ 1048576) (hw : ∀ x ∈ s.FDirs.l, ArgsW x.FArgs.l) (t : TRef) (is : Bool) (a : Bs) :
  Is (Z72_q d s (bif is then liW (barS t.FWraps).l else true) a) (dirsX d s t is a s.FDirs.l 0) := by
 have h := s.sz_def
 have h2 : Sl.sz TDir.sz s.FDirs = 1 + (s.FDirs.l.map TDir.sz).sum := rfl
 unfold Z72_q
 obtain ⟨nl, e⟩ := rdirs_loop hd s t is a s.FDirs.l 0 Sl.nil rfl (by omega) (TSel.dir_le hs).1 hw (by simp only [Sl.nil, List.length_nil]; omega)
 rw [e]
 exact ⟨nl, by simp [on, Sl.nil]⟩
end Go.Proofs
