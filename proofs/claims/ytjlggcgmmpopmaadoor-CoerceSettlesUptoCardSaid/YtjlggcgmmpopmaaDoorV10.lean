import Derived.Test.YtjlggcgmmpopmaaDoorV9
import Derived.Test.YtjlggcgmmpopmaaDoorRows
set_option maxRecDepth 100000
set_option maxHeartbeats 2000000
set_option linter.unusedVariables false
set_option linter.unusedSimpArgs false
namespace Go.Proofs
open Go Go.Ab
theorem Z36_loop (a : TRef) (ha : a.FWraps.l.length ≤ 1048576) (l : List Int) (i : Nat) (h : i + l.length = a.FWraps.l.length) : Ok (Z36_q10 a l i) := by
 induction l generalizing i with
 | nil => exact Tot.some _
 | cons x r ih =>
  simp only [List.length_cons] at h
  have hr := ih (i + 1) (by omega)
  rw [Z36_q10]
  simp only [on]
  refine Tot.cond (fun _ => Tot.some _) fun _ => ?_
  by_cases hi : 0 < i
  ·have h1 : decide ((0 : Int) < ((i : Nat) : Int)) = true := by simpa using hi
   obtain ⟨v, hv⟩ := idxC_ok (l := a.FWraps.l) (n := (i : Int) - 1) (by omega)
   simp only [h1, cond_true, Bool.true_and, subC_ok (a := (i : Int)) (b := 1) (by omega)]
   cases decide (x = 1) <;> simp only [guardO, hv, if_true, Option.bind_some, Bool.false_eq_true, if_false, Bool.false_and, cond_false]
   ·exact hr
   ·(repeat' (first | exact Tot.some _ | assumption | (with_reducible refine Tot.bind ?_ fun _ _ => ?_) | (with_reducible refine Tot.guard (fun _ => ?_) fun _ _ _ => ?_) | (with_reducible refine Tot.cond (fun _ => ?_) fun _ => ?_) | (with_reducible refine Tot.on fun _ _ => ?_) | split))
  ·have h1 : decide ((0 : Int) < ((i : Nat) : Int)) = false := by simpa using hi
   simp only [h1, Bool.false_and, guardO, Bool.false_eq_true, if_false, cond_false]
   exact hr
theorem Z36_ok (a : TRef) (ha : a.FWraps.l.length ≤ 1048576) : Ok (Z36_q a) := by
 unfold Z36_q
 (repeat' (first | exact Tot.some _ | assumption | (with_reducible refine Tot.bind ?_ fun _ _ => ?_) | (with_reducible refine Tot.guard (fun _ => ?_) fun _ _ _ => ?_) | (with_reducible refine Tot.cond (fun _ => ?_) fun _ => ?_) | (with_reducible refine Tot.on fun _ _ => ?_) | split))
 exact Z36_loop a ha _ _ (by simp)
theorem Z26_loop (k : TValue → Option Int) (l : List TValue) (s : Int) (hk : ∀ x ∈ l, ∃ r, k x = some r ∧ 1 ≤ r ∧ r ≤ x.sz) (hs : 0 ≤ s) (hb : s + ((l.map TValue.sz).sum : Nat) ≤ 1152921504606846976) : ∃ r, Z26_q7 k l s = some r ∧ s ≤ r ∧ r ≤ s + ((l.map TValue.sz).sum : Nat) := by
 induction l generalizing s with
 | nil => exact ⟨s, rfl, by simp, by simp⟩
 | cons x r ih =>
  obtain ⟨v, h1, h2, h3⟩ := hk x List.mem_cons_self
  simp only [List.map_cons, List.sum_cons] at hb ⊢
  rw [Z26_q7]
  simp only [on, h1, Option.bind_some]
  rw [addC_ok (by omega)]
  simp only [Option.bind_some]
  obtain ⟨w, h4, h5, h6⟩ := ih (s + v) (fun y hy => hk y (List.mem_cons_of_mem _ hy)) (by omega) (by omega)
  exact ⟨w, h4, by omega, by omega⟩
theorem TValue.item_lt {v x : TValue} (h : x ∈ v.FItems.l) : x.sz < v.sz := by
 have h1 := v.sz_def; have h2 := Sl.mem_le (f := TValue.sz) h; omega
theorem TValue.items_sum (v : TValue) : 2 + (v.FItems.l.map TValue.sz).sum ≤ v.sz := by
 have h1 := v.sz_def; have h2 : Sl.sz TValue.sz v.FItems = 1 + (v.FItems.l.map TValue.sz).sum := rfl; omega
theorem Z26_tot (n : Nat) : ∀ v : TValue, v.sz < n → v.sz ≤ 1073741824 → ∃ r, Z26_qn n v = some r ∧ 1 ≤ r ∧ r ≤ v.sz := by
 induction n with
 | zero => intro v h; omega
 | succ n ih =>
  intro v h hb
  have h0 := v.items_sum
  obtain ⟨w, h4, h5, h6⟩ := Z26_loop (Z26_qn n) v.FItems.l 1 (fun x hx => by have := TValue.item_lt hx; exact ih x (by omega) (by omega)) (by omega) (by omega)
  rw [Z26_qn, h4]
  exact ⟨w, rfl, by omega, by omega⟩
theorem Z26_ok (v : TValue) (h : v.sz ≤ 1048576) : ∃ r, Z26_q v = some r ∧ 1 ≤ r ∧ r ≤ v.sz := Z26_tot F0 v (by rw [F0_eq]; omega) (by omega)
theorem Z23_loop (k : TValue → Option Int) (l : List TValue) (s b : Int) (hk : ∀ x ∈ l, ∃ r, k x = some r ∧ 1 ≤ r ∧ r ≤ b) (hs : 0 ≤ s ∧ s ≤ b) : ∃ r, Z23_q8 k l s = some r ∧ 0 ≤ r ∧ r ≤ b := by
 induction l generalizing s with
 | nil => exact ⟨s, rfl, by omega, by omega⟩
 | cons x r ih =>
  obtain ⟨v, h1, h2, h3⟩ := hk x List.mem_cons_self
  rw [Z23_q8]
  simp only [on, h1, Option.bind_some]
  exact ih _ (fun y hy => hk y (List.mem_cons_of_mem _ hy)) (by split <;> omega)
theorem Z23_tot (n : Nat) : ∀ v : TValue, v.sz < n → v.sz ≤ 1073741824 → ∃ r, Z23_qn n v = some r ∧ 1 ≤ r ∧ r ≤ v.sz := by
 induction n with
 | zero => intro v h; omega
 | succ n ih =>
  intro v h hb
  have h0 := v.items_sum
  obtain ⟨w, h4, h5, h6⟩ := Z23_loop (Z23_qn n) v.FItems.l 0 (v.sz - 1 : Nat) (fun x hx => by have := TValue.item_lt hx; obtain ⟨r, h7, h8, h9⟩ := ih x (by omega) (by omega); exact ⟨r, h7, h8, by omega⟩) (by omega)
  rw [Z23_qn, h4]
  simp only [on, Option.bind_some]
  rw [addC_ok (by omega)]
  exact ⟨w + 1, rfl, by omega, by omega⟩
theorem Z23_ok (v : TValue) (h : v.sz ≤ 1048576) : Ok (Z23_q v) := by
 obtain ⟨r, hr, _⟩ := Z23_tot F0 v (by rw [F0_eq]; omega) (by omega); exact ⟨r, hr⟩
theorem Z28_in (a : Sl Bs) (x : Bs) (m i : Nat) (h : i + m ≤ a.l.length) : Ok (Z28_q13 a x m i) := by
 induction m generalizing i with
 | zero => exact Tot.some _
 | succ m ih =>
  rw [Z28_q13]
  (repeat' (first | exact Tot.some _ | assumption | (with_reducible refine Tot.bind ?_ fun _ _ => ?_) | (with_reducible refine Tot.guard (fun _ => ?_) fun _ _ _ => ?_) | (with_reducible refine Tot.cond (fun _ => ?_) fun _ => ?_) | (with_reducible refine Tot.on fun _ _ => ?_) | split))
  ·exact get_ok (by omega)
  ·exact ih _ (by omega)
theorem Z28_out (a : Sl Bs) (l : List Bs) (i : Nat) (h : i + l.length = a.l.length) : Ok (Z28_q5 a l i) := by
 induction l generalizing i with
 | nil => exact Tot.some _
 | cons x r ih =>
  simp only [List.length_cons] at h
  rw [Z28_q5]
  (repeat' (first | exact Tot.some _ | assumption | (with_reducible refine Tot.bind ?_ fun _ _ => ?_) | (with_reducible refine Tot.guard (fun _ => ?_) fun _ _ _ => ?_) | (with_reducible refine Tot.cond (fun _ => ?_) fun _ => ?_) | (with_reducible refine Tot.on fun _ _ => ?_) | split))
  ·exact Z28_in a x _ _ (by omega)
  ·exact ih _ (by omega)
theorem Z28_ok (a : Sl Bs) : Ok (Z28_q a) := by
 unfold Z28_q
 (repeat' (first | exact Tot.some _ | assumption | (with_reducible refine Tot.bind ?_ fun _ _ => ?_) | (with_reducible refine Tot.guard (fun _ => ?_) fun _ _ _ => ?_) | (with_reducible refine Tot.cond (fun _ => ?_) fun _ => ?_) | (with_reducible refine Tot.on fun _ _ => ?_) | split))
 exact Z28_out a _ _ (by simp)
theorem Z27_ok (v : TValue) (b : Bool) : Ok (Z27_q v b) := by
 unfold Z27_q
 (repeat' (first | exact Tot.some _ | assumption | (with_reducible refine Tot.bind ?_ fun _ _ => ?_) | (with_reducible refine Tot.guard (fun _ => ?_) fun _ _ _ => ?_) | (with_reducible refine Tot.cond (fun _ => ?_) fun _ => ?_) | (with_reducible refine Tot.on fun _ _ => ?_) | split))
 exact Z28_ok _
theorem Z29_loop (b : Bool) (k : TValue → Bool → Option Bool) (l : List TValue) (hk : ∀ x ∈ l, Ok (k x b)) : Ok (Z29_q11 b k l) := by
 induction l with
 | nil => exact Tot.some _
 | cons x r ih =>
  rw [Z29_q11]
  (repeat' (first | exact Tot.some _ | assumption | (with_reducible refine Tot.bind ?_ fun _ _ => ?_) | (with_reducible refine Tot.guard (fun _ => ?_) fun _ _ _ => ?_) | (with_reducible refine Tot.cond (fun _ => ?_) fun _ => ?_) | (with_reducible refine Tot.on fun _ _ => ?_) | split))
  ·rename_i h; rw [h]; exact hk x List.mem_cons_self
  ·exact ih fun y hy => hk y (List.mem_cons_of_mem _ hy)
theorem Z29_tot (n : Nat) : ∀ (v : TValue) (b : Bool), v.sz < n → Ok (Z29_qn n v b) := by
 induction n with
 | zero => intro v b h; omega
 | succ n ih =>
  intro v b h
  rw [Z29_qn]
  (repeat' (first | exact Tot.some _ | assumption | (with_reducible refine Tot.bind ?_ fun _ _ => ?_) | (with_reducible refine Tot.guard (fun _ => ?_) fun _ _ _ => ?_) | (with_reducible refine Tot.cond (fun _ => ?_) fun _ => ?_) | (with_reducible refine Tot.on fun _ _ => ?_) | split))
  ·exact Z27_ok _ _
  ·exact Z29_loop b _ _ fun x hx => ih x b (by have := TValue.item_lt hx; omega)
theorem Z24_ok (v : TValue) (h : v.sz ≤ 1048576) : Ok (Z24_q v) := by
 unfold Z24_q
 obtain ⟨r, hr, _⟩ := Z26_ok v h
 (repeat' (first | exact Tot.some _ | assumption | (with_reducible refine Tot.bind ?_ fun _ _ => ?_) | (with_reducible refine Tot.guard (fun _ => ?_) fun _ _ _ => ?_) | (with_reducible refine Tot.cond (fun _ => ?_) fun _ => ?_) | (with_reducible refine Tot.on fun _ _ => ?_) | split))
 ·exact ⟨r, hr⟩
 ·exact Z23_ok v h
 ·exact Z29_tot F0 v true (by rw [F0_eq]; omega)
theorem Z40_loop (k : TValue → Option Bool) (l : List TValue) (hk : ∀ x ∈ l, Ok (k x)) : Ok (Z40_q5 k l) := by
 induction l with
 | nil => exact Tot.some _
 | cons x r ih =>
  rw [Z40_q5]
  (repeat' (first | exact Tot.some _ | assumption | (with_reducible refine Tot.bind ?_ fun _ _ => ?_) | (with_reducible refine Tot.guard (fun _ => ?_) fun _ _ _ => ?_) | (with_reducible refine Tot.cond (fun _ => ?_) fun _ => ?_) | (with_reducible refine Tot.on fun _ _ => ?_) | split))
  ·rename_i h; rw [h]; exact hk x List.mem_cons_self
  ·exact ih fun y hy => hk y (List.mem_cons_of_mem _ hy)
theorem Z40_tot (n : Nat) : ∀ (v : TValue), v.sz < n → Ok (Z40_qn n v) := by
 induction n with
 | zero => intro v h; omega
 | succ n ih =>
  intro v h
  rw [Z40_qn]
  (repeat' (first | exact Tot.some _ | assumption | (with_reducible refine Tot.bind ?_ fun _ _ => ?_) | (with_reducible refine Tot.guard (fun _ => ?_) fun _ _ _ => ?_) | (with_reducible refine Tot.cond (fun _ => ?_) fun _ => ?_) | (with_reducible refine Tot.on fun _ _ => ?_) | split))
  exact Z40_loop _ _ fun x hx => ih x (by have := TValue.item_lt hx; omega)
theorem Z40_ok (v : TValue) (h : v.sz ≤ 1048576) : Ok (Z40_q v) := Z40_tot F0 v (by rw [F0_eq]; omega)
theorem TArg.value_le (a : TArg) : a.FValue.sz ≤ a.sz := by have := a.sz_def; omega
theorem TDir.arg_le {x : TDir} {a : TArg} (h : a ∈ x.FArgs.l) : a.sz ≤ x.sz := by have := x.sz_def; have := Sl.mem_le (f := TArg.sz) h; omega
theorem Z42_in (h10 : TDir) (l : List TArg) (h : ∀ a ∈ l, a.sz ≤ 1048576) : Ok (Z42_q25 h10 l) := by
 induction l with
 | nil => exact Tot.some _
 | cons x r ih =>
  have h1 := h x List.mem_cons_self; have h2 := x.value_le
  rw [Z42_q25]
  (repeat' (first | exact Tot.some _ | assumption | (with_reducible refine Tot.bind ?_ fun _ _ => ?_) | (with_reducible refine Tot.guard (fun _ => ?_) fun _ _ _ => ?_) | (with_reducible refine Tot.cond (fun _ => ?_) fun _ => ?_) | (with_reducible refine Tot.on fun _ _ => ?_) | split))
  all_goals first | exact ih fun y hy => h y (List.mem_cons_of_mem _ hy) | (subst_vars; first | exact Z24_ok _ (by omega) | exact Z40_ok _ (by omega))
theorem Z42_loop (l : List TDir) (h : ∀ a ∈ l, a.sz ≤ 1048576) : Ok (Z42_q10 l) := by
 induction l with
 | nil => exact Tot.some _
 | cons x r ih =>
  have h1 := h x List.mem_cons_self
  rw [Z42_q10]
  (repeat' (first | exact Tot.some _ | assumption | (with_reducible refine Tot.bind ?_ fun _ _ => ?_) | (with_reducible refine Tot.guard (fun _ => ?_) fun _ _ _ => ?_) | (with_reducible refine Tot.cond (fun _ => ?_) fun _ => ?_) | (with_reducible refine Tot.on fun _ _ => ?_) | split))
  ·exact Z42_in x _ fun a ha => by have := TDir.arg_le ha; omega
  ·exact ih fun y hy => h y (List.mem_cons_of_mem _ hy)
theorem Z42_ok (s : Sl TDir) (h : Sl.sz TDir.sz s ≤ 1048576) : Ok (Z42_q s) := by
 unfold Z42_q
 (repeat' (first | exact Tot.some _ | assumption | (with_reducible refine Tot.bind ?_ fun _ _ => ?_) | (with_reducible refine Tot.guard (fun _ => ?_) fun _ _ _ => ?_) | (with_reducible refine Tot.cond (fun _ => ?_) fun _ => ?_) | (with_reducible refine Tot.on fun _ _ => ?_) | split))
 exact Z42_loop _ fun a ha => by have := Sl.mem_le (f := TDir.sz) ha; omega
theorem TRef.wraps_le (r : TRef) : r.FWraps.l.length ≤ r.sz := by have := r.sz_def; have := Sl.len_le (f := fun _ : Int => 1) r.FWraps (fun _ => Nat.le_refl _); omega
theorem Z44_loop (l : List TInput) (h : ∀ a ∈ l, a.sz ≤ 1048576) : Ok (Z44_q10 l) := by
 induction l with
 | nil => exact Tot.some _
 | cons x r ih =>
  have h1 := h x List.mem_cons_self; have h2 := x.sz_def; have h3 := x.FType.wraps_le
  rw [Z44_q10]
  (repeat' (first | exact Tot.some _ | assumption | (with_reducible refine Tot.bind ?_ fun _ _ => ?_) | (with_reducible refine Tot.guard (fun _ => ?_) fun _ _ _ => ?_) | (with_reducible refine Tot.cond (fun _ => ?_) fun _ => ?_) | (with_reducible refine Tot.on fun _ _ => ?_) | split))
  all_goals first | exact ih fun y hy => h y (List.mem_cons_of_mem _ hy) | (subst_vars; first | exact Z36_ok _ (by omega) | exact Z42_ok _ (by omega) | exact Z24_ok _ (by omega) | exact Z40_ok _ (by omega))
theorem Z44_ok (s : Sl TInput) (h : Sl.sz TInput.sz s ≤ 1048576) : Ok (Z44_q s) := by
 unfold Z44_q
 (repeat' (first | exact Tot.some _ | assumption | (with_reducible refine Tot.bind ?_ fun _ _ => ?_) | (with_reducible refine Tot.guard (fun _ => ?_) fun _ _ _ => ?_) | (with_reducible refine Tot.cond (fun _ => ?_) fun _ => ?_) | (with_reducible refine Tot.on fun _ _ => ?_) | split))
 exact Z44_loop _ fun a ha => by have := Sl.mem_le (f := TInput.sz) ha; omega
theorem Z43_loop (l : List TField) (h : ∀ a ∈ l, a.sz ≤ 1048576) : Ok (Z43_q10 l) := by
 induction l with
 | nil => exact Tot.some _
 | cons x r ih =>
  have h1 := h x List.mem_cons_self; have h2 := x.sz_def; have h3 := x.FType.wraps_le
  have hz : TField.zero.FType.FWraps.l.length ≤ 1048576 := by decide
  rw [Z43_q10]
  simp only [on]
  cases Z20_q x.FName <;> simp only [Bool.not_true, Bool.not_false, cond_true, cond_false, Bool.or_false, Bool.or_true, Bool.true_or, Bool.false_or]
  ·simp [guardO]; exact Tot.some _
  ·obtain ⟨b1, e1⟩ := Z44_ok x.FArgs (by omega)
   obtain ⟨b2, e2⟩ := Z36_ok x.FType (by omega)
   obtain ⟨b3, e3⟩ := Z42_ok x.FDirs (by omega)
   have hr := ih fun y hy => h y (List.mem_cons_of_mem _ hy)
   cases b1 <;> cases b2 <;> cases b3 <;> simp [guardO, e1, e2, e3] <;> first | exact Tot.some _ | exact hr
theorem Z43_ok (s : Sl TField) (h : Sl.sz TField.sz s ≤ 1048576) : Ok (Z43_q s) := by
 unfold Z43_q
 (repeat' (first | exact Tot.some _ | assumption | (with_reducible refine Tot.bind ?_ fun _ _ => ?_) | (with_reducible refine Tot.guard (fun _ => ?_) fun _ _ _ => ?_) | (with_reducible refine Tot.cond (fun _ => ?_) fun _ => ?_) | (with_reducible refine Tot.on fun _ _ => ?_) | split))
 exact Z43_loop _ fun a ha => by have := Sl.mem_le (f := TField.sz) ha; omega
theorem Z45_loop (b : Bool) (l : List TMember) (h : ∀ a ∈ l, a.sz ≤ 1048576) : Ok (Z45_q10 b l) := by
 induction l with
 | nil => exact Tot.some _
 | cons x r ih =>
  have h1 := h x List.mem_cons_self; have h2 := x.sz_def
  rw [Z45_q10]
  simp only [on]
  cases Z20_q x.FName <;> simp only [Bool.not_true, Bool.not_false, cond_true, cond_false, Bool.or_false, Bool.or_true, Bool.true_or, Bool.false_or]
  ·simp [guardO]; exact Tot.some _
  ·obtain ⟨b3, e3⟩ := Z42_ok x.FDirs (by omega)
   have hr := ih fun y hy => h y (List.mem_cons_of_mem _ hy)
   simp only [guardO, e3, if_true, Option.bind_some]
   (repeat' (first | exact Tot.some _ | assumption | (with_reducible refine Tot.bind ?_ fun _ _ => ?_) | (with_reducible refine Tot.guard (fun _ => ?_) fun _ _ _ => ?_) | (with_reducible refine Tot.cond (fun _ => ?_) fun _ => ?_) | (with_reducible refine Tot.on fun _ _ => ?_) | split))
theorem Z45_ok (s : Sl TMember) (b : Bool) (h : Sl.sz TMember.sz s ≤ 1048576) : Ok (Z45_q s b) := by
 unfold Z45_q
 (repeat' (first | exact Tot.some _ | assumption | (with_reducible refine Tot.bind ?_ fun _ _ => ?_) | (with_reducible refine Tot.guard (fun _ => ?_) fun _ _ _ => ?_) | (with_reducible refine Tot.cond (fun _ => ?_) fun _ => ?_) | (with_reducible refine Tot.on fun _ _ => ?_) | split))
 exact Z45_loop _ _ fun a ha => by have := Sl.mem_le (f := TMember.sz) ha; omega
theorem Z41_ok (x : TDef) (h : x.sz ≤ 1048576) : Ok (Z41_q x) := by
 have h2 := x.sz_def
 unfold Z41_q
 (repeat' (first | exact Tot.some _ | assumption | (with_reducible refine Tot.bind ?_ fun _ _ => ?_) | (with_reducible refine Tot.guard (fun _ => ?_) fun _ _ _ => ?_) | (with_reducible refine Tot.cond (fun _ => ?_) fun _ => ?_) | (with_reducible refine Tot.on fun _ _ => ?_) | split))
 all_goals first | exact Z42_ok _ (by omega) | exact Z43_ok _ (by omega) | exact Z45_ok _ _ (by omega) | exact Z44_ok _ (by omega)
theorem Z38_loop (l : List TDef) (h : ∀ a ∈ l, a.sz ≤ 1048576) : Ok (Z38_q10 l) := by
 induction l with
 | nil => exact Tot.some _
 | cons x r ih =>
  rw [Z38_q10]
  (repeat' (first | exact Tot.some _ | assumption | (with_reducible refine Tot.bind ?_ fun _ _ => ?_) | (with_reducible refine Tot.guard (fun _ => ?_) fun _ _ _ => ?_) | (with_reducible refine Tot.cond (fun _ => ?_) fun _ => ?_) | (with_reducible refine Tot.on fun _ _ => ?_) | split))
  ·subst_vars; exact Z41_ok _ (h _ List.mem_cons_self)
  ·exact ih fun y hy => h y (List.mem_cons_of_mem _ hy)
theorem TDoc.def_le {d : TDoc} {x : TDef} (h : x ∈ d.FDefs.l) : x.sz ≤ d.sz := by have := d.sz_def; have := Sl.mem_le (f := TDef.sz) h; omega
theorem Z38_ok (d : TDoc) (h : d.sz ≤ 1048576) : Ok (Z38_q d) := by
 unfold Z38_q
 (repeat' (first | exact Tot.some _ | assumption | (with_reducible refine Tot.bind ?_ fun _ _ => ?_) | (with_reducible refine Tot.guard (fun _ => ?_) fun _ _ _ => ?_) | (with_reducible refine Tot.cond (fun _ => ?_) fun _ => ?_) | (with_reducible refine Tot.on fun _ _ => ?_) | split))
 exact Z38_loop _ fun a ha => by have := TDoc.def_le ha; omega
end Go.Proofs

namespace Go.Proofs
open Go Go.Ab
theorem condE {α : Type} {c : Bool} {a b : Option α} {z : α} (h : cond c a b = some z) : (c = true ∧ a = some z) ∨ (c = false ∧ b = some z) := by cases c; exact .inr ⟨rfl, h⟩; exact .inl ⟨rfl, h⟩
theorem guardE {α β : Type} {c : Bool} {o : Option α} {d : α} {k : α → Option β} {z : β} (h : guardO c o d k = some z) : (c = true ∧ ∃ v, o = some v ∧ k v = some z) ∨ (c = false ∧ k d = some z) := by
  unfold guardO at h
  cases c with
  | true => obtain ⟨v, e, h⟩ := bindO_some (by simpa using h); exact .inl ⟨rfl, v, e, h⟩
  | false => exact .inr ⟨rfl, by simpa using h⟩
theorem literal_is {v : TValue} (h : Z24_q v = some true) : Z29_qn F0 v true = some true := by
  unfold Z24_q at h
  obtain ⟨a, _, h⟩ := bindO_some h
  rcases guardE h with ⟨_, b, _, h⟩ | ⟨_, h⟩
  · rcases guardE h with ⟨_, c, e, h⟩ | ⟨_, h⟩
    · simp at h; rw [h.2] at e; exact e
    · simp at h
  · rcases guardE h with ⟨_, c, e, h⟩ | ⟨_, h⟩
    · simp at h; rw [h.2] at e; exact e
    · simp at h
theorem right_is {v : TValue} (h : Z25_q v = some true) : Z29_qn F0 v false = some true := by
  unfold Z25_q at h
  obtain ⟨a, _, h⟩ := bindO_some h
  rcases guardE h with ⟨_, b, _, h⟩ | ⟨_, h⟩
  · rcases guardE h with ⟨_, c, e, h⟩ | ⟨_, h⟩
    · simp at h; rw [h.2] at e; exact e
    · simp at h
  · rcases guardE h with ⟨_, c, e, h⟩ | ⟨_, h⟩
    · simp at h; rw [h.2] at e; exact e
    · simp at h
theorem inputs_right (l : List TInput) (z : Unit ⊕ Bool) (h : Z44_q10 l = some z) : (z = Sum.inl () ∧ ∀ x ∈ l, x.FHas = true → Z24_q x.FDefault = some true) ∨ z = Sum.inr false := by
  induction l generalizing z with
  | nil => rw [Z44_q10] at h; exact .inl ⟨(Option.some.inj h).symm, fun a ha => by cases ha⟩
  | cons a r ih =>
    rw [Z44_q10] at h
    simp only [Ab.on] at h
    have step : ∀ (x27 : Bool), (a.FHas = true → Z24_q a.FDefault = some x27) → ∀ x28 : Bool, (bif ((a.FHas && ((!x27) || (!x28))) || ((!a.FHas) && (!(bif (!(a.FHas && ((!x27) || (!x28))) && (!a.FHas)) then Z46_q a.FDefault else false)))) then (some (Sum.inr false)) else (Z44_q10 r)) = some z →
        (z = Sum.inl () ∧ ∀ x ∈ a :: r, x.FHas = true → Z24_q x.FDefault = some true) ∨ z = Sum.inr false := by
      intro x27 e x28 h
      rcases condE h with ⟨_, h⟩ | ⟨hc, h⟩
      · exact .inr (Option.some.inj h).symm
      · rcases ih z h with ⟨h1, h2⟩ | h1
        · refine .inl ⟨h1, fun x hx hh => ?_⟩
          rcases List.mem_cons.1 hx with rfl | hx
          · have := e hh
            rw [hh] at hc
            cases x27 with
            | true => exact this
            | false => simp at hc
          · exact h2 x hx hh
        · exact .inr h1
    rcases guardE h with ⟨_, x22, _, h⟩ | ⟨_, h⟩ <;> rcases guardE h with ⟨_, x23, _, h⟩ | ⟨_, h⟩ <;> rcases condE h with ⟨_, h⟩ | ⟨_, h⟩
    all_goals first
      | exact .inr (Option.some.inj h).symm
      | (rcases guardE h with ⟨_, x27, e27, h⟩ | ⟨e27, h⟩
         · rcases guardE h with ⟨_, x28, _, h⟩ | ⟨_, h⟩
           · exact step x27 (fun _ => e27) x28 h
           · exact step x27 (fun _ => e27) false h
         · rcases guardE h with ⟨_, x28, _, h⟩ | ⟨_, h⟩
           · exact step false (fun hh => by rw [hh] at e27; cases e27) x28 h
           · exact step false (fun hh => by rw [hh] at e27; cases e27) false h)
end Go.Proofs

namespace Go.Proofs
open Go Go.Ab
theorem inputsRight_w {s : Sl TInput} (h : Z44_q s = some true) : ∀ x ∈ s.l, x.FHas = true → Z24_q x.FDefault = some true := by
  unfold Z44_q at h
  rcases condE h with ⟨_, h⟩ | ⟨_, h⟩
  · cases h
  · obtain ⟨z, g, h⟩ := bindO_some h
    rcases inputs_right _ _ g with ⟨_, h1⟩ | rfl
    · exact h1
    · cases h
theorem defs34 (l : List Bs) (y : Bool) (h : Z41_q34 l = Sum.inr y) : y = false := by
  induction l with
  | nil => cases h
  | cons a r ih =>
    rw [Z41_q34] at h
    simp only [Ab.on] at h
    revert h
    cases (!Z20_q a) with
    | true => intro h; exact (Sum.inr.inj h).symm
    | false => exact ih
theorem def_right {t : TDef} (h : Z41_q t = some true) : ∀ x ∈ t.FInputs.l, x.FHas = true → Z24_q x.FDefault = some true := by
  have nil : t.FInputs.l = [] → ∀ x ∈ t.FInputs.l, x.FHas = true → Z24_q x.FDefault = some true := fun e x hx => by rw [e] at hx; cases hx
  have fin : ∀ c : Bool, (some (c && decide (((t.FInputs.l.length : Nat) : Int) = (0 : Int)))) = some true → t.FInputs.l = [] := fun c h => by
    simp at h; exact h.2
  unfold Z41_q at h
  simp only [Ab.on] at h
  rcases guardE h with ⟨_, x5, _, h⟩ | ⟨_, h⟩ <;> rcases condE h with ⟨_, h⟩ | ⟨_, h⟩
  all_goals first
    | (cases h; done)
    | (cases e : Z41_q34 t.FImplements.l with
       | inr y => rw [e] at h; have := defs34 _ _ e; subst this; cases h
       | inl _ =>
         rw [e] at h
         simp only at h
         rcases condE h with ⟨_, h⟩ | ⟨_, h⟩
         · obtain ⟨x15, _, h⟩ := bindO_some h
           exact nil (fin _ h)
         · rcases condE h with ⟨_, h⟩ | ⟨_, h⟩
           · rcases guardE h with ⟨_, x, _, h⟩ | ⟨_, h⟩ <;> exact nil (fin _ h)
           · rcases condE h with ⟨_, h⟩ | ⟨_, h⟩
             · rcases guardE h with ⟨_, x, _, h⟩ | ⟨_, h⟩ <;> exact nil (fin _ h)
             · rcases condE h with ⟨_, h⟩ | ⟨_, h⟩
               · rcases guardE h with ⟨_, x, _, h⟩ | ⟨_, h⟩ <;> exact nil (fin _ h)
               · rcases condE h with ⟨_, h⟩ | ⟨_, h⟩
                 · rcases guardE h with ⟨_, x, ex, h⟩ | ⟨_, h⟩
                   · simp at h; rw [h.2] at ex; exact inputsRight_w ex
                   · simp at h
                 · cases h)
theorem docs_right (l : List TDef) (z : Unit ⊕ Bool) (h : Z38_q10 l = some z) : (z = Sum.inl () ∧ ∀ x ∈ l, Z41_q x = some true) ∨ z = Sum.inr false := by
  induction l generalizing z with
  | nil => rw [Z38_q10] at h; exact .inl ⟨(Option.some.inj h).symm, fun a ha => by cases ha⟩
  | cons a r ih =>
    rw [Z38_q10] at h
    simp only [Ab.on] at h
    obtain ⟨x, g, h⟩ := bindO_some h
    cases x with
    | false => simp at h; exact .inr h.symm
    | true =>
      simp only [Bool.not_true, cond_false] at h
      rcases ih z h with ⟨h1, h2⟩ | h1
      · exact .inl ⟨h1, fun y hy => by rcases List.mem_cons.1 hy with rfl | hy; exact g; exact h2 y hy⟩
      · exact .inr h1
theorem doc_right {d : TDoc} (h : Z38_q d = some true) : ∀ x ∈ d.FDefs.l, Z41_q x = some true := by
  unfold Z38_q at h
  rcases condE h with ⟨_, h⟩ | ⟨_, h⟩
  · cases h
  · obtain ⟨z, g, h⟩ := bindO_some h
    rcases docs_right _ _ g with ⟨_, h1⟩ | rfl
    · exact h1
    · cases h
end Go.Proofs

namespace Go.Proofs
open Go Go.Ab
theorem all2_self {α : Type} {R S : α → α → Prop} {l : List α} (h : All2 R l l) (hi : ∀ x ∈ l, R x x → S x x) : All2 S l l :=
 All2.of_get rfl fun i x y h1 h2 => by
  rw [h1] at h2; simp only [Option.some.injEq] at h2; subst h2
  obtain ⟨y, h3, h4⟩ := h.get h1
  rw [h1] at h3; simp only [Option.some.injEq] at h3; subst h3
  exact hi x (List.mem_of_getElem? h1) h4
theorem Rl.small : ∀ (m n : Nat) {v : TValue}, Rl n v v → v.sz ≤ m → Rl m v v
 | 0, _, v, _, hm => by have := v.pos; omega
 | _ + 1, 0, _, h, _ => h.elim
 | m + 1, n + 1, v, ⟨a, b, c, d, e, f, g, i, k⟩, hm => ⟨a, b, c, d, e, f, g, i, all2_self k fun x hx h => Rl.small m n h (by have := TValue.item_lt hx; omega)⟩
def nB : Nat := 1048576
theorem literal_rl {v : TValue} (h : Z24_q v = some true) (hw : v.wf) (hs : v.sz ≤ 1048576) : Rl nB v v := Rl.small _ _ (whole_rl F0 v true (literal_is h) hw hs) hs
theorem right_rl {v : TValue} (h : Z25_q v = some true) (hw : v.wf) (hs : v.sz ≤ 1048576) : Rl nB v v := Rl.small _ _ (whole_rl F0 v false (right_is h) hw hs) hs
theorem sok_wraps {t : TRef} (hw : t.wf) (hs : t.sz ≤ 1048576) : SOk t.FWraps := ⟨hw.2.1.1, by have := TRef.wraps_le t; omega⟩
theorem inOk_of {x : TInput} (hl : x.FHas = true → Z24_q x.FDefault = some true) (hw : x.wf) (hs : x.sz ≤ 1048576) : InOk nB x := by
 have := x.sz_def
 exact ⟨sok_wraps hw.2.1 (by omega), fun h => literal_rl (hl h) hw.2.2.2.1 (by omega)⟩
theorem defOk_of {t : TDef} (hl : ∀ x ∈ t.FInputs.l, x.FHas = true → Z24_q x.FDefault = some true) (hw : t.wf) (hs : t.sz ≤ 1048576) : DefOk nB t := by
 have h1 := t.sz_def
 have h2 := Sl.len_le (f := TInput.sz) t.FInputs (fun x => x.pos)
 exact ⟨by omega, fun x hx => inOk_of (hl x hx) (hw.2.2.2.2.2.2.1.2.2 x hx) (by have := Sl.mem_le (f := TInput.sz) hx; omega)⟩
theorem doc_ok {d : TDoc} (h : Z38_q d = some true) (hw : d.wf) (hs : d.sz ≤ 1048576) : ∀ s, DefOk nB (fnd d.FDefs.l s).1 := by
 intro s
 rcases fnd_mem d.FDefs.l s with e | hm
 ·rw [e]; exact ⟨by show 0 ≤ _; omega, fun x hx => by cases hx⟩
 ·exact defOk_of (def_right (doc_right h _ hm)) (hw.1.2.2 _ hm) (by have := TDoc.def_le hm; omega)
end Go.Proofs

namespace Go.Proofs
open Go Go.Ab
def Gr (o : Option Int) (s : Int) (b : Nat) : Prop := ∃ r, o = some r ∧ s ≤ r ∧ r ≤ s + b
theorem Gr.refl (s : Int) (b : Nat) : Gr (some s) s b := ⟨s, rfl, by omega, by omega⟩
theorem Gr.bind {o : Option Int} {k : Int → Option Int} {s : Int} {a b c : Nat} (h : Gr o s a) (hc : a + b ≤ c) (hk : ∀ r, s ≤ r → r ≤ s + a → Gr (k r) r b) : Gr (o.bind k) s c := by
 obtain ⟨r, e, h1, h2⟩ := h
 obtain ⟨r2, e2, h3, h4⟩ := hk r h1 h2
 exact ⟨r2, by rw [e]; exact e2, by omega, by omega⟩
theorem Gr.add {x s : Int} {b : Nat} (hx : 0 ≤ x ∧ x ≤ b) (hs : 0 ≤ s ∧ s + b ≤ 1099511627776) : Gr (addC s x) s b := ⟨s + x, addC_ok (by omega), by omega, by omega⟩
theorem Gr.part {o : Option Int} {s : Int} {b : Nat} (h : Gr o 0 b) (hs : 0 ≤ s ∧ s + b ≤ 1099511627776) : Gr (o.bind fun x => addC s x) s b := by
 obtain ⟨r, e, h1, h2⟩ := h
 rw [e]; exact Gr.add (by omega) hs
theorem keys_w (a1 : Int) : ∀ (l : List Bs) (s : Int), 0 ≤ s → s + (l.map Bs.sz).sum ≤ 1073741824 → Gr (Z31_q23 a1 l s) s (l.map Bs.sz).sum
 | [], s, _, _ => Gr.refl _ _
 | a :: r, s, h0, h => by
  simp only [List.map_cons, List.sum_cons] at h ⊢
  rw [Z31_q23]
  cases decide (s ≤ a1) with
  | false => exact Gr.refl _ _
  | true =>
   simp only [cond_true, Ab.on]
   have hb : Bs.sz a = a.length + 1 := rfl
   refine Gr.bind (a := 1) (b := a.length + (r.map Bs.sz).sum) (Gr.add (by omega) (by omega)) (by omega) fun x h1 h2 => ?_
   refine Gr.bind (a := a.length) (b := (r.map Bs.sz).sum) (Gr.add (by omega) (by omega)) (by omega) fun y h3 h4 => ?_
   exact keys_w a1 r y (by omega) (by omega)
theorem value_w (a1 : Int) (n : Nat) : ∀ v : TValue, v.sz < n → v.sz ≤ 1048576 → Gr (Z31_qn n v a1) 0 v.sz := by
 induction n with
 | zero => intro v h; omega
 | succ n ih =>
  intro v hn hs
  have hd := v.sz_def
  have ht : Bs.sz v.FText = v.FText.length + 1 := rfl
  have hk : Sl.sz Bs.sz v.FKeys = 1 + (v.FKeys.l.map Bs.sz).sum := rfl
  have hi : Sl.sz TValue.sz v.FItems = 1 + (v.FItems.l.map TValue.sz).sum := rfl
  have hl : ∀ (l : List TValue) (s : Int), (∀ x ∈ l, x.sz < n ∧ x.sz ≤ 1048576) → 0 ≤ s → s + (l.map TValue.sz).sum ≤ 1073741824 → Gr (Z31_q11 a1 (Z31_qn n) l s) s (l.map TValue.sz).sum := by
   intro l
   induction l with
   | nil => intro s _ _ _; exact Gr.refl _ _
   | cons a r ihl =>
    intro s hx h0 h
    simp only [List.map_cons, List.sum_cons] at h ⊢
    rw [Z31_q11]
    cases decide (s ≤ a1) with
    | false => exact Gr.refl _ _
    | true =>
     simp only [cond_true, Ab.on]
     obtain ⟨w, e, h1, h2⟩ := ih a (hx a (by simp)).1 (hx a (by simp)).2
     rw [e, Option.bind_some]
     refine Gr.bind (a := a.sz) (b := (r.map TValue.sz).sum) (Gr.add (by omega) (by omega)) (by omega) fun y h3 h4 => ?_
     exact ihl y (fun x hx' => hx x (by simp [hx'])) (by omega) (by omega)
  rw [Z31_qn, addC_ok (by omega), Option.bind_some]
  simp only [Ab.on]
  obtain ⟨x, e1, x1, x2⟩ := keys_w a1 v.FKeys.l (1 + (v.FText.length : Int)) (by omega) (by omega)
  rw [e1, Option.bind_some]
  obtain ⟨y, e2, y1, y2⟩ := hl v.FItems.l x (fun z hz => by have := TValue.item_lt hz; omega) (by omega) (by omega)
  rw [e2]
  exact ⟨y, rfl, by omega, by omega⟩
theorem value_W (a1 : Int) (v : TValue) (h : v.sz ≤ 1048576) : Gr (Z31_q v a1) 0 v.sz := value_w a1 F0 v (by rw [F0_eq]; omega) h
end Go.Proofs

namespace Go.Proofs
open Go Go.Ab
theorem Gr.two {o : Option Int} {k : Int → Option Int} {s : Int} {a b c : Nat} (h : Gr o 0 a) (hs : 0 ≤ s ∧ s + a ≤ 1099511627776) (hc : a + b ≤ c) (hk : ∀ r, s ≤ r → r ≤ s + a → Gr (k r) r b) : Gr (o.bind fun x => (addC s x).bind k) s c := by
 obtain ⟨x, e, h1, h2⟩ := h
 rw [e, Option.bind_some]
 exact Gr.bind (a := a) (b := b) (Gr.add (by omega) hs) hc hk
theorem args_w (a1 : Int) (h7 : TDir) : ∀ (l : List TArg) (s : Int), (∀ x ∈ l, x.sz ≤ 1048576) → 0 ≤ s → s + (l.map TArg.sz).sum ≤ 1073741824 → Gr (Z47_q19 a1 h7 l s) s (l.map TArg.sz).sum
 | [], s, _, _, _ => Gr.refl _ _
 | a :: r, s, hx, h0, h => by
  simp only [List.map_cons, List.sum_cons] at h ⊢
  have hd := a.sz_def
  have hp := Bs.sz_pos a.FName
  have hxa := hx a (by simp)
  rw [Z47_q19]
  cases decide (s ≤ a1) with
  | false => exact Gr.refl _ _
  | true =>
   simp only [cond_true, Ab.on]
   refine Gr.bind (a := 1) (b := a.FValue.sz + (r.map TArg.sz).sum) (Gr.add (by omega) (by omega)) (by omega) fun x h1 h2 => ?_
   exact Gr.two (b := (r.map TArg.sz).sum) (value_W a1 a.FValue (by omega)) (by omega) (by omega) fun y h3 h4 => args_w a1 h7 r y (fun z hz => hx z (by simp [hz])) (by omega) (by omega)
theorem dirs_loop_w (a1 : Int) : ∀ (l : List TDir) (s : Int), (∀ x ∈ l, x.sz ≤ 1048576) → 0 ≤ s → s + (l.map TDir.sz).sum ≤ 1073741824 → Gr (Z47_q7 a1 l s) s (l.map TDir.sz).sum
 | [], s, _, _, _ => Gr.refl _ _
 | a :: r, s, hx, h0, h => by
  simp only [List.map_cons, List.sum_cons] at h ⊢
  have hd := a.sz_def
  have hp := Bs.sz_pos a.FName
  have hi : Sl.sz TArg.sz a.FArgs = 1 + (a.FArgs.l.map TArg.sz).sum := rfl
  have hxa := hx a (by simp)
  rw [Z47_q7]
  cases decide (s ≤ a1) with
  | false => exact Gr.refl _ _
  | true =>
   simp only [cond_true, Ab.on]
   refine Gr.bind (a := 1) (b := (a.FArgs.l.map TArg.sz).sum + (r.map TDir.sz).sum) (Gr.add (by omega) (by omega)) (by omega) fun x h1 h2 => ?_
   exact Gr.bind (b := (r.map TDir.sz).sum) (args_w a1 a a.FArgs.l x (fun z hz => by have := TDir.arg_le hz; omega) (by omega) (by omega)) (by omega) fun y h3 h4 => dirs_loop_w a1 r y (fun z hz => hx z (by simp [hz])) (by omega) (by omega)
theorem dirs_w (a1 : Int) (s : Sl TDir) (h : Sl.sz TDir.sz s ≤ 1048576) : Gr (Z47_q s a1) 0 (Sl.sz TDir.sz s) := by
 have hi : Sl.sz TDir.sz s = 1 + (s.l.map TDir.sz).sum := rfl
 obtain ⟨r, e, h1, h2⟩ := dirs_loop_w a1 s.l 0 (fun x hx => by have := Sl.mem_le (f := TDir.sz) hx; omega) (by omega) (by omega)
 unfold Z47_q; rw [e]; exact ⟨r, rfl, h1, by omega⟩
theorem inputs_loop_w (a1 : Int) : ∀ (l : List TInput) (s : Int), (∀ x ∈ l, x.sz ≤ 1048576) → 0 ≤ s → s + (l.map TInput.sz).sum ≤ 1073741824 → Gr (Z48_q7 a1 l s) s (l.map TInput.sz).sum
 | [], s, _, _, _ => Gr.refl _ _
 | a :: r, s, hx, h0, h => by
  simp only [List.map_cons, List.sum_cons] at h ⊢
  have hd := a.sz_def
  have hp := Bs.sz_pos a.FName
  have hw := TRef.wraps_le a.FType
  have hxa := hx a (by simp)
  rw [Z48_q7]
  cases decide (s ≤ a1) with
  | false => exact Gr.refl _ _
  | true =>
   simp only [cond_true, Ab.on]
   refine Gr.bind (a := 1) (b := a.FType.FWraps.l.length + a.FDefault.sz + Sl.sz TDir.sz a.FDirs + (r.map TInput.sz).sum) (Gr.add (by omega) (by omega)) (by omega) fun x h1 h2 => ?_
   refine Gr.bind (a := a.FType.FWraps.l.length) (b := a.FDefault.sz + Sl.sz TDir.sz a.FDirs + (r.map TInput.sz).sum) (Gr.add (by omega) (by omega)) (by omega) fun y h3 h4 => ?_
   refine Gr.two (b := Sl.sz TDir.sz a.FDirs + (r.map TInput.sz).sum) (value_W a1 a.FDefault (by omega)) (by omega) (by omega) fun z h5 h6 => ?_
   exact Gr.two (b := (r.map TInput.sz).sum) (dirs_w a1 a.FDirs (by omega)) (by omega) (by omega) fun q h7 h8 => inputs_loop_w a1 r q (fun z hz => hx z (by simp [hz])) (by omega) (by omega)
theorem inputs_w (a1 : Int) (s : Sl TInput) (h : Sl.sz TInput.sz s ≤ 1048576) : Gr (Z48_q s a1) 0 (Sl.sz TInput.sz s) := by
 have hi : Sl.sz TInput.sz s = 1 + (s.l.map TInput.sz).sum := rfl
 obtain ⟨r, e, h1, h2⟩ := inputs_loop_w a1 s.l 0 (fun x hx => by have := Sl.mem_le (f := TInput.sz) hx; omega) (by omega) (by omega)
 unfold Z48_q; rw [e]; exact ⟨r, rfl, h1, by omega⟩
theorem fields_w (a1 : Int) : ∀ (l : List TField) (s : Int), (∀ x ∈ l, x.sz ≤ 1048576) → 0 ≤ s → s + (l.map TField.sz).sum ≤ 1073741824 → Gr (Z39_q41 a1 l s) s (l.map TField.sz).sum
 | [], s, _, _, _ => Gr.refl _ _
 | a :: r, s, hx, h0, h => by
  simp only [List.map_cons, List.sum_cons] at h ⊢
  have hd := a.sz_def
  have hp := Bs.sz_pos a.FName
  have hw := TRef.wraps_le a.FType
  have hxa := hx a (by simp)
  rw [Z39_q41]
  cases decide (s ≤ a1) with
  | false => exact Gr.refl _ _
  | true =>
   simp only [cond_true, Ab.on]
   refine Gr.bind (a := 1) (b := a.FType.FWraps.l.length + Sl.sz TInput.sz a.FArgs + Sl.sz TDir.sz a.FDirs + (r.map TField.sz).sum) (Gr.add (by omega) (by omega)) (by omega) fun x h1 h2 => ?_
   refine Gr.bind (a := a.FType.FWraps.l.length) (b := Sl.sz TInput.sz a.FArgs + Sl.sz TDir.sz a.FDirs + (r.map TField.sz).sum) (Gr.add (by omega) (by omega)) (by omega) fun y h3 h4 => ?_
   refine Gr.two (b := Sl.sz TDir.sz a.FDirs + (r.map TField.sz).sum) (inputs_w a1 a.FArgs (by omega)) (by omega) (by omega) fun z h5 h6 => ?_
   exact Gr.two (b := (r.map TField.sz).sum) (dirs_w a1 a.FDirs (by omega)) (by omega) (by omega) fun q h7 h8 => fields_w a1 r q (fun z hz => hx z (by simp [hz])) (by omega) (by omega)
theorem members_w (a1 : Int) : ∀ (l : List TMember) (s : Int), (∀ x ∈ l, x.sz ≤ 1048576) → 0 ≤ s → s + (l.map TMember.sz).sum ≤ 1073741824 → Gr (Z39_q28 a1 l s) s (l.map TMember.sz).sum
 | [], s, _, _, _ => Gr.refl _ _
 | a :: r, s, hx, h0, h => by
  simp only [List.map_cons, List.sum_cons] at h ⊢
  have hd := a.sz_def
  have hp := Bs.sz_pos a.FName
  have hxa := hx a (by simp)
  rw [Z39_q28]
  cases decide (s ≤ a1) with
  | false => exact Gr.refl _ _
  | true =>
   simp only [cond_true, Ab.on]
   refine Gr.bind (a := 1) (b := Sl.sz TDir.sz a.FDirs + (r.map TMember.sz).sum) (Gr.add (by omega) (by omega)) (by omega) fun x h1 h2 => ?_
   exact Gr.two (b := (r.map TMember.sz).sum) (dirs_w a1 a.FDirs (by omega)) (by omega) (by omega) fun q h7 h8 => members_w a1 r q (fun z hz => hx z (by simp [hz])) (by omega) (by omega)
theorem defs_w (a1 : Int) : ∀ (l : List TDef) (s : Int), (∀ x ∈ l, x.sz ≤ 1048576) → 0 ≤ s → s + (l.map TDef.sz).sum ≤ 1073741824 → Gr (Z39_q8 a1 l s) s (l.map TDef.sz).sum
 | [], s, _, _, _ => Gr.refl _ _
 | a :: r, s, hx, h0, h => by
  simp only [List.map_cons, List.sum_cons] at h ⊢
  have hd := a.sz_def
  have hp := Bs.sz_pos a.FName
  have h1 := Sl.len_le (f := Bs.sz) a.FImplements (fun x => Bs.sz_pos x)
  have hf : Sl.sz TField.sz a.FFields = 1 + (a.FFields.l.map TField.sz).sum := rfl
  have hm : Sl.sz TMember.sz a.FMembers = 1 + (a.FMembers.l.map TMember.sz).sum := rfl
  have hxa := hx a (by simp)
  rw [Z39_q8]
  cases decide (s ≤ a1) with
  | false => exact Gr.refl _ _
  | true =>
   simp only [cond_true, Ab.on]
   refine Gr.bind (a := a.FImplements.l.length) (b := Sl.sz TDir.sz a.FDirs + Sl.sz TInput.sz a.FInputs + (a.FFields.l.map TField.sz).sum + (a.FMembers.l.map TMember.sz).sum + (r.map TDef.sz).sum) (Gr.add (by omega) (by omega)) (by omega) fun x h1 h2 => ?_
   refine Gr.two (b := Sl.sz TInput.sz a.FInputs + (a.FFields.l.map TField.sz).sum + (a.FMembers.l.map TMember.sz).sum + (r.map TDef.sz).sum) (dirs_w a1 a.FDirs (by omega)) (by omega) (by omega) fun y h3 h4 => ?_
   refine Gr.two (b := (a.FFields.l.map TField.sz).sum + (a.FMembers.l.map TMember.sz).sum + (r.map TDef.sz).sum) (inputs_w a1 a.FInputs (by omega)) (by omega) (by omega) fun z h5 h6 => ?_
   refine Gr.bind (b := (a.FMembers.l.map TMember.sz).sum + (r.map TDef.sz).sum) (fields_w a1 a.FFields.l z (fun x hx => by have := Sl.mem_le (f := TField.sz) hx; omega) (by omega) (by omega)) (by omega) fun p h7 h8 => ?_
   exact Gr.bind (b := (r.map TDef.sz).sum) (members_w a1 a.FMembers.l p (fun x hx => by have := Sl.mem_le (f := TMember.sz) hx; omega) (by omega) (by omega)) (by omega) fun q h9 h10 => defs_w a1 r q (fun z hz => hx z (by simp [hz])) (by omega) (by omega)
theorem doc_W (a1 : Int) (d : TDoc) (h : d.sz ≤ 1048576) : ∃ r, Z39_q d a1 = some r := by
 have hd := d.sz_def
 have hi : Sl.sz TDef.sz d.FDefs = 1 + (d.FDefs.l.map TDef.sz).sum := rfl
 have hl := Sl.len_le (f := TDef.sz) d.FDefs (fun x => x.pos)
 obtain ⟨r, e, h1, h2⟩ := defs_w a1 d.FDefs.l (d.FDefs.l.length : Int) (fun x hx => by have := TDoc.def_le hx; omega) (by omega) (by omega)
 unfold Z39_q; rw [e]; exact ⟨r, rfl⟩
end Go.Proofs

namespace Go.Proofs
open Go Go.Ab
set_option maxRecDepth 100000 in
theorem example12 : Z17 = some true := by kernel_rfl
theorem gT {α β : Type} (o : Option α) (d : α) (k : α → Option β) : guardO true o d k = o.bind k := rfl
theorem gF {α β : Type} (o : Option α) (d : α) (k : α → Option β) : guardO false o d k = k d := rfl
theorem Z25_ok (v : TValue) (h : v.sz ≤ 1048576) : Ok (Z25_q v) := by
 unfold Z25_q
 obtain ⟨r, hr, _⟩ := Z26_ok v h
 (repeat' (first | exact Tot.some _ | assumption | (with_reducible refine Tot.bind ?_ fun _ _ => ?_) | (with_reducible refine Tot.guard (fun _ => ?_) fun _ _ _ => ?_) | (with_reducible refine Tot.cond (fun _ => ?_) fun _ => ?_) | (with_reducible refine Tot.on fun _ _ => ?_) | split))
 ·exact ⟨r, hr⟩
 ·exact Z23_ok v h
 ·exact Z29_tot F0 v false (by rw [F0_eq]; omega)
theorem right_spec (c : Supergraphlaw12_Case) (lit : Bool) (hs : c.sz ≤ 1048576) : ∃ b, Z19_q c lit = some b ∧
  (b = true → Z38_q c.FD = some true ∧ Z25_q c.FVars = some true ∧ (lit = true → Z24_q c.FV = some true) ∧ (lit = false → Z25_q c.FV = some true)) := by
 have hz := c.sz_def
 have hw := c.FT.wraps_le
 obtain ⟨w1, e1⟩ := doc_W 600 c.FD (by omega)
 obtain ⟨w2, e2, _⟩ := value_W 900 c.FV (by omega)
 obtain ⟨w3, e3, _⟩ := value_W 900 c.FVars (by omega)
 obtain ⟨b1, e4⟩ := Z38_ok c.FD (by omega)
 obtain ⟨b2, e5⟩ := Z36_ok c.FT (by omega)
 obtain ⟨b3, e6⟩ := Z25_ok c.FVars (by omega)
 obtain ⟨b4, e7⟩ := Z24_ok c.FV (by omega)
 obtain ⟨b5, e8⟩ := Z25_ok c.FV (by omega)
 have main : ∃ b, Z19_q c lit = some b ∧ (b = true → b1 = true ∧ b3 = true ∧ (lit = true → b4 = true) ∧ (lit = false → b5 = true)) := by
  have no : ∀ Φ : Prop, ∃ b, some false = some b ∧ (b = true → Φ) := fun _ => ⟨false, rfl, fun h => by cases h⟩
  unfold Z19_q
  rw [e1, Option.bind_some]
  cases decide ((600 : Int) < w1) with
  | true => exact no _
  | false =>
   simp only [Bool.not_false, gT, Bool.false_or, e2, Option.bind_some]
   cases decide ((900 : Int) < w2) with
   | true => exact no _
   | false =>
    simp only [Bool.not_false, gT, Bool.false_or, e3, Option.bind_some]
    cases decide ((900 : Int) < w3) with
    | true => exact no _
    | false =>
     simp only [Bool.not_false, gT, Bool.false_or, e4, Option.bind_some]
     cases b1 with
     | false => exact no _
     | true =>
      simp only [Bool.not_true, Bool.not_false, gT, Bool.false_or, e5, Option.bind_some]
      cases b2 with
      | false => exact no _
      | true =>
       simp only [Bool.not_true, Bool.not_false, gT, Bool.false_or, e6, Option.bind_some]
       cases b3 with
       | false => exact no _
       | true =>
        cases lit with
        | false =>
         simp only [Bool.not_true, Bool.not_false, gF, gT, Bool.false_and, Bool.true_and, cond_false, Bool.false_or, e8, Option.bind_some]
         exact ⟨b5, rfl, fun h => ⟨by trivial, by trivial, fun h => by simp at h, fun _ => h⟩⟩
        | true =>
         simp only [Bool.not_true, gF, gT, Bool.true_and, Bool.and_false, Bool.false_and, cond_false, Bool.or_false, e7, Option.bind_some]
         exact ⟨b4, rfl, fun h => ⟨by trivial, by trivial, fun _ => h, fun h => by simp at h⟩⟩
 obtain ⟨b, m1, m2⟩ := main
 refine ⟨b, m1, fun h => ?_⟩
 obtain ⟨n1, n2, n3, n4⟩ := m2 h
 exact ⟨by rw [e4, n1], by rw [e6, n2], fun h => by rw [e7, n3 h], fun h => by rw [e8, n4 h]⟩
theorem nB_le : nB + 1 ≤ 1099511627000 := by unfold nB; omega
theorem drop_cons_facts {α : Type} {L : List α} {i : Nat} {h : α} {r : List α} (hd : L.drop i = h :: r) : L[i]? = some h ∧ L.drop (i + 1) = r ∧ L.take (i + 1) = L.take i ++ [h] := by
 have hil : i < L.length := by
  rcases Nat.lt_or_ge i L.length with c | c
  ·exact c
  ·rw [List.drop_of_length_le c] at hd; cases hd
 have hcons := List.drop_eq_getElem_cons hil
 rw [hd] at hcons
 simp only [List.cons.injEq] at hcons
 have hg : L[i]? = some h := by rw [List.getElem?_eq_getElem hil, ← hcons.1]
 exact ⟨hg, hcons.2.symm, by rw [List.take_add_one, hg]; rfl⟩
end Go.Proofs

namespace Go.Proofs
open Go Go.Ab
theorem get_zv (s : Bs) : Z70_q zv s = some (zv, false) := by
  obtain ⟨x, y, b, e1, _, h⟩ := get_rl (n := 0) (v := zv) (w := zv) zv_rl (by omega) s
  rcases h with ⟨_, h⟩ | ⟨rfl, rfl, _⟩
  · exact h.elim
  · exact e1
theorem count_is {d : TDoc} {va : TValue} {li : Bool} {n lvl : Int} {c' : Coerce_coercer} (h : Z7_q ⟨d, va, li, n⟩ lvl = some (0, c')) : lvl ≤ 24 ∧ n + 1 ≤ 4096 ∧ c' = ⟨d, va, li, n + 1⟩ := by
  unfold Z7_q at h
  simp only [Ab.on] at h
  by_cases h1 : (24 : Int) < lvl
  · rw [decide_eq_true h1, cond_true] at h
    simp only [Option.some.injEq, Prod.mk.injEq] at h
    exact absurd h.1 (by decide)
  · rw [decide_eq_false h1, cond_false] at h
    obtain ⟨x, e, h⟩ := bindO_some h
    have hx : x = n + 1 := by
      unfold addC at e
      split at e
      · exact (Option.some.inj e).symm
      · cases e
    subst hx
    by_cases h2 : (4096 : Int) < n + 1
    · rw [decide_eq_true h2, cond_true] at h
      simp only [Option.some.injEq, Prod.mk.injEq] at h
      exact absurd h.1 (by decide)
    · rw [decide_eq_false h2, cond_false] at h
      simp only [Option.some.injEq, Prod.mk.injEq] at h
      exact ⟨by omega, by omega, h.2.symm⟩
inductive NmL (P : TValue → Int → Int → Prop) : List TValue → Int → Int → Prop where
  | nil {n : Int} : NmL P [] n n
  | cons {v : TValue} {l : List TValue} {n m k : Int} (h : P v n m) (hs : NmL P l m k) : NmL P (v :: l) n k
inductive NmO (P : TRef → TValue → Int → Int → Prop) : List TInput → List TInput → List Bs → List TValue → Int → Int → Prop where
  | nil {p : List TInput} {n : Int} : NmO P p [] [] [] n n
  | twice {p r : List TInput} {x : TInput} {ks : List Bs} {vs : List TValue} {n m : Int} (h : (fndI p x.FName).2 = true) (hs : NmO P (p ++ [x]) r ks vs n m) : NmO P p (x :: r) ks vs n m
  | incl {p r : List TInput} {x : TInput} {v : TValue} {ks : List Bs} {vs : List TValue} {n m k : Int} (h : (fndI p x.FName).2 = false) (hv : P x.FType v n m) (hs : NmO P (p ++ [x]) r ks vs m k) : NmO P p (x :: r) (x.FName :: ks) (v :: vs) n k
  | excl {p r : List TInput} {x : TInput} {ks : List Bs} {vs : List TValue} {n m : Int} (h : (fndI p x.FName).2 = false) (hh : x.FHas = false) (hn : nnW x.FType.FWraps.l = false) (hs : NmO P (p ++ [x]) r ks vs n m) : NmO P p (x :: r) ks vs n m
theorem NmL.imp {P Q : TValue → Int → Int → Prop} (h : ∀ v n m, P v n m → Q v n m) {l : List TValue} {n m : Int} (hl : NmL P l n m) : NmL Q l n m := by
  induction hl with
  | nil => exact .nil
  | cons a _ ih => exact .cons (h _ _ _ a) ih
theorem NmO.imp {P Q : TRef → TValue → Int → Int → Prop} (h : ∀ t v n m, P t v n m → Q t v n m) {p r : List TInput} {ks : List Bs} {vs : List TValue} {n m : Int} (hl : NmO P p r ks vs n m) : NmO Q p r ks vs n m := by
  induction hl with
  | nil => exact .nil
  | twice a _ ih => exact .twice a ih
  | incl a b _ ih => exact .incl a (h _ _ _ _ b) ih
  | excl a b c _ ih => exact .excl a b c ih
def objB (d : TDoc) (s : Bs) : Bool := ((Z49_q d s).2 && (!(bif (Z49_q d s).2 then Z53_q s else false))) && (decide ((Z49_q d s).1.FKind = (5 : Int)))
def leafB (d : TDoc) (s : Bs) (v : TValue) : Bool :=
  bif (s == ([73, 110, 116] : Bs)) then (((decide (v.FKind = (2 : Int))) && (decide ((-2147483648 : Int) ≤ v.FInt))) && (decide (v.FInt < (2147483648 : Int))))
  else bif (s == ([83, 116, 114, 105, 110, 103] : Bs)) then decide (v.FKind = (3 : Int))
  else bif (s == ([66, 111, 111, 108, 101, 97, 110] : Bs)) then decide (v.FKind = (1 : Int))
  else bif (s == ([73, 68] : Bs)) then decide (v.FKind = (3 : Int))
  else (decide (v.FKind = (4 : Int)) && (fnd d.FDefs.l s).1.FMembers.l.any fun m => m.FName == v.FText)
def Nm (d : TDoc) : Nat → TRef → TValue → Int → Int → Int → Prop
  | 0, _, _, _, _, _ => False
  | k + 1, t, w, lvl, n, m => Z51_q d t.FName = true ∧ lvl ≤ 24 ∧ n + 1 ≤ 4096 ∧
    ((nnW t.FWraps.l = false ∧ w = zv ∧ m = n + 1) ∨
     (liW (barS t.FWraps).l = true ∧ w.FKind = 5 ∧ w.FInt = 0 ∧ w.FText = [] ∧ w.FKeys.l = [] ∧ NmL (fun v a b => Nm d k (innerT t) v (lvl + 1) a b) w.FItems.l (n + 1) m) ∨
     (liW (barS t.FWraps).l = false ∧ objB d t.FName = false ∧ leafB d t.FName w = true ∧ m = n + 1) ∨
     (liW (barS t.FWraps).l = false ∧ objB d t.FName = true ∧ w.FKind = 6 ∧ w.FInt = 0 ∧ w.FText = [] ∧ NmO (fun u v a b => Nm d k u v (lvl + 1) a b) [] (fnd d.FDefs.l t.FName).1.FInputs.l w.FKeys.l w.FItems.l (n + 1) m))
theorem Nm.mono {d : TDoc} : ∀ {k j : Nat} {t : TRef} {w : TValue} {lvl n m : Int}, k ≤ j → Nm d k t w lvl n m → Nm d j t w lvl n m
  | 0, _, _, _, _, _, _, _, h => h.elim
  | k + 1, 0, _, _, _, _, _, hk, _ => by omega
  | k + 1, j + 1, _, _, _, _, _, hk, ⟨a, b, c, h⟩ => by
    refine ⟨a, b, c, ?_⟩
    rcases h with h | ⟨h1, h2, h3, h4, h5, h6⟩ | h | ⟨h1, h2, h3, h4, h5, h6⟩
    · exact .inl h
    · exact .inr (.inl ⟨h1, h2, h3, h4, h5, h6.imp fun _ _ _ h => Nm.mono (by omega) h⟩)
    · exact .inr (.inr (.inl h))
    · exact .inr (.inr (.inr ⟨h1, h2, h3, h4, h5, h6.imp fun _ _ _ _ h => Nm.mono (by omega) h⟩))
theorem kj_is {b : Bool} {y w : TValue} (h : (bif (!b) then (some ((TValue.mk (0 : Int) (0 : Int) ([] : Bs) true ([]) (Sl.nil : Sl Bs)), (23 : Int))) else (some (y, (0 : Int)))) = some (w, 0)) : b = true ∧ y = w := by
  cases b with
  | true => exact ⟨rfl, by simpa using h⟩
  | false =>
    rw [Bool.not_false, cond_true] at h
    simp only [Option.some.injEq, Prod.mk.injEq] at h
    exact absurd h.2 (by decide)
theorem leaf_is {d : TDoc} {va : TValue} {li : Bool} {c : Int} {s : Bs} {v w : TValue} (h : Z8_q ⟨d, va, li, c⟩ s v = some (w, 0)) : leafB d s w = true := by
  unfold Z8_q Z9_q at h
  unfold leafB
  simp only [Ab.on, find_eq, contains_eq] at h
  cases e1 : s == ([73, 110, 116] : Bs) with
  | true => rw [e1, cond_true] at h; obtain ⟨h1, rfl⟩ := kj_is h; exact h1
  | false =>
    rw [e1, cond_false] at h
    rw [cond_false]
    cases e2 : s == ([83, 116, 114, 105, 110, 103] : Bs) with
    | true => rw [e2, cond_true] at h; obtain ⟨h1, rfl⟩ := kj_is h; exact h1
    | false =>
      rw [e2, cond_false] at h
      rw [cond_false]
      cases e3 : s == ([66, 111, 111, 108, 101, 97, 110] : Bs) with
      | true => rw [e3, cond_true] at h; obtain ⟨h1, rfl⟩ := kj_is h; exact h1
      | false =>
        rw [e3, cond_false] at h
        rw [cond_false]
        cases e4 : s == ([73, 68] : Bs) with
        | true =>
          rw [e4, cond_true] at h
          obtain ⟨y, _, h⟩ := bindO_some h
          obtain ⟨h1, rfl⟩ := kj_is h; exact h1
        | false =>
          rw [e4, cond_false] at h
          rw [cond_false]
          obtain ⟨h1, h2⟩ := kj_is h
          subst h2
          cases hk : decide ((bif (decide (v.FKind = (3 : Int))) && (!li) then ((TValue.mk (4 : Int) v.FInt v.FText v.FItems.nl v.FItems.l v.FKeys)) else (v)).FKind = (4 : Int)) with
          | false => rw [hk] at h1; cases h1
          | true => rw [hk] at h1; exact h1
theorem leaf_again {d : TDoc} {va : TValue} {c : Int} {s : Bs} {v w : TValue} (h : leafB d s w = true) (hk : v.FKind = w.FKind) (hi : v.FInt = w.FInt) (ht : v.FText = w.FText) : Z8_q ⟨d, va, false, c⟩ s v = some (v, 0) := by
  unfold Z8_q Z9_q
  unfold leafB at h
  rw [← hk, ← hi, ← ht] at h
  simp only [Ab.on, find_eq, contains_eq]
  cases e1 : s == ([73, 110, 116] : Bs) with
  | true => rw [e1, cond_true] at h; rw [cond_true, h]; rfl
  | false =>
    rw [e1, cond_false] at h
    rw [cond_false]
    cases e2 : s == ([83, 116, 114, 105, 110, 103] : Bs) with
    | true => rw [e2, cond_true] at h; rw [cond_true, h]; rfl
    | false =>
      rw [e2, cond_false] at h
      rw [cond_false]
      cases e3 : s == ([66, 111, 111, 108, 101, 97, 110] : Bs) with
      | true => rw [e3, cond_true] at h; rw [cond_true, h]; rfl
      | false =>
        rw [e3, cond_false] at h
        rw [cond_false]
        cases e4 : s == ([73, 68] : Bs) with
        | true =>
          rw [e4, cond_true] at h
          have h3 : v.FKind = 3 := of_decide_eq_true h
          rw [cond_true, h3]; simp [h3]
        | false =>
          rw [e4, cond_false, Bool.and_eq_true] at h
          have h4 : v.FKind = 4 := of_decide_eq_true h.1
          rw [cond_false, h4]
          simp only [show decide ((4 : Int) = 3) = false from rfl, Bool.false_and, cond_false, h4, decide_true, cond_true, Bool.true_and]
          rw [h.2]; rfl
theorem leaf_kind {d : TDoc} {s : Bs} {w : TValue} (h : leafB d s w = true) : w.FKind ≠ 0 ∧ w.FKind ≠ 5 ∧ w.FKind ≠ 6 := by
  unfold leafB at h
  cases e1 : s == ([73, 110, 116] : Bs) with
  | true => rw [e1, cond_true] at h; simp at h; omega
  | false =>
    rw [e1, cond_false] at h
    cases e2 : s == ([83, 116, 114, 105, 110, 103] : Bs) with
    | true => rw [e2, cond_true] at h; have := of_decide_eq_true h; omega
    | false =>
      rw [e2, cond_false] at h
      cases e3 : s == ([66, 111, 111, 108, 101, 97, 110] : Bs) with
      | true => rw [e3, cond_true] at h; have := of_decide_eq_true h; omega
      | false =>
        rw [e3, cond_false] at h
        cases e4 : s == ([73, 68] : Bs) with
        | true => rw [e4, cond_true] at h; have := of_decide_eq_true h; omega
        | false => rw [e4, cond_false, Bool.and_eq_true] at h; have := of_decide_eq_true h.1; omega
end Go.Proofs

namespace Go.Proofs
open Go Go.Ab
def AtNm (d : TDoc) (n : Nat) : Prop := ∀ (li : Bool) (c : Int) (t : TRef) (v w : TValue) (lvl : Int) (c' : Coerce_coercer), SOk t.FWraps → coerce_coercer_at_qn n ⟨d, zv, li, c⟩ t v lvl = some (w, 0, c') → ∃ m, c' = ⟨d, zv, li, m⟩ ∧ Nm d n t w lvl c m
theorem addC_is {a b x : Int} (h : addC a b = some x) : x = a + b := by
 unfold addC at h
 split at h
 ·exact (Option.some.inj h).symm
 ·cases h
theorem appC_is {α : Type} {z : Nat} {s r x : Sl α} (h : appC z s r = some x) : x = ⟨s.nl && r.l.isEmpty, s.l ++ r.l⟩ := by
 unfold appC at h
 split at h
 ·exact (Option.some.inj h).symm
 ·cases h
theorem list_nm_loop {d : TDoc} {n : Nat} (hat : AtNm d n) {t : TRef} (ht : SOk t.FWraps) {li : Bool} {lvl : Int} : ∀ (l : List TValue) (c : Int) (x : TValue) (z : (Coerce_coercer × TValue) ⊕ (TValue × Int × Coerce_coercer)),
  coerce_coercer_list_q14 t lvl (coerce_coercer_at_qn n) l ⟨d, zv, li, c⟩ x = some z →
  (∃ e, z = Sum.inr e ∧ e.2.1 ≠ 0) ∨ (∃ m b l', z = Sum.inl (⟨d, zv, li, m⟩, TValue.mk x.FKind x.FInt x.FText b l' x.FKeys) ∧ ∃ ws, l' = x.FItems.l ++ ws ∧ NmL (fun v a b => Nm d n t v (lvl + 1) a b) ws c m) := by
 intro l
 induction l with
 | nil =>
  intro c x z h
  rw [coerce_coercer_list_q14] at h
  refine .inr ⟨c, x.FItems.nl, x.FItems.l, ?_, [], by simp, .nil⟩
  rw [← Option.some.inj h]
  cases x; rfl
 | cons a r ih =>
  intro c x z h
  rw [coerce_coercer_list_q14] at h
  simp only [Ab.on] at h
  obtain ⟨lv, e1, h⟩ := bindO_some h
  obtain rfl := addC_is e1
  obtain ⟨y, e2, h⟩ := bindO_some h
  by_cases h0 : y.2.1 = 0
  ·rw [decide_eq_true h0, Bool.not_true, cond_false] at h
   obtain ⟨s, e3, h⟩ := bindO_some h
   have e2' : coerce_coercer_at_qn n ⟨d, zv, li, c⟩ t a (lvl + 1) = some (y.1, 0, y.2.2) := by rw [e2, ← h0]
   obtain ⟨m, e4, e5⟩ := hat li c t a y.1 (lvl + 1) y.2.2 ht e2'
   rw [e4] at h
   obtain rfl := appC_is e3
   rcases ih m _ z h with h1 | ⟨m2, b, l', q1, ws, q2, q3⟩
   ·exact .inl h1
   ·refine .inr ⟨m2, b, l', q1, y.1 :: ws, ?_, .cons e5 q3⟩
    rw [q2]
    show (x.FItems.l ++ [y.1]) ++ ws = _
    simp
  ·rw [decide_eq_false h0, Bool.not_false, cond_true] at h
   exact .inl ⟨_, (Option.some.inj h).symm, h0⟩
theorem list_nm {d : TDoc} {n : Nat} (hat : ∀ k, k < n → AtNm d k) {t : TRef} (ht : SOk t.FWraps) {li : Bool} {c lvl : Int} {v w : TValue} {c' : Coerce_coercer} (h : coerce_coercer_list_qn n ⟨d, zv, li, c⟩ t v lvl = some (w, 0, c')) :
  ∃ m, c' = ⟨d, zv, li, m⟩ ∧ w.FKind = 5 ∧ w.FInt = 0 ∧ w.FText = [] ∧ w.FKeys.l = [] ∧ NmL (fun v a b => Nm d n t v (lvl + 1) a b) w.FItems.l c m := by
 cases n with
 | zero => cases h
 | succ n =>
  rw [coerce_coercer_list_qn] at h
  simp only [Ab.on] at h
  obtain ⟨z, e1, h⟩ := bindO_some h
  rcases list_nm_loop (hat n (by omega)) ht _ c _ z e1 with ⟨e, rfl, h1⟩ | ⟨m, b, l', rfl, ws, q2, q3⟩
  ·simp only [Option.some.injEq] at h
   rw [h] at h1
   exact absurd rfl h1
  ·simp only [Option.some.injEq, Prod.mk.injEq] at h
   obtain ⟨rfl, _, rfl⟩ := h
   have q2' : l' = ws := by rw [q2]; rfl
   subst q2'
   exact ⟨m, rfl, rfl, rfl, rfl, rfl, q3.imp fun _ _ _ h => h.mono (by omega)⟩
theorem fndI_any (l : List TInput) (s : Bs) : (fndI l s).2 = l.any fun y => y.FName == s := by
 unfold fndI
 cases h : l.find? (fun t => t.FName == s) with
 | none => rw [List.find?_eq_none] at h; exact (List.any_eq_false.2 h).symm
 | some t => exact (List.any_eq_true.2 ⟨t, List.mem_of_find?_eq_some h, by simpa using List.find?_some h⟩).symm
theorem obj_nm_loop {d : TDoc} {n : Nat} (hat : ∀ k, k ≤ n → AtNm d k) {t : TDef} {N : Nat} (hD : DefOk N t) {li : Bool} {lvl : Int} {v : TValue} : ∀ (l : List TInput) (i : Nat) (c : Int) (x : TValue) (z : (Coerce_coercer × TValue) ⊕ (TValue × Int × Coerce_coercer)),
  t.FInputs.l.drop i = l → coerce_coercer_object_q18 t v lvl (coerce_coercer_at_qn n) (Z11_qn n) l i ⟨d, zv, li, c⟩ x = some z →
  (∃ e, z = Sum.inr e ∧ e.2.1 ≠ 0) ∨ (∃ m y, z = Sum.inl (⟨d, zv, li, m⟩, y) ∧ y.FKind = x.FKind ∧ y.FInt = x.FInt ∧ y.FText = x.FText ∧ ∃ ks vs, y.FKeys.l = x.FKeys.l ++ ks ∧ y.FItems.l = x.FItems.l ++ vs ∧ NmO (fun u v a b => Nm d n u v (lvl + 1) a b) (t.FInputs.l.take i) l ks vs c m) := by
 intro l
 induction l with
 | nil =>
  intro i c x z _ h
  rw [coerce_coercer_object_q18] at h
  exact .inr ⟨c, x, (Option.some.inj h).symm, rfl, rfl, rfl, [], [], by simp, by simp, .nil⟩
 | cons a r ih =>
  intro i c x z hd h
  obtain ⟨hget, hr, htk⟩ := drop_cons_facts hd
  have hin := hD.2 a (List.mem_of_getElem? hget)
  rw [objC_unfold, inputOf_eq] at h
  have hstep : ∀ (e : Int) (c1 : Coerce_coercer) (y : TValue), (fndI (t.FInputs.l.take i) a.FName).2 = false → (e = 0 → ∃ m, c1 = ⟨d, zv, li, m⟩ ∧ Nm d n a.FType y (lvl + 1) c m) →
    finC x a.FName (coerce_coercer_object_q18 t v lvl (coerce_coercer_at_qn n) (Z11_qn n) r (i + 1)) e c1 y = some z →
    (∃ e, z = Sum.inr e ∧ e.2.1 ≠ 0) ∨ (∃ m y, z = Sum.inl (⟨d, zv, li, m⟩, y) ∧ y.FKind = x.FKind ∧ y.FInt = x.FInt ∧ y.FText = x.FText ∧ ∃ ks vs, y.FKeys.l = x.FKeys.l ++ ks ∧ y.FItems.l = x.FItems.l ++ vs ∧ NmO (fun u v a b => Nm d n u v (lvl + 1) a b) (t.FInputs.l.take i) (a :: r) ks vs c m) := by
   intro e c1 y hf hy h
   unfold finC at h
   by_cases h0 : e = 0
   ·rw [decide_eq_true h0, Bool.not_true, cond_false] at h
    obtain ⟨sk, e3, h⟩ := bindO_some h
    obtain rfl := appC_is e3
    obtain ⟨sv, e4, h⟩ := bindO_some h
    obtain rfl := appC_is e4
    obtain ⟨m, rfl, hn⟩ := hy h0
    rcases ih (i + 1) m _ z hr h with h1 | ⟨m2, y2, q1, q2, q3, q4, ks, vs, q5, q6, q7⟩
    ·exact .inl h1
    ·rw [htk] at q7
     refine .inr ⟨m2, y2, q1, q2, q3, q4, a.FName :: ks, y :: vs, ?_, ?_, .incl hf hn q7⟩
     ·rw [q5]; show (x.FKeys.l ++ [a.FName]) ++ ks = _; simp
     ·rw [q6]; show (x.FItems.l ++ [y]) ++ vs = _; simp
   ·rw [decide_eq_false h0, Bool.not_false, cond_true] at h
    exact .inl ⟨_, (Option.some.inj h).symm, h0⟩
  cases hf : (fndI (t.FInputs.l.take i) a.FName).2 with
  | true =>
   rw [hf, cond_true] at h
   rcases ih (i + 1) c x z hr h with h1 | ⟨m2, y2, q1, q2, q3, q4, ks, vs, q5, q6, q7⟩
   ·exact .inl h1
   ·rw [htk] at q7
    exact .inr ⟨m2, y2, q1, q2, q3, q4, ks, vs, q5, q6, .twice hf q7⟩
  | false =>
   rw [hf, cond_false] at h
   obtain ⟨g, _, h⟩ := bindO_some h
   have rest : (bif a.FHas then ((addC lvl (1 : Int)).bind fun x59 => (Z11_qn n ⟨d, zv, li, c⟩ a x59).bind fun x60 => finC x a.FName (coerce_coercer_object_q18 t v lvl (coerce_coercer_at_qn n) (Z11_qn n) r (i + 1)) x60.2.1 x60.2.2 x60.1)
     else (bif Z68_q a.FType then (finC x a.FName (coerce_coercer_object_q18 t v lvl (coerce_coercer_at_qn n) (Z11_qn n) r (i + 1)) (22 : Int) ⟨d, zv, li, c⟩ TValue.zero) else (coerce_coercer_object_q18 t v lvl (coerce_coercer_at_qn n) (Z11_qn n) r (i + 1) ⟨d, zv, li, c⟩ x))) = some z →
     (∃ e, z = Sum.inr e ∧ e.2.1 ≠ 0) ∨ (∃ m y, z = Sum.inl (⟨d, zv, li, m⟩, y) ∧ y.FKind = x.FKind ∧ y.FInt = x.FInt ∧ y.FText = x.FText ∧ ∃ ks vs, y.FKeys.l = x.FKeys.l ++ ks ∧ y.FItems.l = x.FItems.l ++ vs ∧ NmO (fun u v a b => Nm d n u v (lvl + 1) a b) (t.FInputs.l.take i) (a :: r) ks vs c m) := by
    intro h
    cases hh : a.FHas with
    | true =>
     rw [hh, cond_true] at h
     obtain ⟨lv, e1, h⟩ := bindO_some h
     obtain rfl := addC_is e1
     obtain ⟨y, e2, h⟩ := bindO_some h
     refine hstep _ _ _ hf (fun h0 => ?_) h
     cases n with
     | zero => cases e2
     | succ n =>
      rw [Z11_qn] at e2
      obtain ⟨u, e3, e2⟩ := bindO_some e2
      simp only [Ab.on, Option.some.injEq] at e2
      rw [← e2] at h0
      have h0' : u.2.1 = 0 := h0
      have e3' : coerce_coercer_at_qn n ⟨d, zv, true, c⟩ a.FType a.FDefault (lvl + 1) = some (u.1, 0, u.2.2) := by rw [← h0']; exact e3
      obtain ⟨m, q1, q2⟩ := hat n (by omega) true c a.FType a.FDefault u.1 (lvl + 1) u.2.2 hin.1 e3'
      refine ⟨m, ?_, ?_⟩
      ·rw [← e2]; show Z12_q zv li u.2.2 = _; rw [q1]; rfl
      ·rw [← e2]; exact q2.mono (by omega)
    | false =>
     rw [hh, cond_false] at h
     rw [isNonNull_eq] at h
     cases hn : nnW a.FType.FWraps.l with
     | true =>
      rw [hn, cond_true] at h
      exact hstep _ _ _ hf (fun h0 => absurd h0 (by decide)) h
     | false =>
      rw [hn, cond_false] at h
      rcases ih (i + 1) c x z hr h with h1 | ⟨m2, y2, q1, q2, q3, q4, ks, vs, q5, q6, q7⟩
      ·exact .inl h1
      ·rw [htk] at q7
       exact .inr ⟨m2, y2, q1, q2, q3, q4, ks, vs, q5, q6, .excl hf hh hn q7⟩
   cases hg : g.2 with
   | false =>
    rw [hg, gF, Bool.false_and, cond_false] at h
    exact rest h
   | true =>
    rw [hg, gT] at h
    obtain ⟨m0, _, h⟩ := bindO_some h
    rw [Bool.true_and] at h
    cases m0 with
    | true => rw [Bool.not_true, cond_false] at h; exact rest h
    | false =>
     rw [Bool.not_false, cond_true] at h
     obtain ⟨lv, e1, h⟩ := bindO_some h
     obtain rfl := addC_is e1
     obtain ⟨y, e2, h⟩ := bindO_some h
     refine hstep _ _ _ hf (fun h0 => ?_) h
     have e2' : coerce_coercer_at_qn n ⟨d, zv, li, c⟩ a.FType g.1 (lvl + 1) = some (y.1, 0, y.2.2) := by rw [← h0]; exact e2
     exact hat n (Nat.le_refl _) li c a.FType g.1 y.1 (lvl + 1) y.2.2 hin.1 e2'
theorem obj_nm {d : TDoc} {n : Nat} (hat : ∀ k, k < n → AtNm d k) {t : TDef} {N : Nat} (hD : DefOk N t) {li : Bool} {c lvl : Int} {v w : TValue} {c' : Coerce_coercer} (h : coerce_coercer_object_qn n ⟨d, zv, li, c⟩ t v lvl = some (w, 0, c')) :
  ∃ m, c' = ⟨d, zv, li, m⟩ ∧ w.FKind = 6 ∧ w.FInt = 0 ∧ w.FText = [] ∧ NmO (fun u v a b => Nm d n u v (lvl + 1) a b) [] t.FInputs.l w.FKeys.l w.FItems.l c m := by
 cases n with
 | zero => cases h
 | succ n =>
  rw [coerce_coercer_object_qn] at h
  by_cases h6 : v.FKind = 6
  ·rw [decide_eq_true h6, Bool.not_true, cond_false] at h
   simp only [Ab.on] at h
   rcases keys_rel d zv li c t v.FKeys.l with ⟨k1, _⟩ | ⟨k1, _⟩
   ·rw [k1] at h
    simp only [Option.some.injEq, Prod.mk.injEq] at h
    exact absurd h.2.1 (by decide)
   ·rw [k1] at h
    simp only at h
    obtain ⟨z, e1, h⟩ := bindO_some h
    rcases obj_nm_loop (fun k hk => hat k (by omega)) hD t.FInputs.l 0 c _ z List.drop_zero e1 with ⟨e, rfl, h1⟩ | ⟨m, y, rfl, q2, q3, q4, ks, vs, q5, q6, q7⟩
    ·simp only [Option.some.injEq] at h
     rw [h] at h1
     exact absurd rfl h1
    ·simp only [Option.some.injEq, Prod.mk.injEq] at h
     obtain ⟨rfl, _, rfl⟩ := h
     have q5' : y.FKeys.l = ks := by rw [q5]; rfl
     have q6' : y.FItems.l = vs := by rw [q6]; rfl
     subst q5' q6'
     exact ⟨m, rfl, q2, q3, q4, q7.imp fun _ _ _ _ h => h.mono (by omega)⟩
  ·rw [decide_eq_false h6, Bool.not_false, cond_true] at h
   simp only [Option.some.injEq, Prod.mk.injEq] at h
   exact absurd h.2.1 (by decide)
theorem tail_nm {d : TDoc} {N n : Nat} (hD : ∀ s, DefOk N (fnd d.FDefs.l s).1) (hat : ∀ k, k < n → AtNm d k) {t : TRef} (ht : SOk t.FWraps) (hi : Z51_q d t.FName = true) {li : Bool} {c lvl : Int} {v w : TValue} {c' : Coerce_coercer}
  (h : atTail n t lvl ⟨d, zv, li, c⟩ v = some (w, 0, c')) : ∃ m, c' = ⟨d, zv, li, m⟩ ∧ Nm d (n + 1) t w lvl c m := by
 unfold atTail at h
 obtain ⟨x, e1, h⟩ := bindO_some h
 by_cases h0 : x.1 = 0
 ·rw [decide_eq_true h0, Bool.not_true, cond_false] at h
  have e1' : Z7_q ⟨d, zv, li, c⟩ lvl = some (0, x.2) := by rw [e1, ← h0]
  obtain ⟨hl, hc, hx⟩ := count_is e1'
  rw [hx] at h
  by_cases k0 : v.FKind = 0
  ·rw [decide_eq_true k0, cond_true, isNonNull_eq] at h
   cases hn : nnW t.FWraps.l with
   | true =>
    rw [hn, cond_true] at h
    simp only [Option.some.injEq, Prod.mk.injEq] at h
    exact absurd h.2.1 (by decide)
   | false =>
    rw [hn, cond_false] at h
    simp only [Option.some.injEq, Prod.mk.injEq] at h
    exact ⟨c + 1, h.2.2.symm, hi, hl, hc, .inl ⟨hn, h.1.symm, rfl⟩⟩
  ·rw [decide_eq_false k0, cond_false, inner_eq ht, Option.bind_some] at h
   cases hli : liW (barS t.FWraps).l with
   | true =>
    rw [hli, cond_true, cond_true] at h
    obtain ⟨y, e2, h⟩ := bindO_some h
    simp only [Option.some.injEq, Prod.mk.injEq] at h
    have e2' : coerce_coercer_list_qn n ⟨d, zv, li, c + 1⟩ (innerT t) v lvl = some (w, 0, c') := by rw [← h.1, ← h.2.1, ← h.2.2]; exact e2
    obtain ⟨m, q1, q2, q3, q4, q5, q6⟩ := list_nm hat (innerT_ok ht) e2'
    exact ⟨m, q1, hi, hl, hc, .inr (.inl ⟨hli, q2, q3, q4, q5, q6⟩)⟩
   | false =>
    rw [hli, cond_false, cond_false] at h
    have hb : (((Z49_q (⟨d, zv, li, c + 1⟩ : Coerce_coercer).Fd t.FName).2 && (!(bif (Z49_q (⟨d, zv, li, c + 1⟩ : Coerce_coercer).Fd t.FName).2 then Z53_q t.FName else false))) && (decide ((Z49_q (⟨d, zv, li, c + 1⟩ : Coerce_coercer).Fd t.FName).1.FKind = (5 : Int)))) = objB d t.FName := rfl
    rw [hb] at h
    cases ho : objB d t.FName with
    | true =>
     rw [ho, cond_true] at h
     obtain ⟨y, e2, h⟩ := bindO_some h
     simp only [Option.some.injEq, Prod.mk.injEq] at h
     have e2' : coerce_coercer_object_qn n ⟨d, zv, li, c + 1⟩ (fnd d.FDefs.l t.FName).1 v lvl = some (w, 0, c') := by rw [← h.1, ← h.2.1, ← h.2.2, ← find_eq]; exact e2
     obtain ⟨m, q1, q2, q3, q4, q5⟩ := obj_nm hat (hD t.FName) e2'
     exact ⟨m, q1, hi, hl, hc, .inr (.inr (.inr ⟨hli, ho, q2, q3, q4, q5⟩))⟩
    | false =>
     rw [ho, cond_false] at h
     obtain ⟨y, e2, h⟩ := bindO_some h
     simp only [Option.some.injEq, Prod.mk.injEq] at h
     have e2' : Z8_q ⟨d, zv, li, c + 1⟩ t.FName v = some (w, 0) := by rw [← h.1, ← h.2.1]; exact e2
     exact ⟨c + 1, h.2.2.symm, hi, hl, hc, .inr (.inr (.inl ⟨hli, ho, leaf_is e2', rfl⟩))⟩
 ·rw [decide_eq_false h0, Bool.not_false, cond_true] at h
  simp only [Option.some.injEq, Prod.mk.injEq] at h
  exact absurd h.2.1 h0
theorem at_nm {d : TDoc} {N : Nat} (hD : ∀ s, DefOk N (fnd d.FDefs.l s).1) (n : Nat) : AtNm d n := by
 induction n using Nat.strongRecOn with
 | _ n ih =>
  intro li c t v w lvl c' ht h
  cases n with
  | zero => cases h
  | succ n =>
   rw [at_unfold] at h
   cases hi : Z51_q d t.FName with
   | false =>
    simp only [hi, Bool.not_false, cond_true, Option.some.injEq, Prod.mk.injEq] at h
    exact absurd h.2.1 (by decide)
   | true =>
    simp only [hi, Bool.not_true, cond_false] at h
    cases hk : (decide (v.FKind = 7)) && li with
    | true =>
     simp only [hk, cond_true] at h
     rw [get_zv, Option.bind_some] at h
     simp only [show decide (zv.FKind = 0) = true from rfl, Bool.not_true, cond_false] at h
     exact tail_nm hD (fun k hk => ih k (by omega)) ht hi h
    | false =>
     simp only [hk, cond_false] at h
     exact tail_nm hD (fun k hk => ih k (by omega)) ht hi h
end Go.Proofs

namespace Go.Proofs
open Go Go.Ab
theorem all2_left {α β : Type} {R : α → β → Prop} {S : α → α → Prop} {l : List α} {m : List β} (h : All2 R l m) (f : ∀ a b, R a b → S a a) : All2 S l l := by
 induction h with
 | nil => exact .nil
 | cons a _ ih => exact .cons (f _ _ a) ih
theorem all2_zip {α β γ : Type} {R : α → γ → Prop} {R' : β → γ → Prop} {S : α → β → Prop} (f : ∀ a b c, R a c → R' b c → S a b) {l : List α} {n : List γ} (h : All2 R l n) : ∀ {m : List β}, All2 R' m n → All2 S l m := by
 induction h with
 | nil => intro m h'; cases h'; exact .nil
 | cons a _ ih =>
  intro m h'
  cases h' with
  | cons b h' => exact .cons (f _ _ _ a b) (ih h')
theorem Rl.left : ∀ {n : Nat} {v w : TValue}, Rl n v w → Rl n v v
 | 0, _, _, h => h.elim
 | _ + 1, _, _, ⟨_, b, _, _, e, f, g, i, k⟩ => ⟨rfl, ⟨rfl, b.2⟩, rfl, rfl, e, f, g, i, all2_left k fun _ _ h => Rl.left h⟩
theorem Rl.both : ∀ {n : Nat} {a b c : TValue}, Rl n a c → Rl n b c → Rl n a b
 | 0, _, _, _, h, _ => h.elim
 | _ + 1, _, _, _, ⟨a1, a2, a3, a4, a5, a6, a7, a8, a9⟩, ⟨b1, b2, b3, b4, b5, b6, b7, b8, b9⟩ =>
  ⟨a1.trans b1.symm, ⟨a2.1.trans b2.1.symm, a2.2⟩, a3.trans b3.symm, a4.trans b4.symm, a5, a6, a7, a8, all2_zip (R := Rl _) (R' := Rl _) (S := Rl _) (fun _ _ _ h h' => Rl.both h h') a9 b9⟩
theorem Nm.cut {d : TDoc} : ∀ {k j : Nat} {t : TRef} {w : TValue} {lvl n m : Int}, 24 < lvl + j → Nm d k t w lvl n m → Nm d j t w lvl n m
 | 0, _, _, _, _, _, _, _, h => h.elim
 | _ + 1, 0, _, _, _, _, _, hj, ⟨_, b, _⟩ => by omega
 | k + 1, j + 1, _, _, _, _, _, hj, ⟨a, b, c, h⟩ => by
  refine ⟨a, b, c, ?_⟩
  rcases h with h | ⟨h1, h2, h3, h4, h5, h6⟩ | h | ⟨h1, h2, h3, h4, h5, h6⟩
  ·exact .inl h
  ·exact .inr (.inl ⟨h1, h2, h3, h4, h5, h6.imp fun _ _ _ h => Nm.cut (by omega) h⟩)
  ·exact .inr (.inr (.inl h))
  ·exact .inr (.inr (.inr ⟨h1, h2, h3, h4, h5, h6.imp fun _ _ _ _ h => Nm.cut (by omega) h⟩))
theorem count_ok {d : TDoc} {va : TValue} {li : Bool} {n lvl : Int} (hn : 0 ≤ n) (h1 : lvl ≤ 24) (h2 : n + 1 ≤ 4096) : Z7_q ⟨d, va, li, n⟩ lvl = some (0, ⟨d, va, li, n + 1⟩) := by
 rcases cnt_both d va li n lvl ⟨hn, by omega⟩ with ⟨e, c', k', he, e1, _⟩ | ⟨_, _, e1, _⟩
 ·exfalso
  unfold Z7_q at e1
  rw [decide_eq_false (by omega), cond_false, addC_ok (by show _ ≤ n + 1 ∧ n + 1 ≤ _; omega)] at e1
  simp only [Ab.on, Option.bind_some] at e1
  rw [decide_eq_false (by omega), cond_false] at e1
  simp only [Option.some.injEq, Prod.mk.injEq] at e1
  exact he e1.1.symm
 ·exact e1
theorem idx_none (s : Bs) (l : List Bs) (i : Nat) (h : s ∉ l) : Z61_q6 s l i = Sum.inl () := by
 induction l generalizing i with
 | nil => rfl
 | cons a r ih =>
  rw [Z61_q6]
  simp only [Ab.on]
  rw [show (s == a) = false from by simpa using fun e => h (by rw [e]; exact List.mem_cons_self), cond_false]
  exact ih (i + 1) fun hm => h (List.mem_cons_of_mem _ hm)
theorem idx_found (s : Bs) (p q : List Bs) (i : Nat) (h : s ∉ p) : Z61_q6 s (p ++ s :: q) i = Sum.inr ((i + p.length : Nat) : Int) := by
 induction p generalizing i with
 | nil =>
  rw [List.nil_append, Z61_q6]
  simp only [Ab.on, beq_self_eq_true, cond_true, List.length_nil, Nat.add_zero]
 | cons a r ih =>
  rw [List.cons_append, Z61_q6]
  simp only [Ab.on]
  rw [show (s == a) = false from by simpa using fun e => h (by rw [e]; exact List.mem_cons_self), cond_false, ih (i + 1) fun hm => h (List.mem_cons_of_mem _ hm)]
  rw [List.length_cons, show i + 1 + r.length = i + (r.length + 1) by omega]
theorem get_idx (v : TValue) (s : Bs) (i : Int) (hi : Z61_q v.FKeys s = i) : Z70_q v s = (if v.FKind = 6 ∧ 0 ≤ i ∧ i < v.FItems.l.length then ((idxC v.FItems.l i).bind fun x9 => (value_Copy_q x9).bind fun x10 => some (x10, true)) else some (zv, false)) := by
 unfold Z70_q
 rw [hi]
 by_cases q1 : v.FKind = 6 <;> by_cases q2 : i < 0 <;> by_cases q3 : (v.FItems.l.length : Int) ≤ i <;> simp [Ab.on, q1, q2, q3, zv] <;> try omega
 all_goals (rw [if_pos (by omega)])
theorem get_absent {v : TValue} {s : Bs} (h : s ∉ v.FKeys.l) : Z70_q v s = some (zv, false) := by
 have hi : Z61_q v.FKeys s = -1 := by unfold Z61_q; rw [idx_none s v.FKeys.l 0 h]; rfl
 rw [get_idx v s _ hi, if_neg (by omega)]
theorem get_found {v x y : TValue} {s : Bs} {p q : List Bs} {n : Nat} (h6 : v.FKind = 6) (hk : v.FKeys.l = p ++ s :: q) (hs : s ∉ p) (hx : v.FItems.l[p.length]? = some x) (hr : Rl n x y) (hn : n ≤ 1099511627776) : ∃ r, Z70_q v s = some (r, true) ∧ Rl n r y := by
 have hi : Z61_q v.FKeys s = (p.length : Int) := by unfold Z61_q; rw [hk, idx_found s p q 0 hs, Nat.zero_add]; rfl
 have hl := (List.getElem?_eq_some_iff.1 hx).1
 obtain ⟨r, e1, r1⟩ := copy_rl n hr F0 (by rw [F0_eq]; omega)
 refine ⟨r, ?_, r1⟩
 rw [get_idx v s _ hi, if_pos ⟨h6, by omega, by omega⟩]
 unfold idxC; rw [if_pos (by omega), Int.toNat_natCast, hx, Option.bind_some]
 unfold value_Copy_q; rw [e1]; rfl
theorem missing_no (d : TDoc) (c : Int) (v : TValue) : Z10_q ⟨d, zv, false, c⟩ v = some false := by
 unfold Z10_q
 simp only [Bool.not_false, Bool.or_true, cond_true]
def AgainOk (d : TDoc) (k : Nat) : Prop := ∀ (t : TRef) (w : TValue) (lvl c m : Int), Nm d k t w lvl c m → 0 ≤ c → 0 ≤ lvl → SOk t.FWraps → c ≤ m ∧ ∀ (n : Nat) (v : TValue) (M : Nat), 2 * k ≤ n → M ≤ 1099511627776 → Rl M v w →
 ∃ r, coerce_coercer_at_qn n ⟨d, zv, false, c⟩ t v lvl = some (r, 0, ⟨d, zv, false, m⟩) ∧ Rl M r w
theorem list_again {d : TDoc} {k n : Nat} (hA : AgainOk d k) (hn : 2 * k ≤ n) {t : TRef} (ht : SOk t.FWraps) {lvl : Int} (hl : 0 ≤ lvl ∧ lvl ≤ 24) {M : Nat} (hM : M ≤ 1099511627776) {ws : List TValue} {c m : Int} (h : NmL (fun v a b => Nm d k t v (lvl + 1) a b) ws c m) :
  0 ≤ c → c ≤ m ∧ ∀ (vs : List TValue) (x : TValue) (acc : List TValue), All2 (Rl M) vs ws → All2 (Rl M) x.FItems.l acc → x.FItems.l.length + vs.length ≤ bB →
   ∃ b l', coerce_coercer_list_q14 t lvl (coerce_coercer_at_qn n) vs ⟨d, zv, false, c⟩ x = some (Sum.inl (⟨d, zv, false, m⟩, TValue.mk x.FKind x.FInt x.FText b l' x.FKeys)) ∧ All2 (Rl M) l' (acc ++ ws) := by
 induction h with
 | nil =>
  intro _
  refine ⟨Int.le_refl _, fun vs x acc h1 h2 _ => ?_⟩
  cases h1
  exact ⟨x.FItems.nl, x.FItems.l, by rw [coerce_coercer_list_q14]; cases x; rfl, by simpa using h2⟩
 | @cons v l n1 m1 k1 hp _ ih =>
  intro hc
  obtain ⟨h1, h2⟩ := hA t v (lvl + 1) n1 m1 hp hc (by omega) ht
  obtain ⟨h3, h4⟩ := ih (by omega)
  refine ⟨by omega, fun vs x acc g1 g2 g3 => ?_⟩
  cases g1 with
  | @cons a _ al _ ga gas =>
   obtain ⟨r, e1, e2⟩ := h2 n a M hn hM ga
   simp only [List.length_cons] at g3
   obtain ⟨b, l', e3, e4⟩ := h4 al (TValue.mk x.FKind x.FInt x.FText (x.FItems.nl && [r].isEmpty) (x.FItems.l ++ [r]) x.FKeys) (acc ++ [v]) gas (g2.append (.cons e2 .nil)) (by show (x.FItems.l ++ [r]).length + _ ≤ bB; simp; omega)
   refine ⟨b, l', ?_, by simpa using e4⟩
   rw [coerce_coercer_list_q14]
   simp only [Ab.on]
   rw [addC_ok (by omega), Option.bind_some, e1, Option.bind_some]
   simp only [decide_true, Bool.not_true, cond_false]
   rw [appC80 (by unfold bB at g3; simp; omega), Option.bind_some]
   exact e3
theorem fndI_snoc (p : List TInput) (x : TInput) (s : Bs) : (fndI (p ++ [x]) s).2 = ((fndI p s).2 || x.FName == s) := by rw [fndI_any, fndI_any]; simp
theorem NmO.keys {P : TRef → TValue → Int → Int → Prop} {p r : List TInput} {ks : List Bs} {vs : List TValue} {n m : Int} (h : NmO P p r ks vs n m) : ks.length = vs.length ∧ (∀ s ∈ ks, (fndI p s).2 = false) ∧ ∀ s ∈ ks, (fndI r s).2 = true := by
 induction h with
 | nil => exact ⟨rfl, fun _ h => (by cases h), fun _ h => (by cases h)⟩
 | @twice p r x ks vs n m _ _ ih =>
  obtain ⟨h1, h2, h3⟩ := ih
  refine ⟨h1, fun s hs => ?_, fun s hs => ?_⟩
  ·have := h2 s hs; rw [fndI_snoc, Bool.or_eq_false_iff] at this; exact this.1
  ·have := h3 s hs; rw [fndI_any] at this ⊢; rw [List.any_cons, this, Bool.or_true]
 | @incl p r x v ks vs n m k hf _ _ ih =>
  obtain ⟨h1, h2, h3⟩ := ih
  refine ⟨by simp [h1], fun s hs => ?_, fun s hs => ?_⟩
  ·rcases List.mem_cons.1 hs with rfl | hs
   ·exact hf
   ·have := h2 s hs; rw [fndI_snoc, Bool.or_eq_false_iff] at this; exact this.1
  ·rcases List.mem_cons.1 hs with rfl | hs
   ·rw [fndI_any, List.any_cons, beq_self_eq_true, Bool.true_or]
   ·have := h3 s hs; rw [fndI_any] at this ⊢; rw [List.any_cons, this, Bool.or_true]
 | @excl p r x ks vs n m _ _ _ _ ih =>
  obtain ⟨h1, h2, h3⟩ := ih
  refine ⟨h1, fun s hs => ?_, fun s hs => ?_⟩
  ·have := h2 s hs; rw [fndI_snoc, Bool.or_eq_false_iff] at this; exact this.1
  ·have := h3 s hs; rw [fndI_any] at this ⊢; rw [List.any_cons, this, Bool.or_true]
theorem obj_again {d : TDoc} {k n : Nat} (hA : AgainOk d k) (hn : 2 * k ≤ n) {t : TDef} {lvl : Int} (hl : 0 ≤ lvl ∧ lvl ≤ 24) {M : Nat} (hM : M ≤ 1099511627776) {v w : TValue} (hv : Rl (M + 1) v w) (h6 : v.FKind = 6) {p r : List TInput} {ks : List Bs} {vs : List TValue} {c m : Int}
  (h : NmO (fun u v a b => Nm d k u v (lvl + 1) a b) p r ks vs c m) : (∀ x ∈ r, SOk x.FType.FWraps) → 0 ≤ c → c ≤ m ∧ ∀ (i : Nat) (kq : List Bs) (vp : List TValue) (x : TValue), t.FInputs.l.drop i = r → t.FInputs.l.take i = p → w.FKeys.l = kq ++ ks → w.FItems.l = vp ++ vs → kq.length = vp.length →
   (∀ s ∈ kq, (fndI p s).2 = true) → x.FKeys.l = kq → (x.FKeys.nl = true → x.FKeys.l = []) → All2 (Rl M) x.FItems.l vp →
   ∃ y, coerce_coercer_object_q18 t v lvl (coerce_coercer_at_qn n) (Z11_qn n) r i ⟨d, zv, false, c⟩ x = some (Sum.inl (⟨d, zv, false, m⟩, y)) ∧ y.FKind = x.FKind ∧ y.FInt = x.FInt ∧ y.FText = x.FText ∧ y.FKeys.l = kq ++ ks ∧ (y.FKeys.nl = true → y.FKeys.l = []) ∧ All2 (Rl M) y.FItems.l (vp ++ vs) := by
 have hkw : v.FKeys.l = w.FKeys.l := hv.2.2.2.1
 have hkl : v.FKeys.l.length ≤ bB := hv.2.2.2.2.2.1
 have hil : v.FItems.l.length ≤ bB := hv.2.2.2.2.2.2.1
 have hall : All2 (Rl M) v.FItems.l w.FItems.l := hv.2.2.2.2.2.2.2.2
 induction h with
 | nil =>
  intro _ _
  refine ⟨Int.le_refl _, fun i kq vp x h1 _ h3 h4 _ _ h7 h8 h9 => ⟨x, ?_, rfl, rfl, rfl, by simpa using h7, h8, by simpa using h9⟩⟩
  rw [coerce_coercer_object_q18]
 | @twice p r a ks vs n1 m1 hf _ ih =>
  intro hS hc
  obtain ⟨g1, g2⟩ := ih (fun x hx => hS x (List.mem_cons_of_mem _ hx)) hc
  refine ⟨g1, fun i kq vp x h1 h2 h3 h4 h5 h6' h7 h8 h9 => ?_⟩
  obtain ⟨_, hr, htk⟩ := drop_cons_facts h1
  obtain ⟨y, q1, q2⟩ := g2 (i + 1) kq vp x hr (by rw [htk, h2]) h3 h4 h5 (fun s hs => by rw [fndI_snoc, h6' s hs, Bool.true_or]) h7 h8 h9
  refine ⟨y, ?_, q2⟩
  rw [objC_unfold, inputOf_eq, h2, hf, cond_true]
  exact q1
 | @incl p r a z ks vs n1 m1 k1 hf hz _ ih =>
  intro hS hc
  obtain ⟨z1, z2⟩ := hA a.FType z (lvl + 1) n1 m1 hz hc (by omega) (hS a List.mem_cons_self)
  obtain ⟨g1, g2⟩ := ih (fun x hx => hS x (List.mem_cons_of_mem _ hx)) (by omega)
  refine ⟨by omega, fun i kq vp x h1 h2 h3 h4 h5 h6' h7 h8 h9 => ?_⟩
  obtain ⟨_, hr, htk⟩ := drop_cons_facts h1
  have hnk : a.FName ∉ kq := fun hm => by have := h6' _ hm; rw [hf] at this; cases this
  have hwz : w.FItems.l[kq.length]? = some z := by rw [h4, h5]; simp
  obtain ⟨gx, e1, e2⟩ := hall.get' hwz
  obtain ⟨gr, e3, e4⟩ := get_found (p := kq) (q := ks) h6 (by rw [hkw, h3]) hnk e1 e2 hM
  obtain ⟨rr, e5, e6⟩ := z2 n gr M hn hM e4
  have hkb : x.FKeys.l.length + 1 ≤ bB := by
   have : v.FKeys.l.length = kq.length + (ks.length + 1) := by rw [hkw, h3]; simp
   rw [h7]; omega
  have hib : x.FItems.l.length + 1 ≤ bB := by
   have e7 : v.FItems.l.length = w.FItems.l.length := hall.length
   have : w.FItems.l.length = vp.length + (vs.length + 1) := by rw [h4]; simp
   rw [h9.length]; omega
  obtain ⟨y, q1, q2, q3, q4, q5, q6, q7⟩ := g2 (i + 1) (kq ++ [a.FName]) (vp ++ [z]) (TValue.mk x.FKind x.FInt x.FText (x.FItems.nl && [rr].isEmpty) (x.FItems.l ++ [rr]) ⟨x.FKeys.nl && [a.FName].isEmpty, x.FKeys.l ++ [a.FName]⟩) hr (by rw [htk, h2]) (by rw [h3]; simp) (by rw [h4]; simp) (by simp [h5])
   (fun s hs => by
    rw [fndI_snoc]
    rcases List.mem_append.1 hs with hs | hs
    ·rw [h6' s hs, Bool.true_or]
    ·rw [List.mem_singleton.1 hs, beq_self_eq_true, Bool.or_true]) (by show x.FKeys.l ++ [a.FName] = _; rw [h7]) (fun e => by simp [TValue.FKeys] at e) (h9.append (.cons e6 .nil))
  refine ⟨y, ?_, q2, q3, q4, by simpa using q5, q6, by simpa using q7⟩
  rw [objC_unfold, inputOf_eq, h2, hf, cond_false, e3, Option.bind_some]
  simp only
  rw [gT, missing_no, Option.bind_some]
  simp only [Bool.not_false, Bool.and_true, cond_true]
  rw [addC_ok (by omega), Option.bind_some, e5, Option.bind_some]
  unfold finC
  simp only [decide_true, Bool.not_true, cond_false]
  rw [appC_ok32 (by omega) (by unfold bB at hkb; simp; omega), Option.bind_some, appC80 (by unfold bB at hib; simp; omega), Option.bind_some]
  exact q1
 | @excl p r a ks vs n1 m1 hf hh hnn hrest ih =>
  intro hS hc
  obtain ⟨g1, g2⟩ := ih (fun x hx => hS x (List.mem_cons_of_mem _ hx)) hc
  refine ⟨g1, fun i kq vp x h1 h2 h3 h4 h5 h6' h7 h8 h9 => ?_⟩
  obtain ⟨_, hr, htk⟩ := drop_cons_facts h1
  obtain ⟨y, q1, q2⟩ := g2 (i + 1) kq vp x hr (by rw [htk, h2]) h3 h4 h5 (fun s hs => by rw [fndI_snoc, h6' s hs, Bool.true_or]) h7 h8 h9
  have habs : a.FName ∉ v.FKeys.l := by
   rw [hkw, h3]
   intro hm
   rcases List.mem_append.1 hm with hm | hm
   ·have := h6' _ hm; rw [hf] at this; cases this
   ·have := hrest.keys.2.1 _ hm
    rw [fndI_snoc, beq_self_eq_true, Bool.or_true] at this; cases this
  refine ⟨y, ?_, q2⟩
  rw [objC_unfold, inputOf_eq, h2, hf, cond_false, get_absent habs, Option.bind_some]
  simp only
  rw [gF, Bool.false_and, cond_false, hh, cond_false, isNonNull_eq, hnn, cond_false]
  exact q1
theorem keys_fine (t : TDef) (c : Coerce_coercer) (l : List Bs) (h : ∀ s ∈ l, (fndI t.FInputs.l s).2 = true) : coerce_coercer_object_q66 c t l = Sum.inl () := by
 induction l with
 | nil => rfl
 | cons a r ih =>
  rw [coerce_coercer_object_q66]
  simp only [Ab.on]
  rw [inputOf_eq, h a List.mem_cons_self]
  exact ih fun s hs => h s (List.mem_cons_of_mem _ hs)
theorem again {d : TDoc} {N : Nat} (hD : ∀ s, DefOk N (fnd d.FDefs.l s).1) : ∀ k, AgainOk d k := by
 intro k
 induction k with
 | zero => intro t w lvl c m h; exact h.elim
 | succ k ih =>
  rintro t w lvl c m ⟨hi, hl, hcn, h⟩ hc hlv ht
  have enter : ∀ (n : Nat) (v : TValue), coerce_coercer_at_qn (n + 1) ⟨d, zv, false, c⟩ t v lvl = atTail n t lvl ⟨d, zv, false, c⟩ v := fun n v => by
   rw [at_unfold]
   simp only [hi, Bool.not_true, cond_false, Bool.and_false]
  have tail : ∀ (n : Nat) (v : TValue), v.FKind ≠ 0 → atTail n t lvl ⟨d, zv, false, c⟩ v = bif liW (barS t.FWraps).l then ((coerce_coercer_list_qn n ⟨d, zv, false, c + 1⟩ (innerT t) v lvl).bind fun x32 => some (x32.1, x32.2.1, x32.2.2))
    else (bif objB d t.FName then ((coerce_coercer_object_qn n ⟨d, zv, false, c + 1⟩ (fnd d.FDefs.l t.FName).1 v lvl).bind fun x40 => some (x40.1, x40.2.1, x40.2.2)) else ((Z8_q ⟨d, zv, false, c + 1⟩ t.FName v).bind fun x42 => some (x42.1, x42.2, ⟨d, zv, false, c + 1⟩))) := fun n v hk => by
   unfold atTail
   rw [count_ok hc hl hcn, Option.bind_some]
   simp only [decide_true, Bool.not_true, cond_false]
   rw [decide_eq_false hk, cond_false, inner_eq ht, Option.bind_some]
   cases liW (barS t.FWraps).l with
   | true => simp only [cond_true]
   | false => simp only [cond_false]; rw [← find_eq]; rfl
  rcases h with ⟨hn, rfl, rfl⟩ | ⟨hli, h5, h0, h1, h2, hL⟩ | ⟨hli, ho, hle, rfl⟩ | ⟨hli, ho, h6, h0, h1, hO⟩
  ·refine ⟨by omega, fun n v M hnk hM hv => ?_⟩
   obtain ⟨n, rfl⟩ : ∃ j, n = j + 1 := ⟨n - 1, by omega⟩
   have hk0 : v.FKind = 0 := by cases M with | zero => exact hv.elim | succ M => exact hv.1
   refine ⟨zv, ?_, ?_⟩
   ·rw [enter]; unfold atTail
    rw [count_ok hc hl hcn, Option.bind_some]
    simp only [decide_true, Bool.not_true, cond_false]
    rw [decide_eq_true hk0, cond_true, isNonNull_eq, hn]; rfl
   ·cases M with
    | zero => exact hv.elim
    | succ M => exact zv_rl.mono (by omega)
  ·refine ⟨?_, fun n v M hnk hM hv => ?_⟩
   ·have := (list_again ih (Nat.le_refl (2 * k)) (innerT_ok ht) ⟨hlv, hl⟩ (M := 1) (by omega) hL (by omega)).1
    omega
   obtain ⟨n, rfl⟩ : ∃ j, n = j + 2 := ⟨n - 2, by omega⟩
   cases M with
   | zero => exact hv.elim
   | succ M =>
    have hk5 : v.FKind = 5 := hv.1.trans h5
    obtain ⟨_, hh⟩ := list_again (n := n) ih (by omega) (innerT_ok ht) ⟨hlv, hl⟩ (M := M) (by omega) hL (by omega)
    obtain ⟨b, l', e1, e2⟩ := hh v.FItems.l (TValue.mk (5 : Int) (0 : Int) ([] : Bs) true ([]) (Sl.nil : Sl Bs)) [] hv.2.2.2.2.2.2.2.2 .nil (by show 0 + _ ≤ _; have := hv.2.2.2.2.2.2.1; omega)
    refine ⟨TValue.mk 5 0 [] b l' Sl.nil, ?_, ?_⟩
    ·rw [enter, tail (n + 1) v (by omega), hli, cond_true, coerce_coercer_list_qn]
     simp only [hk5, decide_true, Bool.not_true, cond_false, Ab.on]
     rw [e1]; rfl
    ·refine ⟨h5.symm, ⟨h0.symm, by show _ ≤ (0 : Int); decide, by show (0 : Int) ≤ _; decide⟩, h1.symm, h2.symm, fun _ => rfl, by show 0 ≤ _; omega, ?_, fun h => (by rcases h with h | h <;> cases h), e2⟩
     show l'.length ≤ _
     have e3 := e2.length
     rw [List.nil_append] at e3
     have := hv.2.2.2.2.2.2.1
     have e4 := hv.2.2.2.2.2.2.2.2.length
     omega
  ·refine ⟨by omega, fun n v M hnk hM hv => ?_⟩
   obtain ⟨n, rfl⟩ : ∃ j, n = j + 1 := ⟨n - 1, by omega⟩
   cases M with
   | zero => exact hv.elim
   | succ M =>
    have hk := leaf_kind hle
    refine ⟨v, ?_, hv⟩
    rw [enter, tail n v (by rw [hv.1]; exact hk.1), hli, cond_false, ho, cond_false, leaf_again hle hv.1 hv.2.1.1 hv.2.2.1]
    rfl
  ·have hS : ∀ x ∈ (fnd d.FDefs.l t.FName).1.FInputs.l, SOk x.FType.FWraps := fun x hx => ((hD t.FName).2 x hx).1
   have hkk := hO.keys
   refine ⟨?_, fun n v M hnk hM hv => ?_⟩
   ·have hmono : ∀ {p r : List TInput} {ks : List Bs} {vs : List TValue} {a b : Int}, NmO (fun u v a b => Nm d k u v (lvl + 1) a b) p r ks vs a b → (∀ x ∈ r, SOk x.FType.FWraps) → 0 ≤ a → a ≤ b := by
     intro p r ks vs a b h
     induction h with
     | nil => intro _ _; exact Int.le_refl _
     | twice _ _ ih2 => intro g1 g2; exact ih2 (fun x hx => g1 x (List.mem_cons_of_mem _ hx)) g2
     | @incl p r x v ks vs a b e _ hz _ ih2 =>
      intro g1 g2
      have h1 := (ih x.FType v (lvl + 1) a b hz g2 (by omega) (g1 x List.mem_cons_self)).1
      have h2 := ih2 (fun x hx => g1 x (List.mem_cons_of_mem _ hx)) (by omega)
      omega
     | excl _ _ _ _ ih2 => intro g1 g2; exact ih2 (fun x hx => g1 x (List.mem_cons_of_mem _ hx)) g2
    have := hmono hO hS (by omega)
    omega
   obtain ⟨n, rfl⟩ : ∃ j, n = j + 2 := ⟨n - 2, by omega⟩
   cases M with
   | zero => exact hv.elim
   | succ M =>
    have hk6 : v.FKind = 6 := hv.1.trans h6
    obtain ⟨_, hh⟩ := obj_again (n := n) (t := (fnd d.FDefs.l t.FName).1) ih (by omega) ⟨hlv, hl⟩ (M := M) (by omega) hv hk6 hO hS (by omega)
    obtain ⟨y, e1, e2, e3, e4, e5, e6, e7⟩ := hh 0 [] [] (TValue.mk (6 : Int) (0 : Int) ([] : Bs) true ([]) (Sl.nil : Sl Bs)) List.drop_zero List.take_zero rfl rfl rfl (fun s hs => by cases hs) rfl (fun _ => rfl) .nil
    refine ⟨y, ?_, ?_⟩
    ·rw [enter, tail (n + 1) v (by omega), hli, cond_false, ho, cond_true, coerce_coercer_object_qn]
     simp only [hk6, decide_true, Bool.not_true, cond_false, Ab.on]
     rw [keys_fine _ _ _ (fun s hs => hkk.2.2 s (by rw [← hv.2.2.2.1]; exact hs))]
     simp only
     rw [e1]; rfl
    ·refine ⟨e2.trans h6.symm, ⟨e3.trans h0.symm, by rw [e3]; show _ ≤ (0 : Int); decide, by rw [e3]; show (0 : Int) ≤ _; decide⟩, e4.trans h1.symm, by simpa using e5, e6, ?_, ?_, fun h => (by rw [e2] at h; rcases h with h | h <;> cases h), by simpa using e7⟩
     ·have := hv.2.2.2.2.2.1
      rw [hv.2.2.2.1] at this
      rw [e5]; simpa using this
     ·have h8 := e7.length
      have := hv.2.2.2.2.2.2.1
      have h9 := hv.2.2.2.2.2.2.2.2.length
      simp only [List.nil_append] at h8
      omega
end Go.Proofs

namespace Go.Proofs
open Go Go.Ab
theorem NmL.mem {P : TValue → Int → Int → Prop} {l : List TValue} {n m : Int} (h : NmL P l n m) : ∀ v ∈ l, ∃ a b, P v a b := by
 induction h with
 | nil => intro v hv; cases hv
 | cons a _ ih =>
  intro v hv
  rcases List.mem_cons.1 hv with rfl | hv
  ·exact ⟨_, _, a⟩
  ·exact ih v hv
theorem fits_stop (v : TValue) (x : TRef) (kr : TRef → TValue → Option Bool) (f : Nat) (i : Int) : Z18_l16 v (x, false) kr (f + 1) i = some true := by
 rw [Z18_l16, Bool.false_and, cond_false]; rfl
theorem fits_loop {v : TValue} {x : TRef} {kr : TRef → TValue → Option Bool} (h : ∀ y ∈ v.FItems.l, kr x y = some true) (hl : v.FItems.l.length ≤ bB) : ∀ (f i : Nat), v.FItems.l.length < i + f → i ≤ v.FItems.l.length → Z18_l16 v (x, true) kr f (i : Int) = some true := by
 intro f
 induction f with
 | zero => intro i h1 h2; omega
 | succ f ih =>
  intro i h1 h2
  rw [Z18_l16]
  by_cases hi : i < v.FItems.l.length
  ·rw [decide_eq_true (by omega), Bool.and_self, cond_true]
   have e1 : idxC v.FItems.l (i : Int) = some v.FItems.l[i] := by unfold idxC; rw [if_pos (by omega), Int.toNat_natCast, List.getElem?_eq_getElem hi]
   rw [e1, Option.bind_some, h _ (List.getElem_mem hi), Option.bind_some, Bool.not_true, cond_false, addC_ok (by unfold bB at hl; omega), Option.bind_some]
   exact ih (i + 1) (by omega) (by omega)
  ·rw [decide_eq_false (by omega), Bool.and_false, cond_false]; rfl
theorem fits_ok {d : TDoc} : ∀ (k : Nat) {t t' : TRef} {w : TValue} {lvl c m : Int}, Nm d k t w lvl c m → RefEq t t' → t'.FWraps.l.length ≤ 1048576 → ∀ (n : Nat) (v : TValue) (M : Nat), k ≤ n → Rl M v w → Z18_n n t' v = some true
 | 0, _, _, _, _, _, _, h, _, _, _, _, _, _, _ => h.elim
 | k + 1, t, t', w, lvl, c, m, ⟨hi, hlv, hcn, h⟩, he, hlen, n, v, M, hn, hv => by
  obtain ⟨n, rfl⟩ : ∃ j, n = j + 1 := ⟨n - 1, by omega⟩
  cases M with
  | zero => exact hv.elim
  | succ M =>
   obtain ⟨x, ex, hx⟩ := r05_inner_eq (t := t') hlen
   rw [Z18_n, Z34_eq, Z32_eq, ex, r05_isNonNull_eq, ← he.2, ← he.bar]
   simp only [Option.bind_some]
   have hnl : v.FItems.l.length ≤ bB := hv.2.2.2.2.2.2.1
   rcases h with ⟨hnn, rfl, rfl⟩ | ⟨hli, h5, h0, h1, h2, hL⟩ | ⟨hli, ho, hle, rfl⟩ | ⟨hli, ho, h6, h0, h1, hO⟩
   ·rw [decide_eq_true (show v.FKind = 0 from hv.1), cond_true, hnn]; rfl
   ·have hk5 : v.FKind = 5 := hv.1.trans h5
    rw [hk5, show decide ((5 : Int) = 0) = false from rfl, cond_false, hli, show decide ((5 : Int) = 5) = true from rfl]
    simp only [beq_self_eq_true, Bool.not_true, cond_false]
    have hx' := hx (by rw [← he.bar]; exact hli)
    have he2 : RefEq (innerT t) x := ⟨he.1.trans hx'.1, by rw [← hx'.2]; show (barS t.FWraps).l.drop 1 = (barS t'.FWraps).l.drop 1; rw [he.bar]⟩
    have hxl : x.FWraps.l.length ≤ 1048576 := by
     rw [← hx'.2]; show ((barS t'.FWraps).l.drop 1).length ≤ _
     have := barS_len t'.FWraps
     simp; omega
    refine fits_loop (fun y hy => ?_) hnl F0 0 (by rw [F0_eq]; unfold bB at hnl; omega) (by omega)
    obtain ⟨j, hj⟩ := List.mem_iff_getElem?.1 hy
    obtain ⟨z, hz, hyz⟩ := hv.2.2.2.2.2.2.2.2.get hj
    obtain ⟨a, b, hp⟩ := hL.mem z (List.mem_of_getElem? hz)
    exact fits_ok k hp he2 hxl n y M (by omega) hyz
   ·have hk := leaf_kind hle
    rw [decide_eq_false (show ¬ v.FKind = 0 by rw [hv.1]; exact hk.1), cond_false, hli, decide_eq_false (show ¬ v.FKind = 5 by rw [hv.1]; exact hk.2.1)]
    exact fits_stop v x (Z18_n n) 4611686018427387903 0
   ·have hk6 : v.FKind = 6 := hv.1.trans h6
    rw [hk6, show decide ((6 : Int) = 0) = false from rfl, cond_false, hli, show decide ((6 : Int) = 5) = false from rfl]
    exact fits_stop v x (Z18_n n) 4611686018427387903 0
theorem done_is {w x : TValue} {e : Int} (h : Z14_q w e = some (x, 0)) : e = 0 ∧ value_Copy_q w = some x := by
 unfold Z14_q at h
 by_cases h0 : e = 0
 ·rw [decide_eq_true h0, Bool.not_true, cond_false] at h
  obtain ⟨y, e1, h⟩ := bindO_some h
  simp only [Option.some.injEq, Prod.mk.injEq] at h
  exact ⟨h0, by rw [e1, h.1]⟩
 ·rw [decide_eq_false h0, Bool.not_false, cond_true] at h
  simp only [Option.some.injEq, Prod.mk.injEq] at h
  exact absurd h.2 h0
theorem run_is {d : TDoc} {li : Bool} {t : TRef} {v x : TValue} (h : ((coerce_coercer_at_q ⟨d, zv, li, 0⟩ t v 1).bind fun x15 => (Z14_q x15.1 x15.2.1).bind fun x16 => some (x16.1, x16.2)) = some (x, 0)) :
  ∃ w c', coerce_coercer_at_qn F0 ⟨d, zv, li, 0⟩ t v 1 = some (w, 0, c') ∧ value_Copy_q w = some x := by
 obtain ⟨y, e1, h⟩ := bindO_some h
 obtain ⟨z, e2, h⟩ := bindO_some h
 simp only [Option.some.injEq, Prod.mk.injEq] at h
 obtain ⟨h0, h1⟩ := done_is (w := y.1) (e := y.2.1) (x := x) (by rw [e2, ← h.1, ← h.2])
 exact ⟨y.1, y.2.2, by unfold coerce_coercer_at_q at e1; rw [e1, ← h0], h1⟩
theorem settled {d : TDoc} (hD : ∀ s, DefOk nB (fnd d.FDefs.l s).1) {t : TRef} (ht : SOk t.FWraps) {li : Bool} {v w x : TValue} {c' : Coerce_coercer} (hv : Rl nB v v) (h : coerce_coercer_at_qn F0 ⟨d, zv, li, 0⟩ t v 1 = some (w, 0, c')) (hc : value_Copy_q w = some x) :
  (∃ y, Z1_q d t x = some (y, 0) ∧ Z30_q x y = some true) ∧ Z18 t x = some true := by
 obtain ⟨m, rfl, hm⟩ := at_nm hD F0 li 0 t v w 1 c' ht h
 have hm24 : Nm d 24 t w 1 0 m := hm.cut (by omega)
 have hrel := at_rel (by unfold nB; omega) hD 24 1 (by omega) (by omega) F0 F0 (by rw [F0_eq]; omega) (by rw [F0_eq]; omega) zv li 0 t t v v (zv_rl.mono (by unfold nB; omega)) (by omega) ht ⟨rfl, rfl⟩ hv
 have hw : Rl (nB + 25) w w := by
  rcases hrel with ⟨e, r, c', r', k', hne, p1, _⟩ | ⟨c', r, r', _, _, p1, p2, p3⟩
  ·rw [h] at p1
   simp only [Option.some.injEq, Prod.mk.injEq] at p1
   exact absurd p1.2.1.symm hne
  ·rw [h] at p1
   simp only [Option.some.injEq, Prod.mk.injEq] at p1
   rw [p1.1]; exact p3.left
 obtain ⟨x', e1, hx⟩ := copy_rl (nB + 25) hw F0 (by rw [F0_eq]; unfold nB; omega)
 have hxx : x' = x := by unfold value_Copy_q at hc; rw [e1] at hc; exact Option.some.inj hc
 subst hxx
 refine ⟨?_, fits_ok 24 hm24 ⟨rfl, rfl⟩ ht.2 F0 x' (nB + 25) (by rw [F0_eq]; omega) hx⟩
 obtain ⟨_, ha⟩ := again hD 24 t w 1 0 m hm24 (by omega) (by omega) ht
 obtain ⟨r, e2, hr⟩ := ha F0 x' (nB + 25) (by rw [F0_eq]; omega) (by unfold nB; omega) hx
 obtain ⟨y, e3, hy⟩ := copy_rl (nB + 25) hr F0 (by rw [F0_eq]; unfold nB; omega)
 refine ⟨y, ?_, equal_eq (hx.both hy) (by unfold nB; omega)⟩
 unfold Z1_q coerce_coercer_at_q
 show ((coerce_coercer_at_qn F0 ⟨d, zv, false, 0⟩ t x' 1).bind fun x5 => (Z14_q x5.1 x5.2.1).bind fun x6 => some (x6.1, x6.2)) = _
 rw [e2, Option.bind_some]
 unfold Z14_q value_Copy_q
 simp [e3]
theorem settles_eq (c : Supergraphlaw12_Case) (hs : c.sz ≤ 1048576) (hw : c.wf) : Z16 c = some true := by
 have hz := c.sz_def
 have hp3 := c.FVars.sz_def
 have q4 := Bs.sz_pos c.FVars.FText; have q5 := Sl.sz_pos TValue.sz c.FVars.FItems; have q6 := Sl.sz_pos Bs.sz c.FVars.FKeys
 have hc0 : (Supergraphlaw12_Case.mk c.FD c.FT c.FV zv).sz ≤ 1048576 := by
  rw [Supergraphlaw12_Case.sz_def]
  have e1 := zv.sz_def
  have e2 : zv.sz = 5 := by rw [e1]; simp [zv, TValue.FText, TValue.FItems, TValue.FKeys, Bs.sz, Sl.sz, Sl.nil]
  show 0 + c.FD.sz + c.FT.sz + c.FV.sz + zv.sz ≤ _
  omega
 obtain ⟨b1, e1, h1⟩ := right_spec ⟨c.FD, c.FT, c.FV, zv⟩ true hc0
 obtain ⟨b2, e2, h2⟩ := right_spec ⟨c.FD, c.FT, c.FV, zv⟩ false hc0
 have f1 : Z19 ⟨c.FD, c.FT, c.FV, TValue.mk (0 : Int) (0 : Int) ([] : Bs) true ([]) (Sl.nil : Sl Bs)⟩ true = some b1 := by rw [Z19_eq]; exact e1
 have f2 : Z19 ⟨c.FD, c.FT, c.FV, TValue.mk (0 : Int) (0 : Int) ([] : Bs) true ([]) (Sl.nil : Sl Bs)⟩ false = some b2 := by rw [Z19_eq]; exact e2
 have ht : Z38_q c.FD = some true → SOk c.FT.FWraps := fun _ => sok_wraps hw.2.1 (by omega)
 have ex : Z16_j11 = some true := by unfold Z16_j11; rw [example12]; rfl
 have hj : Z16_j10 c = some true := by
  unfold Z16_j10
  rw [f2, Option.bind_some]
  cases b2 with
  | false => exact ex
  | true =>
   obtain ⟨g1, g2, _, g3⟩ := h2 rfl
   have hd := doc_ok g1 hw.1 (by show c.FD.sz ≤ _; omega)
   have hv := right_rl (g3 rfl) hw.2.2.1 (by show c.FV.sz ≤ _; omega)
   obtain ⟨x, y, e, i1, i2, i3⟩ := input_rel (N := nB) nB_le hd (ht g1) hv
   have i1' : Z1 c.FD c.FT c.FV = some (x, e) := by rw [Z1_eq]; exact i1
   rw [cond_true, i1', Option.bind_some]
   by_cases h0 : e = 0
   ·subst h0
    rw [decide_eq_true rfl, cond_true]
    obtain ⟨w, c', k1, k2⟩ := run_is (li := false) (by unfold Z1_q at i1; exact i1)
    obtain ⟨⟨y2, s1, s2⟩, s3⟩ := settled hd (ht g1) hv k1 k2
    rw [Z1_eq, s1, Option.bind_some]
    simp only [decide_true, gT]
    rw [Z30_eq, s2, Option.bind_some]
    simp only [Bool.and_self, gT]
    rw [s3, Option.bind_some]
    simp only [Bool.and_self, gT]
    rw [example12]; rfl
   ·rw [decide_eq_false h0, cond_false]; exact ex
 unfold Z16
 rw [f1, f2, Option.bind_some]
 cases b1 with
 | false =>
  rw [Bool.not_false, gT, Option.bind_some]
  cases b2 with
  | false => rw [Bool.not_false, Bool.and_self, cond_true, example12]; rfl
  | true => rw [Bool.not_true, Bool.and_false, cond_false, Option.bind_some, gF, Bool.false_and, cond_false]; exact hj
 | true =>
  rw [Bool.not_true, gF, Bool.false_and, cond_false, Option.bind_some, gT, Option.bind_some, Bool.true_and]
  cases b2 with
  | false => exact hj
  | true =>
   obtain ⟨g1, g2, g3, _⟩ := h1 rfl
   have hd := doc_ok g1 hw.1 (by show c.FD.sz ≤ _; omega)
   have hv := literal_rl (g3 rfl) hw.2.2.1 (by show c.FV.sz ≤ _; omega)
   obtain ⟨x, y, e, i1, i2, i3⟩ := literal_rel (N := nB) (va := zv) nB_le hd (zv_rl.mono (by omega)) (ht g1) hv
   have i1' : Z2 c.FD c.FT c.FV (TValue.mk (0 : Int) (0 : Int) ([] : Bs) true ([]) (Sl.nil : Sl Bs)) = some (x, e) := by rw [Z2_eq]; exact i1
   rw [cond_true, i1', Option.bind_some]
   by_cases h0 : e = 0
   ·subst h0
    rw [decide_eq_true rfl, cond_true]
    have hrun : ∃ w c', coerce_coercer_at_qn F0 ⟨c.FD, zv, true, 0⟩ c.FT c.FV 1 = some (w, 0, c') ∧ value_Copy_q w = some x := by
     unfold Z2_q at i1
     obtain ⟨b, _, i1⟩ := bindO_some i1
     cases b with
     | true =>
      rw [cond_true] at i1
      simp only [Ab.on] at i1
      cases hI : Z51_q c.FD c.FT.FName <;> rw [hI] at i1 <;> simp at i1
     | false => rw [cond_false] at i1; exact run_is i1
    obtain ⟨w, c', k1, k2⟩ := hrun
    obtain ⟨⟨y2, s1, s2⟩, s3⟩ := settled hd (ht g1) hv k1 k2
    rw [Z1_eq, s1, Option.bind_some]
    simp only [decide_true, Bool.not_true, Bool.not_false, gT]
    rw [Z30_eq, s2, Option.bind_some]
    simp only [Bool.not_true, Bool.or_self, Bool.not_false, gT]
    rw [s3, Option.bind_some]
    exact hj
   ·rw [decide_eq_false h0, cond_false]; exact hj
end Go.Proofs

namespace Go.Proofs.YtjlggcgmmpopmaaDoor
open Go Go.Ab Go.RowKit Go.ChangeShapes Go.WideShapes Go.ChangeAt
variable {lou : Lou}
theorem bulkAll {H : Type} (l : List (DataW H)) : Rows.uptoBulkAll l = (l.map Rows.uptoBulk).sum := by
 induction l with
 | nil => rfl
 | cons x r ih => simp only [Rows.uptoBulkAll, List.map_cons, List.sum_cons, ih]
theorem bulkB {H : Type} : Bulk (H := H) Rows.uptoBulk := by
 refine ⟨fun d => ?_, fun b => by simp [Rows.uptoBulk], fun e s => by simp only [Rows.uptoBulk, bulkAll]; omega, fun l => by simp only [Rows.uptoBulk, bulkAll]; omega⟩
 cases d with
 | lit l => cases l <;> simp [Rows.uptoBulk]
 | nil => simp [Rows.uptoBulk]
 | ptr d => simp [Rows.uptoBulk]
 | slice elems spare => simp [Rows.uptoBulk]
 | agg parts => simp [Rows.uptoBulk]
 | iface t d => simp [Rows.uptoBulk]
 | map entries => simp [Rows.uptoBulk]
 | held h => simp [Rows.uptoBulk]
theorem own : ownKnob Tryd.prog.godebug = none := by kernel_rfl
theorem laid : laidOutB Tryd.prog = true := by kernel_rfl
theorem bound {H : Type} {l : List (DataW H)} (hk : Rows.uptoSmall H l = true) : Rows.uptoBulkAll l ≤ 1048576 := of_decide_eq_true hk
theorem table {W : World} (h : laidMet Tryd.prog Rows.coerceSettlesUptoRow.laid W) : ∃ u fr, W.heap[1]? = some (.cells (Lib.pow10Tab.map fun z => Value.int .u64 z).toArray u fr) :=
 tab_of (P := Tryd.prog) (name := "internal/strconv.uint64pow10") (g := 1) (t := 151) (e := 144) (n := 20) (by kernel_rfl) (by kernel_rfl) (by kernel_rfl) (by kernel_rfl) (by kernel_rfl) (by kernel_rfl) h
  (by rw [show (Lib.tabData .u64 Lib.pow10Tab : DataW Unit) = Rows.laid_internal_strconv_uint64pow10 from (by kernel_rfl)]; exact .tail _ (.tail _ (.head _)))
theorem isTab (u : TypeId) (fr : Nat × Nat) : IsTab Tryd.prog (.fix 1 (.cells (Lib.pow10Tab.map fun z => Value.int .u64 z).toArray u fr)) := .of (by kernel_rfl)
theorem settles_call (c : Supergraphlaw12_Case) (hs : c.sz ≤ 1048576) (hw : c.wf) (u : TypeId) (fr : Nat × Nat) : ACalls Tryd.prog 4 [.agg c.c] (hTab 1 (.cells (Lib.pow10Tab.map fun z => Value.int .u64 z).toArray u fr)) fun r h' => r = .a (.d (.bool true)) ∧ h' = hTab 1 (.cells (Lib.pow10Tab.map fun z => Value.int .u64 z).toArray u fr) :=
 Z16_walk (settles_eq c hs hw) _ (gT := 0) rfl (isTab u fr)
end Go.Proofs.YtjlggcgmmpopmaaDoor

