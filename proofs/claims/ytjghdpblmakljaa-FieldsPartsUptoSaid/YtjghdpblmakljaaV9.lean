import Derived.Test.YtjghdpblmakljaaV8
import Derived.Test.YtjghdpblmakljaaRows
set_option linter.unusedVariables false
set_option linter.unusedSimpArgs false
namespace Go.Proofs
open Go Go.Ab
/-! The references' conditions on documents always have an answer. -/
theorem r05_Right_loop (a : TRef) (ha : a.FWraps.l.length ≤ 1048576) (l : List Int) (i : Nat) (h : i + l.length = a.FWraps.l.length) : Ok (r05_Right_q10 a l i) := by
  induction l generalizing i with
  | nil => exact Tot.some _
  | cons x r ih =>
    simp only [List.length_cons] at h
    have hr := ih (i + 1) (by omega)
    rw [r05_Right_q10]
    simp only [on]
    refine Tot.cond (fun _ => Tot.some _) fun _ => ?_
    by_cases hi : 0 < i
    · have h1 : decide ((0 : Int) < ((i : Nat) : Int)) = true := by simpa using hi
      obtain ⟨v, hv⟩ := idxC_ok (l := a.FWraps.l) (n := (i : Int) - 1) (by omega)
      simp only [h1, cond_true, Bool.true_and, subC_ok (a := (i : Int)) (b := 1) (by omega)]
      cases decide (x = 1) <;> simp only [guardO, hv, if_true, Option.bind_some, Bool.false_eq_true, if_false, Bool.false_and, cond_false]
      · exact hr
      · (repeat' (first | exact Tot.some _ | assumption | (with_reducible refine Tot.bind ?_ fun _ _ => ?_) | (with_reducible refine Tot.guard (fun _ => ?_) fun _ _ _ => ?_) | (with_reducible refine Tot.cond (fun _ => ?_) fun _ => ?_) | (with_reducible refine Tot.on fun _ _ => ?_) | split))
    · have h1 : decide ((0 : Int) < ((i : Nat) : Int)) = false := by simpa using hi
      simp only [h1, Bool.false_and, guardO, Bool.false_eq_true, if_false, cond_false]
      exact hr
theorem r05_Right_ok (a : TRef) (ha : a.FWraps.l.length ≤ 1048576) : Ok (r05_Right_q a) := by
  unfold r05_Right_q
  (repeat' (first | exact Tot.some _ | assumption | (with_reducible refine Tot.bind ?_ fun _ _ => ?_) | (with_reducible refine Tot.guard (fun _ => ?_) fun _ _ _ => ?_) | (with_reducible refine Tot.cond (fun _ => ?_) fun _ => ?_) | (with_reducible refine Tot.on fun _ _ => ?_) | split))
  exact r05_Right_loop a ha _ _ (by simp)
theorem r02_Size_loop (k : TValue → Option Int) (l : List TValue) (s : Int) (hk : ∀ x ∈ l, ∃ r, k x = some r ∧ 1 ≤ r ∧ r ≤ x.sz) (hs : 0 ≤ s) (hb : s + ((l.map TValue.sz).sum : Nat) ≤ 1152921504606846976) : ∃ r, r02_Size_q7 k l s = some r ∧ s ≤ r ∧ r ≤ s + ((l.map TValue.sz).sum : Nat) := by
  induction l generalizing s with
  | nil => exact ⟨s, rfl, by simp, by simp⟩
  | cons x r ih =>
    obtain ⟨v, h1, h2, h3⟩ := hk x List.mem_cons_self
    simp only [List.map_cons, List.sum_cons] at hb ⊢
    rw [r02_Size_q7]
    simp only [on, h1, Option.bind_some]
    rw [addC_ok (by omega)]
    simp only [Option.bind_some]
    obtain ⟨w, h4, h5, h6⟩ := ih (s + v) (fun y hy => hk y (List.mem_cons_of_mem _ hy)) (by omega) (by omega)
    exact ⟨w, h4, by omega, by omega⟩
theorem TValue.item_lt {v x : TValue} (h : x ∈ v.FItems.l) : x.sz < v.sz := by
  have h1 := v.sz_def; have h2 := Sl.mem_le (f := TValue.sz) h; omega
theorem TValue.items_sum (v : TValue) : 2 + (v.FItems.l.map TValue.sz).sum ≤ v.sz := by
  have h1 := v.sz_def; have h2 : Sl.sz TValue.sz v.FItems = 1 + (v.FItems.l.map TValue.sz).sum := rfl; omega
theorem r02_Size_tot (n : Nat) : ∀ v : TValue, v.sz < n → v.sz ≤ 1073741824 → ∃ r, r02_Size_qn n v = some r ∧ 1 ≤ r ∧ r ≤ v.sz := by
  induction n with
  | zero => intro v h; omega
  | succ n ih =>
    intro v h hb
    have h0 := v.items_sum
    obtain ⟨w, h4, h5, h6⟩ := r02_Size_loop (r02_Size_qn n) v.FItems.l 1 (fun x hx => by have := TValue.item_lt hx; exact ih x (by omega) (by omega)) (by omega) (by omega)
    rw [r02_Size_qn, h4]
    exact ⟨w, rfl, by omega, by omega⟩
theorem r02_Size_ok (v : TValue) (h : v.sz ≤ 1048576) : ∃ r, r02_Size_q v = some r ∧ 1 ≤ r ∧ r ≤ v.sz := r02_Size_tot F0 v (by rw [F0_eq]; omega) (by omega)
theorem r02_Depth_loop (k : TValue → Option Int) (l : List TValue) (s b : Int) (hk : ∀ x ∈ l, ∃ r, k x = some r ∧ 1 ≤ r ∧ r ≤ b) (hs : 0 ≤ s ∧ s ≤ b) : ∃ r, r02_Depth_q8 k l s = some r ∧ 0 ≤ r ∧ r ≤ b := by
  induction l generalizing s with
  | nil => exact ⟨s, rfl, by omega, by omega⟩
  | cons x r ih =>
    obtain ⟨v, h1, h2, h3⟩ := hk x List.mem_cons_self
    rw [r02_Depth_q8]
    simp only [on, h1, Option.bind_some]
    exact ih _ (fun y hy => hk y (List.mem_cons_of_mem _ hy)) (by split <;> omega)
theorem r02_Depth_tot (n : Nat) : ∀ v : TValue, v.sz < n → v.sz ≤ 1073741824 → ∃ r, r02_Depth_qn n v = some r ∧ 1 ≤ r ∧ r ≤ v.sz := by
  induction n with
  | zero => intro v h; omega
  | succ n ih =>
    intro v h hb
    have h0 := v.items_sum
    obtain ⟨w, h4, h5, h6⟩ := r02_Depth_loop (r02_Depth_qn n) v.FItems.l 0 (v.sz - 1 : Nat) (fun x hx => by have := TValue.item_lt hx; obtain ⟨r, h7, h8, h9⟩ := ih x (by omega) (by omega); exact ⟨r, h7, h8, by omega⟩) (by omega)
    rw [r02_Depth_qn, h4]
    simp only [on, Option.bind_some]
    rw [addC_ok (by omega)]
    exact ⟨w + 1, rfl, by omega, by omega⟩
theorem r02_Depth_ok (v : TValue) (h : v.sz ≤ 1048576) : Ok (r02_Depth_q v) := by
  obtain ⟨r, hr, _⟩ := r02_Depth_tot F0 v (by rw [F0_eq]; omega) (by omega); exact ⟨r, hr⟩
theorem r02_twice_in (a : Sl Bs) (x : Bs) (m i : Nat) (h : i + m ≤ a.l.length) : Ok (r02_twice_q13 a x m i) := by
  induction m generalizing i with
  | zero => exact Tot.some _
  | succ m ih =>
    rw [r02_twice_q13]
    (repeat' (first | exact Tot.some _ | assumption | (with_reducible refine Tot.bind ?_ fun _ _ => ?_) | (with_reducible refine Tot.guard (fun _ => ?_) fun _ _ _ => ?_) | (with_reducible refine Tot.cond (fun _ => ?_) fun _ => ?_) | (with_reducible refine Tot.on fun _ _ => ?_) | split))
    · exact get_ok (by omega)
    · exact ih _ (by omega)
theorem r02_twice_out (a : Sl Bs) (l : List Bs) (i : Nat) (h : i + l.length = a.l.length) : Ok (r02_twice_q5 a l i) := by
  induction l generalizing i with
  | nil => exact Tot.some _
  | cons x r ih =>
    simp only [List.length_cons] at h
    rw [r02_twice_q5]
    (repeat' (first | exact Tot.some _ | assumption | (with_reducible refine Tot.bind ?_ fun _ _ => ?_) | (with_reducible refine Tot.guard (fun _ => ?_) fun _ _ _ => ?_) | (with_reducible refine Tot.cond (fun _ => ?_) fun _ => ?_) | (with_reducible refine Tot.on fun _ _ => ?_) | split))
    · exact r02_twice_in a x _ _ (by omega)
    · exact ih _ (by omega)
theorem r02_twice_ok (a : Sl Bs) : Ok (r02_twice_q a) := by
  unfold r02_twice_q
  (repeat' (first | exact Tot.some _ | assumption | (with_reducible refine Tot.bind ?_ fun _ _ => ?_) | (with_reducible refine Tot.guard (fun _ => ?_) fun _ _ _ => ?_) | (with_reducible refine Tot.cond (fun _ => ?_) fun _ => ?_) | (with_reducible refine Tot.on fun _ _ => ?_) | split))
  exact r02_twice_out a _ _ (by simp)
theorem r02_node_ok (v : TValue) (b : Bool) : Ok (r02_node_q v b) := by
  unfold r02_node_q
  (repeat' (first | exact Tot.some _ | assumption | (with_reducible refine Tot.bind ?_ fun _ _ => ?_) | (with_reducible refine Tot.guard (fun _ => ?_) fun _ _ _ => ?_) | (with_reducible refine Tot.cond (fun _ => ?_) fun _ => ?_) | (with_reducible refine Tot.on fun _ _ => ?_) | split))
  exact r02_twice_ok _
theorem r02_whole_loop (b : Bool) (k : TValue → Bool → Option Bool) (l : List TValue) (hk : ∀ x ∈ l, Ok (k x b)) : Ok (r02_whole_q11 b k l) := by
  induction l with
  | nil => exact Tot.some _
  | cons x r ih =>
    rw [r02_whole_q11]
    (repeat' (first | exact Tot.some _ | assumption | (with_reducible refine Tot.bind ?_ fun _ _ => ?_) | (with_reducible refine Tot.guard (fun _ => ?_) fun _ _ _ => ?_) | (with_reducible refine Tot.cond (fun _ => ?_) fun _ => ?_) | (with_reducible refine Tot.on fun _ _ => ?_) | split))
    · rename_i h; rw [h]; exact hk x List.mem_cons_self
    · exact ih fun y hy => hk y (List.mem_cons_of_mem _ hy)
theorem r02_whole_tot (n : Nat) : ∀ (v : TValue) (b : Bool), v.sz < n → Ok (r02_whole_qn n v b) := by
  induction n with
  | zero => intro v b h; omega
  | succ n ih =>
    intro v b h
    rw [r02_whole_qn]
    (repeat' (first | exact Tot.some _ | assumption | (with_reducible refine Tot.bind ?_ fun _ _ => ?_) | (with_reducible refine Tot.guard (fun _ => ?_) fun _ _ _ => ?_) | (with_reducible refine Tot.cond (fun _ => ?_) fun _ => ?_) | (with_reducible refine Tot.on fun _ _ => ?_) | split))
    · exact r02_node_ok _ _
    · exact r02_whole_loop b _ _ fun x hx => ih x b (by have := TValue.item_lt hx; omega)
theorem r02_Literal_ok (v : TValue) (h : v.sz ≤ 1048576) : Ok (r02_Literal_q v) := by
  unfold r02_Literal_q
  obtain ⟨r, hr, _⟩ := r02_Size_ok v h
  (repeat' (first | exact Tot.some _ | assumption | (with_reducible refine Tot.bind ?_ fun _ _ => ?_) | (with_reducible refine Tot.guard (fun _ => ?_) fun _ _ _ => ?_) | (with_reducible refine Tot.cond (fun _ => ?_) fun _ => ?_) | (with_reducible refine Tot.on fun _ _ => ?_) | split))
  · exact ⟨r, hr⟩
  · exact r02_Depth_ok v h
  · exact r02_whole_tot F0 v true (by rw [F0_eq]; omega)
theorem r06_closed_loop (k : TValue → Option Bool) (l : List TValue) (hk : ∀ x ∈ l, Ok (k x)) : Ok (r06_closed_q5 k l) := by
  induction l with
  | nil => exact Tot.some _
  | cons x r ih =>
    rw [r06_closed_q5]
    (repeat' (first | exact Tot.some _ | assumption | (with_reducible refine Tot.bind ?_ fun _ _ => ?_) | (with_reducible refine Tot.guard (fun _ => ?_) fun _ _ _ => ?_) | (with_reducible refine Tot.cond (fun _ => ?_) fun _ => ?_) | (with_reducible refine Tot.on fun _ _ => ?_) | split))
    · rename_i h; rw [h]; exact hk x List.mem_cons_self
    · exact ih fun y hy => hk y (List.mem_cons_of_mem _ hy)
theorem r06_closed_tot (n : Nat) : ∀ (v : TValue), v.sz < n → Ok (r06_closed_qn n v) := by
  induction n with
  | zero => intro v h; omega
  | succ n ih =>
    intro v h
    rw [r06_closed_qn]
    (repeat' (first | exact Tot.some _ | assumption | (with_reducible refine Tot.bind ?_ fun _ _ => ?_) | (with_reducible refine Tot.guard (fun _ => ?_) fun _ _ _ => ?_) | (with_reducible refine Tot.cond (fun _ => ?_) fun _ => ?_) | (with_reducible refine Tot.on fun _ _ => ?_) | split))
    exact r06_closed_loop _ _ fun x hx => ih x (by have := TValue.item_lt hx; omega)
theorem r06_closed_ok (v : TValue) (h : v.sz ≤ 1048576) : Ok (r06_closed_q v) := r06_closed_tot F0 v (by rw [F0_eq]; omega)
theorem TArg.value_le (a : TArg) : a.FValue.sz ≤ a.sz := by have := a.sz_def; omega
theorem TDir.arg_le {x : TDir} {a : TArg} (h : a ∈ x.FArgs.l) : a.sz ≤ x.sz := by have := x.sz_def; have := Sl.mem_le (f := TArg.sz) h; omega
theorem r06_dirsRight_in (h10 : TDir) (l : List TArg) (h : ∀ a ∈ l, a.sz ≤ 1048576) : Ok (r06_dirsRight_q25 h10 l) := by
  induction l with
  | nil => exact Tot.some _
  | cons x r ih =>
    have h1 := h x List.mem_cons_self; have h2 := x.value_le
    rw [r06_dirsRight_q25]
    (repeat' (first | exact Tot.some _ | assumption | (with_reducible refine Tot.bind ?_ fun _ _ => ?_) | (with_reducible refine Tot.guard (fun _ => ?_) fun _ _ _ => ?_) | (with_reducible refine Tot.cond (fun _ => ?_) fun _ => ?_) | (with_reducible refine Tot.on fun _ _ => ?_) | split))
    all_goals first | exact ih fun y hy => h y (List.mem_cons_of_mem _ hy) | (subst_vars; first | exact r02_Literal_ok _ (by omega) | exact r06_closed_ok _ (by omega))
theorem r06_dirsRight_loop (l : List TDir) (h : ∀ a ∈ l, a.sz ≤ 1048576) : Ok (r06_dirsRight_q10 l) := by
  induction l with
  | nil => exact Tot.some _
  | cons x r ih =>
    have h1 := h x List.mem_cons_self
    rw [r06_dirsRight_q10]
    (repeat' (first | exact Tot.some _ | assumption | (with_reducible refine Tot.bind ?_ fun _ _ => ?_) | (with_reducible refine Tot.guard (fun _ => ?_) fun _ _ _ => ?_) | (with_reducible refine Tot.cond (fun _ => ?_) fun _ => ?_) | (with_reducible refine Tot.on fun _ _ => ?_) | split))
    · exact r06_dirsRight_in x _ fun a ha => by have := TDir.arg_le ha; omega
    · exact ih fun y hy => h y (List.mem_cons_of_mem _ hy)
theorem r06_dirsRight_ok (s : Sl TDir) (h : Sl.sz TDir.sz s ≤ 1048576) : Ok (r06_dirsRight_q s) := by
  unfold r06_dirsRight_q
  (repeat' (first | exact Tot.some _ | assumption | (with_reducible refine Tot.bind ?_ fun _ _ => ?_) | (with_reducible refine Tot.guard (fun _ => ?_) fun _ _ _ => ?_) | (with_reducible refine Tot.cond (fun _ => ?_) fun _ => ?_) | (with_reducible refine Tot.on fun _ _ => ?_) | split))
  exact r06_dirsRight_loop _ fun a ha => by have := Sl.mem_le (f := TDir.sz) ha; omega
theorem TRef.wraps_le (r : TRef) : r.FWraps.l.length ≤ r.sz := by have := r.sz_def; have := Sl.len_le (f := fun _ : Int => 1) r.FWraps (fun _ => Nat.le_refl _); omega
theorem r06_inputsRight_loop (l : List TInput) (h : ∀ a ∈ l, a.sz ≤ 1048576) : Ok (r06_inputsRight_q10 l) := by
  induction l with
  | nil => exact Tot.some _
  | cons x r ih =>
    have h1 := h x List.mem_cons_self; have h2 := x.sz_def; have h3 := x.FType.wraps_le
    rw [r06_inputsRight_q10]
    (repeat' (first | exact Tot.some _ | assumption | (with_reducible refine Tot.bind ?_ fun _ _ => ?_) | (with_reducible refine Tot.guard (fun _ => ?_) fun _ _ _ => ?_) | (with_reducible refine Tot.cond (fun _ => ?_) fun _ => ?_) | (with_reducible refine Tot.on fun _ _ => ?_) | split))
    all_goals first | exact ih fun y hy => h y (List.mem_cons_of_mem _ hy) | (subst_vars; first | exact r05_Right_ok _ (by omega) | exact r06_dirsRight_ok _ (by omega) | exact r02_Literal_ok _ (by omega) | exact r06_closed_ok _ (by omega))
theorem r06_inputsRight_ok (s : Sl TInput) (h : Sl.sz TInput.sz s ≤ 1048576) : Ok (r06_inputsRight_q s) := by
  unfold r06_inputsRight_q
  (repeat' (first | exact Tot.some _ | assumption | (with_reducible refine Tot.bind ?_ fun _ _ => ?_) | (with_reducible refine Tot.guard (fun _ => ?_) fun _ _ _ => ?_) | (with_reducible refine Tot.cond (fun _ => ?_) fun _ => ?_) | (with_reducible refine Tot.on fun _ _ => ?_) | split))
  exact r06_inputsRight_loop _ fun a ha => by have := Sl.mem_le (f := TInput.sz) ha; omega
theorem r06_fieldsRight_loop (l : List TField) (h : ∀ a ∈ l, a.sz ≤ 1048576) : Ok (r06_fieldsRight_q10 l) := by
  induction l with
  | nil => exact Tot.some _
  | cons x r ih =>
    have h1 := h x List.mem_cons_self; have h2 := x.sz_def; have h3 := x.FType.wraps_le
    have hz : TField.zero.FType.FWraps.l.length ≤ 1048576 := by decide
    rw [r06_fieldsRight_q10]
    simp only [on]
    cases r01_Name_q x.FName <;> simp only [Bool.not_true, Bool.not_false, cond_true, cond_false, Bool.or_false, Bool.or_true, Bool.true_or, Bool.false_or]
    · simp [guardO]; exact Tot.some _
    · obtain ⟨b1, e1⟩ := r06_inputsRight_ok x.FArgs (by omega)
      obtain ⟨b2, e2⟩ := r05_Right_ok x.FType (by omega)
      obtain ⟨b3, e3⟩ := r06_dirsRight_ok x.FDirs (by omega)
      have hr := ih fun y hy => h y (List.mem_cons_of_mem _ hy)
      cases b1 <;> cases b2 <;> cases b3 <;> simp [guardO, e1, e2, e3] <;> first | exact Tot.some _ | exact hr
theorem r06_fieldsRight_ok (s : Sl TField) (h : Sl.sz TField.sz s ≤ 1048576) : Ok (r06_fieldsRight_q s) := by
  unfold r06_fieldsRight_q
  (repeat' (first | exact Tot.some _ | assumption | (with_reducible refine Tot.bind ?_ fun _ _ => ?_) | (with_reducible refine Tot.guard (fun _ => ?_) fun _ _ _ => ?_) | (with_reducible refine Tot.cond (fun _ => ?_) fun _ => ?_) | (with_reducible refine Tot.on fun _ _ => ?_) | split))
  exact r06_fieldsRight_loop _ fun a ha => by have := Sl.mem_le (f := TField.sz) ha; omega
theorem r06_membersRight_loop (b : Bool) (l : List TMember) (h : ∀ a ∈ l, a.sz ≤ 1048576) : Ok (r06_membersRight_q10 b l) := by
  induction l with
  | nil => exact Tot.some _
  | cons x r ih =>
    have h1 := h x List.mem_cons_self; have h2 := x.sz_def
    rw [r06_membersRight_q10]
    simp only [on]
    cases r01_Name_q x.FName <;> simp only [Bool.not_true, Bool.not_false, cond_true, cond_false, Bool.or_false, Bool.or_true, Bool.true_or, Bool.false_or]
    · simp [guardO]; exact Tot.some _
    · obtain ⟨b3, e3⟩ := r06_dirsRight_ok x.FDirs (by omega)
      have hr := ih fun y hy => h y (List.mem_cons_of_mem _ hy)
      simp only [guardO, e3, if_true, Option.bind_some]
      (repeat' (first | exact Tot.some _ | assumption | (with_reducible refine Tot.bind ?_ fun _ _ => ?_) | (with_reducible refine Tot.guard (fun _ => ?_) fun _ _ _ => ?_) | (with_reducible refine Tot.cond (fun _ => ?_) fun _ => ?_) | (with_reducible refine Tot.on fun _ _ => ?_) | split))
theorem r06_membersRight_ok (s : Sl TMember) (b : Bool) (h : Sl.sz TMember.sz s ≤ 1048576) : Ok (r06_membersRight_q s b) := by
  unfold r06_membersRight_q
  (repeat' (first | exact Tot.some _ | assumption | (with_reducible refine Tot.bind ?_ fun _ _ => ?_) | (with_reducible refine Tot.guard (fun _ => ?_) fun _ _ _ => ?_) | (with_reducible refine Tot.cond (fun _ => ?_) fun _ => ?_) | (with_reducible refine Tot.on fun _ _ => ?_) | split))
  exact r06_membersRight_loop _ _ fun a ha => by have := Sl.mem_le (f := TMember.sz) ha; omega
theorem r06_defRight_ok (x : TDef) (h : x.sz ≤ 1048576) : Ok (r06_defRight_q x) := by
  have h2 := x.sz_def
  unfold r06_defRight_q
  (repeat' (first | exact Tot.some _ | assumption | (with_reducible refine Tot.bind ?_ fun _ _ => ?_) | (with_reducible refine Tot.guard (fun _ => ?_) fun _ _ _ => ?_) | (with_reducible refine Tot.cond (fun _ => ?_) fun _ => ?_) | (with_reducible refine Tot.on fun _ _ => ?_) | split))
  all_goals first | exact r06_dirsRight_ok _ (by omega) | exact r06_fieldsRight_ok _ (by omega) | exact r06_membersRight_ok _ _ (by omega) | exact r06_inputsRight_ok _ (by omega)
theorem r06_Right_loop (l : List TDef) (h : ∀ a ∈ l, a.sz ≤ 1048576) : Ok (r06_Right_q10 l) := by
  induction l with
  | nil => exact Tot.some _
  | cons x r ih =>
    rw [r06_Right_q10]
    (repeat' (first | exact Tot.some _ | assumption | (with_reducible refine Tot.bind ?_ fun _ _ => ?_) | (with_reducible refine Tot.guard (fun _ => ?_) fun _ _ _ => ?_) | (with_reducible refine Tot.cond (fun _ => ?_) fun _ => ?_) | (with_reducible refine Tot.on fun _ _ => ?_) | split))
    · subst_vars; exact r06_defRight_ok _ (h _ List.mem_cons_self)
    · exact ih fun y hy => h y (List.mem_cons_of_mem _ hy)
theorem TDoc.def_le {d : TDoc} {x : TDef} (h : x ∈ d.FDefs.l) : x.sz ≤ d.sz := by have := d.sz_def; have := Sl.mem_le (f := TDef.sz) h; omega
theorem r06_Right_ok (d : TDoc) (h : d.sz ≤ 1048576) : Ok (r06_Right_q d) := by
  unfold r06_Right_q
  (repeat' (first | exact Tot.some _ | assumption | (with_reducible refine Tot.bind ?_ fun _ _ => ?_) | (with_reducible refine Tot.guard (fun _ => ?_) fun _ _ _ => ?_) | (with_reducible refine Tot.cond (fun _ => ?_) fun _ => ?_) | (with_reducible refine Tot.on fun _ _ => ?_) | split))
  exact r06_Right_loop _ fun a ha => by have := TDoc.def_le ha; omega
end Go.Proofs

namespace Go.Proofs
open Go Go.Ab
theorem r08_constant_loop (k : TValue → Option Bool) (l : List TValue) (hk : ∀ x ∈ l, Ok (k x)) : Ok (r08_constant_q5 k l) := by
  induction l with
  | nil => exact Tot.some _
  | cons x r ih =>
    rw [r08_constant_q5]
    (repeat' (first | exact Tot.some _ | assumption | (with_reducible refine Tot.bind ?_ fun _ _ => ?_) | (with_reducible refine Tot.guard (fun _ => ?_) fun _ _ _ => ?_) | (with_reducible refine Tot.cond (fun _ => ?_) fun _ => ?_) | (with_reducible refine Tot.on fun _ _ => ?_) | split))
    · rename_i h; rw [h]; exact hk x List.mem_cons_self
    · exact ih fun y hy => hk y (List.mem_cons_of_mem _ hy)
theorem r08_constant_tot (n : Nat) : ∀ (v : TValue), v.sz < n → Ok (r08_constant_qn n v) := by
  induction n with
  | zero => intro v h; omega
  | succ n ih =>
    intro v h
    rw [r08_constant_qn]
    (repeat' (first | exact Tot.some _ | assumption | (with_reducible refine Tot.bind ?_ fun _ _ => ?_) | (with_reducible refine Tot.guard (fun _ => ?_) fun _ _ _ => ?_) | (with_reducible refine Tot.cond (fun _ => ?_) fun _ => ?_) | (with_reducible refine Tot.on fun _ _ => ?_) | split))
    exact r08_constant_loop _ _ fun x hx => ih x (by have := TValue.item_lt hx; omega)
theorem r08_constant_ok (v : TValue) (h : v.sz ≤ 1048576) : Ok (r08_constant_q v) := r08_constant_tot F0 v (by rw [F0_eq]; omega)
theorem r08_varsRight_loop (l : List TVar) (h : ∀ a ∈ l, a.sz ≤ 1048576) : Ok (r08_varsRight_q6 l) := by
  induction l with
  | nil => exact Tot.some _
  | cons x r ih =>
    have h1 := h x List.mem_cons_self; have h2 := x.sz_def; have h3 := x.FType.wraps_le
    have hr := ih fun y hy => h y (List.mem_cons_of_mem _ hy)
    rw [r08_varsRight_q6]
    (repeat' (first | exact Tot.some _ | assumption | (with_reducible refine Tot.bind ?_ fun _ _ => ?_) | (with_reducible refine Tot.guard (fun _ => ?_) fun _ _ _ => ?_) | (with_reducible refine Tot.cond (fun _ => ?_) fun _ => ?_) | (with_reducible refine Tot.on fun _ _ => ?_) | split))
    all_goals (subst_vars; first | exact r05_Right_ok _ (by omega) | exact r02_Literal_ok _ (by omega) | exact r08_constant_ok _ (by omega))
theorem r08_varsRight_ok (s : Sl TVar) (h : Sl.sz TVar.sz s ≤ 1048576) : Ok (r08_varsRight_q s) := by
  unfold r08_varsRight_q
  (repeat' (first | exact Tot.some _ | assumption | (with_reducible refine Tot.bind ?_ fun _ _ => ?_) | (with_reducible refine Tot.guard (fun _ => ?_) fun _ _ _ => ?_) | (with_reducible refine Tot.cond (fun _ => ?_) fun _ => ?_) | (with_reducible refine Tot.on fun _ _ => ?_) | split))
  exact r08_varsRight_loop _ fun a ha => by have := Sl.mem_le (f := TVar.sz) ha; omega
theorem r08_argsRight_loop (l : List TArg) (h : ∀ a ∈ l, a.sz ≤ 1048576) : Ok (r08_argsRight_q6 l) := by
  induction l with
  | nil => exact Tot.some _
  | cons x r ih =>
    have h1 := h x List.mem_cons_self; have h2 := x.value_le
    have hr := ih fun y hy => h y (List.mem_cons_of_mem _ hy)
    obtain ⟨b, e⟩ := r02_Literal_ok x.FValue (by omega)
    rw [r08_argsRight_q6]
    simp only [on]
    cases r01_Name_q x.FName <;> simp only [guardO, e, Bool.not_true, Bool.not_false, cond_true, cond_false, Bool.or_false, Bool.or_true, Bool.true_or, Bool.false_or, if_true, Bool.false_eq_true, if_false, Option.bind_some]
    · exact Tot.some _
    · (repeat' (first | exact Tot.some _ | assumption | (with_reducible refine Tot.bind ?_ fun _ _ => ?_) | (with_reducible refine Tot.guard (fun _ => ?_) fun _ _ _ => ?_) | (with_reducible refine Tot.cond (fun _ => ?_) fun _ => ?_) | (with_reducible refine Tot.on fun _ _ => ?_) | split))
theorem r08_argsRight_ok (s : Sl TArg) (h : Sl.sz TArg.sz s ≤ 1048576) : Ok (r08_argsRight_q s) := by
  unfold r08_argsRight_q
  (repeat' (first | exact Tot.some _ | assumption | (with_reducible refine Tot.bind ?_ fun _ _ => ?_) | (with_reducible refine Tot.guard (fun _ => ?_) fun _ _ _ => ?_) | (with_reducible refine Tot.cond (fun _ => ?_) fun _ => ?_) | (with_reducible refine Tot.on fun _ _ => ?_) | split))
  exact r08_argsRight_loop _ fun a ha => by have := Sl.mem_le (f := TArg.sz) ha; omega
theorem r08_dirsRight_loop (l : List TDir) (h : ∀ a ∈ l, a.sz ≤ 1048576) : Ok (r08_dirsRight_q6 l) := by
  induction l with
  | nil => exact Tot.some _
  | cons x r ih =>
    have h1 := h x List.mem_cons_self; have h2 := x.sz_def
    have hr := ih fun y hy => h y (List.mem_cons_of_mem _ hy)
    obtain ⟨b, e⟩ := r08_argsRight_ok x.FArgs (by omega)
    rw [r08_dirsRight_q6]
    simp only [on]
    cases r01_Name_q x.FName <;> simp only [guardO, e, Bool.not_true, Bool.not_false, cond_true, cond_false, Bool.or_false, Bool.or_true, Bool.true_or, Bool.false_or, if_true, Bool.false_eq_true, if_false, Option.bind_some]
    · exact Tot.some _
    · (repeat' (first | exact Tot.some _ | assumption | (with_reducible refine Tot.bind ?_ fun _ _ => ?_) | (with_reducible refine Tot.guard (fun _ => ?_) fun _ _ _ => ?_) | (with_reducible refine Tot.cond (fun _ => ?_) fun _ => ?_) | (with_reducible refine Tot.on fun _ _ => ?_) | split))
theorem r08_dirsRight_ok (s : Sl TDir) (h : Sl.sz TDir.sz s ≤ 1048576) : Ok (r08_dirsRight_q s) := by
  unfold r08_dirsRight_q
  (repeat' (first | exact Tot.some _ | assumption | (with_reducible refine Tot.bind ?_ fun _ _ => ?_) | (with_reducible refine Tot.guard (fun _ => ?_) fun _ _ _ => ?_) | (with_reducible refine Tot.cond (fun _ => ?_) fun _ => ?_) | (with_reducible refine Tot.on fun _ _ => ?_) | split))
  exact r08_dirsRight_loop _ fun a ha => by have := Sl.mem_le (f := TDir.sz) ha; omega
theorem r08_sels_loop (i : Int) (k : TSel → Int → Option Bool) (l : List TSel) (hk : ∀ x ∈ l, Ok (k x i)) : Ok (r08_selsRight_q10 i k l) := by
  induction l with
  | nil => exact Tot.some _
  | cons x r ih =>
    have hr := ih fun y hy => hk y (List.mem_cons_of_mem _ hy)
    rw [r08_selsRight_q10]
    (repeat' (first | exact Tot.some _ | assumption | (with_reducible refine Tot.bind ?_ fun _ _ => ?_) | (with_reducible refine Tot.guard (fun _ => ?_) fun _ _ _ => ?_) | (with_reducible refine Tot.cond (fun _ => ?_) fun _ => ?_) | (with_reducible refine Tot.on fun _ _ => ?_) | split))
    rename_i h; rw [h]; exact hk x List.mem_cons_self
theorem TSel.sels_lt {s x : TSel} (h : x ∈ s.FSels.l) : x.sz < Sl.sz TSel.sz s.FSels ∧ Sl.sz TSel.sz s.FSels < s.sz := by
  have h1 := s.sz_def; have h2 := Sl.mem_le (f := TSel.sz) h; have := Bs.sz_pos s.FAlias; omega
theorem TSel.sub_lt (s : TSel) : Sl.sz TSel.sz s.FSels < s.sz := by
  have h1 := s.sz_def; have := Bs.sz_pos s.FAlias; omega
theorem r08_sels_tot (n : Nat) : (∀ (s : Sl TSel) (i : Int), Sl.sz TSel.sz s ≤ 1048576 → 2 * Sl.sz TSel.sz s < n → 0 ≤ i → i ≤ 25 → Ok (r08_selsRight_qn n s i)) ∧ (∀ (s : TSel) (i : Int), s.sz ≤ 1048576 → 2 * s.sz < n → 0 ≤ i → i ≤ 24 → Ok (r08_selRight_qn n s i)) := by
  induction n with
  | zero => exact ⟨fun s i _ h => by omega, fun s i _ h => by omega⟩
  | succ n ih =>
    refine ⟨fun s i hs h h0 h1 => ?_, fun s i hs h h0 h1 => ?_⟩
    · rw [r08_selsRight_qn]
      refine Tot.cond (fun _ => Tot.some _) fun hc => ?_
      simp only [Bool.or_eq_false_iff, decide_eq_false_iff_not] at hc
      (repeat' (first | exact Tot.some _ | assumption | (with_reducible refine Tot.bind ?_ fun _ _ => ?_) | (with_reducible refine Tot.guard (fun _ => ?_) fun _ _ _ => ?_) | (with_reducible refine Tot.cond (fun _ => ?_) fun _ => ?_) | (with_reducible refine Tot.on fun _ _ => ?_) | split))
      exact r08_sels_loop _ _ _ fun x hx => ih.2 x i (by have := Sl.mem_le (f := TSel.sz) hx; omega) (by have := Sl.mem_le (f := TSel.sz) hx; omega) h0 (by omega)
    · have h2 := s.sz_def
      have h3 := s.sub_lt
      obtain ⟨b1, e1⟩ := r08_dirsRight_ok s.FDirs (by omega)
      obtain ⟨b2, e2⟩ := r08_argsRight_ok s.FArgs (by omega)
      obtain ⟨b3, e3⟩ := ih.1 s.FSels (i + 1) (by omega) (by omega) (by omega) (by omega)
      rw [r08_selRight_qn]
      (repeat' (first | exact Tot.some _ | assumption | (with_reducible refine Tot.bind ?_ fun _ _ => ?_) | (with_reducible refine Tot.guard (fun _ => ?_) fun _ _ _ => ?_) | (with_reducible refine Tot.cond (fun _ => ?_) fun _ => ?_) | (with_reducible refine Tot.on fun _ _ => ?_) | split))
      all_goals first
        | exact ⟨_, e1⟩ | exact ⟨_, e2⟩ | exact ⟨_, e3⟩
        | (rw [addC_ok (by omega)]; exact Tot.some _)
        | (rename_i hg _ hv _; have h9 := hv hg; rw [addC_ok (by omega)] at h9; obtain rfl := Option.some.inj h9; exact ⟨_, e3⟩)
        | (rename_i hv; rw [addC_ok (by omega)] at hv; obtain rfl := Option.some.inj hv; exact ⟨_, e3⟩)
        | (rename_i hv _ hg; have h9 := hv hg; rw [addC_ok (by omega)] at h9; obtain rfl := Option.some.inj h9; exact ⟨_, e3⟩)
        | (rename_i hv _ _ hg; have h9 := hv hg; rw [addC_ok (by omega)] at h9; obtain rfl := Option.some.inj h9; exact ⟨_, e3⟩)
theorem r08_selsRight_ok (s : Sl TSel) (h : Sl.sz TSel.sz s ≤ 1048576) : Ok (r08_selsRight_q s 1) := (r08_sels_tot F0).1 s 1 h (by rw [F0_eq]; omega) (by omega) (by omega)
theorem r08_Right_ops (l : List TOp) (h : ∀ a ∈ l, a.sz ≤ 1048576) : Ok (r08_Right_q30 l) := by
  induction l with
  | nil => exact Tot.some _
  | cons x r ih =>
    have h1 := h x List.mem_cons_self; have h2 := x.sz_def
    have hr := ih fun y hy => h y (List.mem_cons_of_mem _ hy)
    rw [r08_Right_q30]
    (repeat' (first | exact Tot.some _ | assumption | (with_reducible refine Tot.bind ?_ fun _ _ => ?_) | (with_reducible refine Tot.guard (fun _ => ?_) fun _ _ _ => ?_) | (with_reducible refine Tot.cond (fun _ => ?_) fun _ => ?_) | (with_reducible refine Tot.on fun _ _ => ?_) | split))
    all_goals (subst_vars; first | exact r08_varsRight_ok _ (by omega) | exact r08_selsRight_ok _ (by omega))
theorem r08_Right_frags (l : List TFrag) (h : ∀ a ∈ l, a.sz ≤ 1048576) : Ok (r08_Right_q14 l) := by
  induction l with
  | nil => exact Tot.some _
  | cons x r ih =>
    have h1 := h x List.mem_cons_self; have h2 := x.sz_def
    have hr := ih fun y hy => h y (List.mem_cons_of_mem _ hy)
    rw [r08_Right_q14]
    (repeat' (first | exact Tot.some _ | assumption | (with_reducible refine Tot.bind ?_ fun _ _ => ?_) | (with_reducible refine Tot.guard (fun _ => ?_) fun _ _ _ => ?_) | (with_reducible refine Tot.cond (fun _ => ?_) fun _ => ?_) | (with_reducible refine Tot.on fun _ _ => ?_) | split))
    all_goals (subst_vars; first | exact r08_selsRight_ok _ (by omega))
theorem TQuery.op_le {d : TQuery} {x : TOp} (h : x ∈ d.FOps.l) : x.sz ≤ d.sz := by have := d.sz_def; have := Sl.mem_le (f := TOp.sz) h; omega
theorem TQuery.frag_le {d : TQuery} {x : TFrag} (h : x ∈ d.FFrags.l) : x.sz ≤ d.sz := by have := d.sz_def; have := Sl.mem_le (f := TFrag.sz) h; omega
theorem TQuery.lens (d : TQuery) : d.FOps.l.length ≤ d.sz ∧ d.FFrags.l.length ≤ d.sz := by
  have h1 := d.sz_def; have h2 := Sl.len_lt (f := TOp.sz) d.FOps TOp.pos; have h3 := Sl.len_lt (f := TFrag.sz) d.FFrags TFrag.pos; omega
theorem r08_Right_ok (q : TQuery) (h : q.sz ≤ 1048576) : Ok (r08_Right_q q) := by
  have hl := q.lens
  unfold r08_Right_q
  rw [addC_ok (by omega)]
  (repeat' (first | exact Tot.some _ | assumption | (with_reducible refine Tot.bind ?_ fun _ _ => ?_) | (with_reducible refine Tot.guard (fun _ => ?_) fun _ _ _ => ?_) | (with_reducible refine Tot.cond (fun _ => ?_) fun _ => ?_) | (with_reducible refine Tot.on fun _ _ => ?_) | split))
  · exact r08_Right_ops _ fun a ha => by have := TQuery.op_le ha; omega
  · exact r08_Right_frags _ fun a ha => by have := TQuery.frag_le ha; omega
/-! ### Sizes -/
theorem r08_weigh_args (m : Int) (h7 : TSel) (l : List TArg) (s : Int) (hs : 0 ≤ s) (hb : s + ((l.map TArg.sz).sum : Nat) ≤ 1152921504606846976) (ha : ∀ a ∈ l, a.sz ≤ 1048576) : ∃ r, r08_weigh_q29 m h7 l s = some r ∧ s ≤ r ∧ r + (l.length : Nat) ≤ s + ((l.map TArg.sz).sum : Nat) := by
  induction l generalizing s with
  | nil => exact ⟨s, rfl, by simp, by simp⟩
  | cons x r ih =>
    have h1 := ha x List.mem_cons_self; have h2 := x.sz_def; have hp := Bs.sz_pos x.FName
    obtain ⟨v, h3, h4, h5⟩ := r02_Size_ok x.FValue (by omega)
    have hr : r.length ≤ (r.map TArg.sz).sum := by
      have := Sl.len_le (f := TArg.sz) ⟨false, r⟩ TArg.pos
      have h9 := Sl.len_lt (f := TArg.sz) ⟨false, r⟩ TArg.pos
      have h8 : Sl.sz TArg.sz ⟨false, r⟩ = 1 + (r.map TArg.sz).sum := rfl
      simp only at h9; omega
    simp only [List.map_cons, List.sum_cons, List.length_cons] at hb ⊢
    rw [r08_weigh_q29]
    cases decide (s ≤ m) with
    | false => exact ⟨s, rfl, by omega, by omega⟩
    | true =>
      simp only [on, cond_true, h3, Option.bind_some]
      rw [addC_ok (by omega)]
      simp only [Option.bind_some]
      obtain ⟨w, h6, h7, h8⟩ := ih (s + v) (by omega) (by omega) (fun y hy => ha y (List.mem_cons_of_mem _ hy))
      exact ⟨w, h6, by omega, by omega⟩
theorem r08_weigh_loop (m : Int) (k : Sl TSel → Int → Option Int) (l : List TSel) (s : Int) (hm : -2305843009213693952 ≤ m ∧ m ≤ 1152921504606846976) (hs : 0 ≤ s) (hb : s + ((l.map TSel.sz).sum : Nat) ≤ 1048576) (hk : ∀ x ∈ l, ∀ m', m - 1048576 ≤ m' → m' ≤ m → ∃ r, k x.FSels m' = some r ∧ 0 ≤ r ∧ r ≤ (Sl.sz TSel.sz x.FSels : Nat)) : ∃ r, r08_weigh_q7 m k l s = some r ∧ s ≤ r ∧ r ≤ s + ((l.map TSel.sz).sum : Nat) := by
  induction l generalizing s with
  | nil => exact ⟨s, rfl, by simp, by simp⟩
  | cons x r ih =>
    have h2 := x.sz_def
    have h3 := Sl.len_lt (f := TArg.sz) x.FArgs TArg.pos; have h4 := Sl.len_lt (f := TDir.sz) x.FDirs TDir.pos
    have h5 : Sl.sz TArg.sz x.FArgs = 1 + (x.FArgs.l.map TArg.sz).sum := rfl
    have h0 := Bs.sz_pos x.FName; have h01 := Bs.sz_pos x.FAlias; have h02 := Bs.sz_pos x.FOn
    have h6 : x.FArgs.l.length ≤ 2 * (x.FArgs.l.map TArg.sz).sum := by omega
    simp only [List.map_cons, List.sum_cons] at hb ⊢
    rw [r08_weigh_q7]
    cases decide (s ≤ m) with
    | false => exact ⟨s, rfl, by omega, by omega⟩
    | true =>
      simp only [on, cond_true]
      iterate 3 (rw [addC_ok (by omega)]; simp only [Option.bind_some])
      obtain ⟨w, e1, e2, e3⟩ := r08_weigh_args m x x.FArgs.l (s + 1 + (x.FArgs.l.length : Nat) + (x.FDirs.l.length : Nat)) (by omega) (by omega) (fun a haa => by have := Sl.mem_le (f := TArg.sz) haa; omega)
      simp only [e1, Option.bind_some]
      rw [subC_ok (by omega)]
      simp only [Option.bind_some]
      obtain ⟨y, e4, e5, e6⟩ := hk x List.mem_cons_self (m - w) (by omega) (by omega)
      simp only [e4, Option.bind_some]
      rw [addC_ok (by omega)]
      simp only [Option.bind_some]
      obtain ⟨z, e7, e8, e9⟩ := ih (w + y) (by omega) (by omega) (fun y hy => hk y (List.mem_cons_of_mem _ hy))
      exact ⟨z, e7, by omega, by omega⟩
theorem r08_weigh_tot (n : Nat) : ∀ (l : Sl TSel) (m : Int), Sl.sz TSel.sz l < n → Sl.sz TSel.sz l ≤ 1048576 → -2199023255552 + (Sl.sz TSel.sz l : Nat) * 1048576 ≤ m → m ≤ 1152921504606846976 → ∃ r, r08_weigh_qn n l m = some r ∧ 0 ≤ r ∧ r ≤ (Sl.sz TSel.sz l : Nat) := by
  induction n with
  | zero => intro l m h; omega
  | succ n ih =>
    intro l m h1 h2 h3 h4
    have h5 : Sl.sz TSel.sz l = 1 + (l.l.map TSel.sz).sum := rfl
    obtain ⟨r, e1, e2, e3⟩ := r08_weigh_loop m (r08_weigh_qn n) l.l 0 ⟨by omega, h4⟩ (by omega) (by omega) (fun x hx m' h6 h7 => by
      have h8 := Sl.mem_le (f := TSel.sz) hx; have h9 := x.sub_lt
      exact ih _ _ (by omega) (by omega) (by omega) (by omega))
    rw [r08_weigh_qn, e1]
    exact ⟨r, rfl, by omega, by omega⟩
theorem r08_weigh_ok (l : Sl TSel) (h : Sl.sz TSel.sz l ≤ 1048576) : ∃ r, r08_weigh_q l 600 = some r ∧ 0 ≤ r ∧ r ≤ (Sl.sz TSel.sz l : Nat) := r08_weigh_tot F0 l 600 (by rw [F0_eq]; omega) h (by omega) (by omega)
theorem r08_Large_ops (l : List TOp) (s : Int) (hs : 0 ≤ s) (hb : s + ((l.map TOp.sz).sum : Nat) ≤ 1073741824) (ha : ∀ a ∈ l, a.sz ≤ 1048576) : ∃ r, r08_Large_q24 l s = some r ∧ 0 ≤ r ∧ r ≤ s + ((l.map TOp.sz).sum : Nat) := by
  induction l generalizing s with
  | nil => exact ⟨s, rfl, by omega, by simp⟩
  | cons x r ih =>
    have h1 := ha x List.mem_cons_self; have h2 := x.sz_def
    have h3 := Sl.len_lt (f := TVar.sz) x.FVars TVar.pos
    simp only [List.map_cons, List.sum_cons] at hb ⊢
    rw [r08_Large_q24]
    cases decide (s ≤ 600) with
    | false => exact ⟨s, rfl, by omega, by omega⟩
    | true =>
      simp only [on, cond_true]
      rw [addC_ok (by omega)]
      obtain ⟨w, e1, e2, e3⟩ := r08_weigh_ok x.FSels (by omega)
      simp only [Option.bind_some, e1]
      rw [addC_ok (by omega)]
      simp only [Option.bind_some]
      obtain ⟨z, e7, e8, e9⟩ := ih (s + (x.FVars.l.length : Nat) + w) (by omega) (by omega) (fun y hy => ha y (List.mem_cons_of_mem _ hy))
      exact ⟨z, e7, by omega, by omega⟩
theorem r08_Large_frags (l : List TFrag) (s : Int) (hs : 0 ≤ s) (hb : s + ((l.map TFrag.sz).sum : Nat) ≤ 2147483648) (ha : ∀ a ∈ l, a.sz ≤ 1048576) : ∃ r, r08_Large_q12 l s = some r ∧ 0 ≤ r ∧ r ≤ s + ((l.map TFrag.sz).sum : Nat) := by
  induction l generalizing s with
  | nil => exact ⟨s, rfl, by omega, by simp⟩
  | cons x r ih =>
    have h1 := ha x List.mem_cons_self; have h2 := x.sz_def
    simp only [List.map_cons, List.sum_cons] at hb ⊢
    rw [r08_Large_q12]
    cases decide (s ≤ 600) with
    | false => exact ⟨s, rfl, by omega, by omega⟩
    | true =>
      simp only [on, cond_true]
      obtain ⟨w, e1, e2, e3⟩ := r08_weigh_ok x.FSels (by omega)
      simp only [Option.bind_some, e1]
      rw [addC_ok (by omega)]
      simp only [Option.bind_some]
      obtain ⟨z, e7, e8, e9⟩ := ih (s + w) (by omega) (by omega) (fun y hy => ha y (List.mem_cons_of_mem _ hy))
      exact ⟨z, e7, by omega, by omega⟩
theorem r08_Large_ok (q : TQuery) (h : q.sz ≤ 1048576) : Ok (r08_Large_q q) := by
  have hl := q.lens; have hd := q.sz_def
  have h1 : Sl.sz TOp.sz q.FOps = 1 + (q.FOps.l.map TOp.sz).sum := rfl
  have h2 : Sl.sz TFrag.sz q.FFrags = 1 + (q.FFrags.l.map TFrag.sz).sum := rfl
  unfold r08_Large_q
  rw [addC_ok (by omega)]
  obtain ⟨r, e1, e2, e3⟩ := r08_Large_ops q.FOps.l ((q.FOps.l.length : Nat) + (q.FFrags.l.length : Nat)) (by omega) (by omega) fun a ha => by have := TQuery.op_le ha; omega
  simp only [Option.bind_some, e1, on]
  obtain ⟨w, e4, e5, e6⟩ := r08_Large_frags q.FFrags.l r (by omega) (by omega) fun a ha => by have := TQuery.frag_le ha; omega
  simp only [Option.bind_some, e4]
  exact Tot.some _
/-! ### The size of a schema -/
theorem r10_Large_in (l : List TField) (s : Int) (hs : 0 ≤ s) (hb : s + ((l.map TField.sz).sum : Nat) ≤ 1152921504606846976) (ha : ∀ a ∈ l, a.sz ≤ 1048576) : ∃ r, r10_Large_q36 l s = some r ∧ 0 ≤ r ∧ r ≤ s + ((l.map TField.sz).sum : Nat) := by
  induction l generalizing s with
  | nil => exact ⟨s, rfl, by omega, by simp⟩
  | cons x r ih =>
    have h1 := ha x List.mem_cons_self; have h2 := x.sz_def
    have h3 := Sl.len_lt (f := TInput.sz) x.FArgs TInput.pos; have h4 := Sl.len_lt (f := TDir.sz) x.FDirs TDir.pos
    simp only [List.map_cons, List.sum_cons] at hb ⊢
    rw [r10_Large_q36]
    simp only [on]
    rw [addC_ok (by omega)]; simp only [Option.bind_some]
    rw [addC_ok (by omega)]; simp only [Option.bind_some]
    obtain ⟨z, e7, e8, e9⟩ := ih (s + ((x.FArgs.l.length : Nat) + (x.FDirs.l.length : Nat))) (by omega) (by omega) (fun y hy => ha y (List.mem_cons_of_mem _ hy))
    exact ⟨z, e7, by omega, by omega⟩
theorem r10_Large_out (l : List TDef) (s : Int) (hs : 0 ≤ s) (hb : s + 2 * ((l.map TDef.sz).sum : Nat) ≤ 1152921504606846976) (ha : ∀ a ∈ l, a.sz ≤ 1048576) : ∃ r, r10_Large_q12 l s = some r := by
  induction l generalizing s with
  | nil => exact ⟨s, rfl⟩
  | cons x r ih =>
    have h1 := ha x List.mem_cons_self; have h2 := x.sz_def
    have h3 := Sl.len_lt (f := TField.sz) x.FFields TField.pos; have h4 := Sl.len_lt (f := TDir.sz) x.FDirs TDir.pos; have h5 := Sl.len_lt (f := TMember.sz) x.FMembers TMember.pos
    have h6 := Sl.len_lt (f := TInput.sz) x.FInputs TInput.pos; have h7 := Sl.len_lt (f := Bs.sz) x.FImplements Bs.sz_pos
    have h8 : Sl.sz TField.sz x.FFields = 1 + (x.FFields.l.map TField.sz).sum := rfl
    simp only [List.map_cons, List.sum_cons] at hb
    rw [r10_Large_q12]
    simp only [on]
    iterate 6 (rw [addC_ok (by omega)]; simp only [Option.bind_some])
    obtain ⟨z, e1, e2, e3⟩ := r10_Large_in x.FFields.l (s + (1 + (x.FFields.l.length : Nat) + (x.FMembers.l.length : Nat) + (x.FInputs.l.length : Nat) + (x.FDirs.l.length : Nat) + (x.FImplements.l.length : Nat))) (by omega) (by omega) (fun a haa => by have := Sl.mem_le (f := TField.sz) haa; omega)
    simp only [e1, Option.bind_some]
    exact ih z e2 (by omega) (fun y hy => ha y (List.mem_cons_of_mem _ hy))
theorem r10_Large_ok (d : TDoc) (h : d.sz ≤ 1048576) : Ok (r10_Large_q d) := by
  have hd := d.sz_def
  have h1 : Sl.sz TDef.sz d.FDefs = 1 + (d.FDefs.l.map TDef.sz).sum := rfl
  unfold r10_Large_q
  (repeat' (first | exact Tot.some _ | assumption | (with_reducible refine Tot.bind ?_ fun _ _ => ?_) | (with_reducible refine Tot.guard (fun _ => ?_) fun _ _ _ => ?_) | (with_reducible refine Tot.cond (fun _ => ?_) fun _ => ?_) | (with_reducible refine Tot.on fun _ _ => ?_) | split))
  exact r10_Large_out _ _ (by omega) (by omega) fun a ha => by have := TDoc.def_le ha; omega
end Go.Proofs

namespace Go.Proofs
open Go Go.Ab
/-! Types' references: what the program's functions compute. -/
def nnW (w : List Int) : Bool := w.head? == some 1
def liW (w : List Int) : Bool := w.head? == some 2
def barS (s : Sl Int) : Sl Int := bif nnW s.l then ⟨s.nl, s.l.drop 1⟩ else s
def bar (t : TRef) : TRef := ⟨t.FName, barS t.FWraps⟩
def innerT (t : TRef) : TRef := ⟨t.FName, ⟨(barS t.FWraps).nl, (barS t.FWraps).l.drop 1⟩⟩
theorem clone_eq {s : Sl Int} (h : SOk s) : slices_Clone_intint_q s = some s := by
  unfold slices_Clone_intint_q
  obtain ⟨nl, l⟩ := s
  cases nl with
  | true => have := h.1 rfl; simp only at this; subst this; rfl
  | false =>
    simp only [cond_false]
    rw [appC_ok (by omega) (by have := h.2; simp at this ⊢; omega)]
    simp
theorem isNonNull_eq (t : TRef) : typeref_IsNonNull_q t = nnW t.FWraps.l := by
  unfold typeref_IsNonNull_q nnW on
  cases t.FWraps.l with
  | nil => rfl
  | cons a r => simp; by_cases h : a = 1 <;> simp [h]
theorem head_one {w : List Int} (h : nnW w = true) : 1 ≤ w.length := by cases w <;> simp [nnW] at h ⊢
theorem sok_drop {α : Type} {s : Sl α} (n : Nat) (h : SOk s) : SOk ⟨s.nl, s.l.drop n⟩ := ⟨fun e => by simp [h.1 e], by have := h.2; simp; omega⟩
theorem barS_ok {s : Sl Int} (h : SOk s) : SOk (barS s) := by
  unfold barS
  cases nnW s.l with
  | true => exact sok_drop 1 h
  | false => exact h
theorem innerT_ok {t : TRef} (h : SOk t.FWraps) : SOk (innerT t).FWraps := sok_drop 1 (barS_ok h)
theorem nullable_eq {t : TRef} (h : SOk t.FWraps) : typeref_Nullable_q t = some (bar t) := by
  unfold typeref_Nullable_q bar barS on
  simp only [isNonNull_eq]
  cases hn : nnW t.FWraps.l with
  | true =>
    simp only [cond_true]
    rw [partC_tail (head_one hn)]
    simp only [Option.bind_some]
    rw [clone_eq (sok_drop 1 h)]; rfl
  | false =>
    simp only [cond_false, Option.bind_some]
    rw [clone_eq h]; rfl
theorem isList_eq {t : TRef} (h : SOk t.FWraps) : typeref_IsList_q t = some (liW (barS t.FWraps).l) := by
  unfold typeref_IsList_q
  rw [nullable_eq h]
  simp only [Option.bind_some, on, bar, liW]
  cases (barS t.FWraps).l with
  | nil => rfl
  | cons a r => simp; by_cases h : a = 2 <;> simp [h]
theorem list_one {w : List Int} (h : liW w = true) : 1 ≤ w.length := by cases w <;> simp [liW] at h ⊢
theorem inner_eq {t : TRef} (h : SOk t.FWraps) : typeref_Inner_q t = some (bif liW (barS t.FWraps).l then (innerT t, true) else (⟨[], Sl.nil⟩, false)) := by
  unfold typeref_Inner_q
  rw [isList_eq h]
  simp only [Option.bind_some]
  cases hl : liW (barS t.FWraps).l with
  | false => rfl
  | true =>
    simp only [Bool.not_true, cond_false, cond_true]
    rw [nullable_eq h]
    simp only [Option.bind_some, bar]
    rw [partC_tail (list_one hl)]
    rfl
theorem inner_lt {t : TRef} (h : liW (barS t.FWraps).l = true) : (innerT t).FWraps.l.length < t.FWraps.l.length := by
  have h1 := list_one h
  have h2 : (barS t.FWraps).l.length ≤ t.FWraps.l.length := by
    unfold barS; cases nnW t.FWraps.l <;> simp
  simp [innerT]; omega
/-! ### Searches -/
theorem findAux (l : List TDef) (s : Bs) : schema_Find_q7 s l = (match l.find? (fun t => t.FName == s) with | some t => Sum.inr (t, true) | none => Sum.inl ()) := by
  induction l with
  | nil => rfl
  | cons a r ih =>
    rw [schema_Find_q7, List.find?_cons]
    simp only [on, ih]
    cases a.FName == s <;> rfl
def fnd (l : List TDef) (s : Bs) : TDef × Bool := match l.find? (fun t => t.FName == s) with | some t => (t, true) | none => (TDef.zero, false)
theorem find_eq (d : TDoc) (s : Bs) : schema_Find_q d s = fnd d.FDefs.l s := by
  unfold schema_Find_q fnd on
  rw [findAux]
  cases d.FDefs.l.find? (fun t => t.FName == s) <;> rfl
theorem fnd_mem (l : List TDef) (s : Bs) : (fnd l s).1 = TDef.zero ∨ (fnd l s).1 ∈ l := by
  unfold fnd
  cases h : l.find? (fun t => t.FName == s) with
  | none => exact .inl rfl
  | some t => exact .inr (List.mem_of_find?_eq_some h)
theorem fieldAux (l : List TField) (s : Bs) : schema_FieldOf_q7 s l = (match l.find? (fun t => t.FName == s) with | some t => Sum.inr (t, true) | none => Sum.inl ()) := by
  induction l with
  | nil => rfl
  | cons a r ih =>
    rw [schema_FieldOf_q7, List.find?_cons]
    simp only [on, ih]
    cases a.FName == s <;> rfl
def fndF (l : List TField) (s : Bs) : TField × Bool := match l.find? (fun t => t.FName == s) with | some t => (t, true) | none => (TField.zero, false)
theorem fieldOf_eq (t : TDef) (s : Bs) : schema_FieldOf_q t s = fndF t.FFields.l s := by
  unfold schema_FieldOf_q fndF on
  rw [fieldAux]
  cases t.FFields.l.find? (fun t => t.FName == s) <;> rfl
theorem inputAux (l : List TInput) (s : Bs) : schema_InputOf_q7 s l = (match l.find? (fun t => t.FName == s) with | some t => Sum.inr (t, true) | none => Sum.inl ()) := by
  induction l with
  | nil => rfl
  | cons a r ih =>
    rw [schema_InputOf_q7, List.find?_cons]
    simp only [on, ih]
    cases a.FName == s <;> rfl
def fndI (l : List TInput) (s : Bs) : TInput × Bool := match l.find? (fun t => t.FName == s) with | some t => (t, true) | none => (TInput.zero, false)
theorem inputOf_eq (t : Sl TInput) (s : Bs) : schema_InputOf_q t s = fndI t.l s := by
  unfold schema_InputOf_q fndI on
  rw [inputAux]
  cases t.l.find? (fun t => t.FName == s) <;> rfl
/-- A reference that the schema may hold. -/
def DefsOk (d : TDoc) : Prop := ∀ x ∈ d.FDefs.l, x.FFields.l.length ≤ 1048576 ∧ x.FInputs.l.length ≤ 1048576 ∧ (∀ f ∈ x.FFields.l, SOk f.FType.FWraps ∧ f.FArgs.l.length ≤ 1048576 ∧ ∀ i ∈ f.FArgs.l, SOk i.FType.FWraps) ∧ ∀ i ∈ x.FInputs.l, SOk i.FType.FWraps
theorem TRef.sok {r : TRef} (h : r.sz ≤ 1048576) (hw : r.wf) : SOk r.FWraps := ⟨hw.2.1.1, by have := r.sz_def; have := Sl.len_le (f := fun _ : Int => 1) r.FWraps (fun _ => Nat.le_refl _); omega⟩
theorem TInput.sok {r : TInput} (h : r.sz ≤ 1048576) (hw : r.wf) : SOk r.FType.FWraps := TRef.sok (by have := r.sz_def; omega) (TInput.FType_wf hw)
theorem defsOk {d : TDoc} (h : d.sz ≤ 1048576) (hw : d.wf) : DefsOk d := by
  intro x hx
  have h1 := x.sz_def; have h2 := d.sz_def; have h3 := Sl.mem_le (f := TDef.sz) hx
  have h4 := Sl.len_lt (f := TField.sz) x.FFields TField.pos; have h5 := Sl.len_lt (f := TInput.sz) x.FInputs TInput.pos
  have w : x.wf := (TDoc.FDefs_wf hw).2.2 x hx
  refine ⟨by omega, by omega, fun f hf => ?_, fun i hi => ?_⟩
  · have h6 := Sl.mem_le (f := TField.sz) hf; have h7 := f.sz_def; have h8 := Sl.len_lt (f := TInput.sz) f.FArgs TInput.pos
    have wf : f.wf := (TDef.FFields_wf w).2.2 f hf
    exact ⟨TRef.sok (by omega) (TField.FType_wf wf), by omega, fun i hi => TInput.sok (by have := Sl.mem_le (f := TInput.sz) hi; omega) ((TField.FArgs_wf wf).2.2 i hi)⟩
  · exact TInput.sok (by have := Sl.mem_le (f := TInput.sz) hi; omega) ((TDef.FInputs_wf w).2.2 i hi)
theorem find_ok {d : TDoc} (h : DefsOk d) (s : Bs) : (fnd d.FDefs.l s).1.FFields.l.length ≤ 1048576 ∧ (fnd d.FDefs.l s).1.FInputs.l.length ≤ 1048576 ∧ (∀ f ∈ (fnd d.FDefs.l s).1.FFields.l, SOk f.FType.FWraps ∧ f.FArgs.l.length ≤ 1048576 ∧ ∀ i ∈ f.FArgs.l, SOk i.FType.FWraps) ∧ ∀ i ∈ (fnd d.FDefs.l s).1.FInputs.l, SOk i.FType.FWraps := by
  rcases fnd_mem d.FDefs.l s with e | e
  · rw [e]; exact ⟨by simp [TDef.zero, Sl.nil], by simp [TDef.zero, Sl.nil], by simp [TDef.zero, Sl.nil], by simp [TDef.zero, Sl.nil]⟩
  · exact h _ e
theorem sok_zero : SOk TInput.zero.FType.FWraps := ⟨fun _ => rfl, by decide⟩
theorem inputOk {l : List TInput} (h : ∀ i ∈ l, SOk i.FType.FWraps) (s : Bs) : SOk (fndI l s).1.FType.FWraps := by
  unfold fndI
  cases e : l.find? (fun t => t.FName == s) with
  | none => exact sok_zero
  | some t => exact h _ (List.mem_of_find?_eq_some e)
theorem fieldOk {l : List TField} (h : ∀ f ∈ l, SOk f.FType.FWraps ∧ f.FArgs.l.length ≤ 1048576 ∧ ∀ i ∈ f.FArgs.l, SOk i.FType.FWraps) (s : Bs) : SOk (fndF l s).1.FType.FWraps ∧ (fndF l s).1.FArgs.l.length ≤ 1048576 ∧ ∀ i ∈ (fndF l s).1.FArgs.l, SOk i.FType.FWraps := by
  unfold fndF
  cases e : l.find? (fun t => t.FName == s) with
  | none => exact ⟨⟨fun _ => rfl, by decide⟩, by decide, fun i hi => by cases hi⟩
  | some t => exact h _ (List.mem_of_find?_eq_some e)
end Go.Proofs

namespace Go.Proofs
open Go Go.Ab
/-! Whether a literal fits a type: the program always has an answer. -/
theorem index_value (l : List TValue) (p : TValue → Option Bool) (i : Nat) (h : ∀ x ∈ l, Ok (p x)) : Ok (slices_IndexFunc_alueapiValue_q6m p l i) := by
  induction l generalizing i with
  | nil => exact Tot.some _
  | cons x r ih =>
    have hr := ih (i + 1) fun y hy => h y (List.mem_cons_of_mem _ hy)
    have hx := h x List.mem_cons_self
    rw [slices_IndexFunc_alueapiValue_q6m]
    simp only [on]
    (repeat' (first | exact Tot.some _ | assumption | (with_reducible refine Tot.bind ?_ fun _ _ => ?_) | (with_reducible refine Tot.guard (fun _ => ?_) fun _ _ _ => ?_) | (with_reducible refine Tot.cond (fun _ => ?_) fun _ => ?_) | (with_reducible refine Tot.on fun _ _ => ?_) | split))
theorem contains_value (l : Sl TValue) (p : TValue → Option Bool) (h : ∀ x ∈ l.l, Ok (p x)) : Ok (slices_ContainsFunc_alueapiValue_qm l p) := by
  unfold slices_ContainsFunc_alueapiValue_qm slices_IndexFunc_alueapiValue_qm
  have h1 := index_value l.l p 0 h
  (repeat' (first | exact Tot.some _ | assumption | (with_reducible refine Tot.bind ?_ fun _ _ => ?_) | (with_reducible refine Tot.guard (fun _ => ?_) fun _ _ _ => ?_) | (with_reducible refine Tot.cond (fun _ => ?_) fun _ => ?_) | (with_reducible refine Tot.on fun _ _ => ?_) | split))
theorem object_loop (d : TDoc) (df : TDef) (v : TValue) (k : TDoc → TRef → TValue → Option Bool) (l : List Bs) (i : Nat) (h : ∀ t x, SOk t.FWraps → x ∈ v.FItems.l → Ok (k d t x)) (hd : ∀ i ∈ df.FInputs.l, SOk i.FType.FWraps) : Ok (fields_object_q7 d df v k l i) := by
  induction l generalizing i with
  | nil => exact Tot.some _
  | cons x r ih =>
    have hr := ih (i + 1)
    rw [fields_object_q7]
    simp only [on, inputOf_eq]
    have hs := inputOk hd x
    generalize fndI df.FInputs.l x = y at hs
    by_cases hi : i < v.FItems.l.length
    · obtain ⟨b, hb⟩ := h _ _ hs (List.getElem_mem hi)
      have hd2 : decide (((v.FItems.l.length : Nat) : Int) ≤ ((i : Nat) : Int)) = false := by simp; omega
      simp only [List.getElem?_eq_getElem hi, hd2, Bool.or_false]
      cases y.2 <;> simp only [guardO, Bool.not_false, Bool.not_true, if_true, Bool.false_eq_true, if_false, Option.bind_some, hb, Bool.true_or, Bool.false_or, cond_true]
      · exact Tot.some _
      · (repeat' (first | exact Tot.some _ | assumption | (with_reducible refine Tot.bind ?_ fun _ _ => ?_) | (with_reducible refine Tot.guard (fun _ => ?_) fun _ _ _ => ?_) | (with_reducible refine Tot.cond (fun _ => ?_) fun _ => ?_) | (with_reducible refine Tot.on fun _ _ => ?_) | split))
    · have hd2 : decide (((v.FItems.l.length : Nat) : Int) ≤ ((i : Nat) : Int)) = true := by simp; omega
      simp only [hd2, Bool.or_true, guardO, Bool.not_true, Bool.false_eq_true, if_false, Bool.true_or, cond_true]
      exact Tot.some _
theorem fits_tot (d : TDoc) (hd : DefsOk d) (n : Nat) :
    (∀ (t : TRef) (v : TValue), SOk t.FWraps → 2 * (v.sz * 2097152 + t.FWraps.l.length) + 2 < n → Ok (fields_fits_qn n d t v)) ∧
    (∀ (v : TValue) (t : TRef), SOk t.FWraps → 2 * (v.sz * 2097152 + t.FWraps.l.length) + 3 < n → Ok (fields_fits_1_qn n v d t)) ∧
    (∀ (x : TDef) (v : TValue), (∀ i ∈ x.FInputs.l, SOk i.FType.FWraps) → 2 * (v.sz * 2097152) + 1 < n → Ok (fields_object_qn n d x v)) := by
  induction n with
  | zero => exact ⟨fun _ _ _ h => by omega, fun _ _ _ h => by omega, fun _ _ _ h => by omega⟩
  | succ n ih =>
    obtain ⟨ih1, ih2, ih3⟩ := ih
    refine ⟨fun t v ht h => ?_, fun v t ht h => ?_, fun x v hx h => ?_⟩
    · rw [fields_fits_qn]
      simp only [inner_eq ht, Option.bind_some, find_eq]
      refine Tot.cond (fun _ => Tot.some _) fun _ => Tot.on fun _ _ => Tot.cond (fun _ => Tot.some _) fun _ => Tot.cond (fun _ => Tot.on fun _ _ => Tot.some _) fun _ => ?_
      cases hl : liW (barS t.FWraps).l with
      | true =>
        have h1 := inner_lt hl; have h2 := innerT_ok ht; have h3 := h2.2; have h4 := ht.2
        simp only [cond_true]
        (repeat' (first | exact Tot.some _ | assumption | (with_reducible refine Tot.bind ?_ fun _ _ => ?_) | (with_reducible refine Tot.guard (fun _ => ?_) fun _ _ _ => ?_) | (with_reducible refine Tot.cond (fun _ => ?_) fun _ => ?_) | (with_reducible refine Tot.on fun _ _ => ?_) | split))
        · exact ih1 _ _ h2 (by omega)
        · exact contains_value _ _ fun x hx => ih2 x _ h2 (by have := TValue.item_lt hx; omega)
      | false =>
        simp only [cond_false]
        (repeat' (first | exact Tot.some _ | assumption | (with_reducible refine Tot.bind ?_ fun _ _ => ?_) | (with_reducible refine Tot.guard (fun _ => ?_) fun _ _ _ => ?_) | (with_reducible refine Tot.cond (fun _ => ?_) fun _ => ?_) | (with_reducible refine Tot.on fun _ _ => ?_) | split))
        rename_i hx _ _
        rw [hx]
        exact ih3 _ _ (find_ok hd _).2.2.2 (by omega)
    · rw [fields_fits_1_qn]
      exact Tot.bind (ih1 t v ht (by omega)) fun _ _ => Tot.some _
    · rw [fields_object_qn]
      have h1 := object_loop d x v (fields_fits_qn n) v.FKeys.l 0 (fun t y ht hy => ih1 t y ht (by have := TValue.item_lt hy; have := ht.2; omega)) hx
      (repeat' (first | exact Tot.some _ | assumption | (with_reducible refine Tot.bind ?_ fun _ _ => ?_) | (with_reducible refine Tot.guard (fun _ => ?_) fun _ _ _ => ?_) | (with_reducible refine Tot.cond (fun _ => ?_) fun _ => ?_) | (with_reducible refine Tot.on fun _ _ => ?_) | split))
def fitsB (d : TDoc) (t : TRef) (v : TValue) : Bool := (fields_fits_q d t v).getD false
theorem fits_eq {d : TDoc} (hd : DefsOk d) {t : TRef} {v : TValue} (ht : SOk t.FWraps) (hv : v.sz ≤ 1048576) : fields_fits_q d t v = some (fitsB d t v) := by
  obtain ⟨b, hb⟩ := (fits_tot d hd F0).1 t v ht (by have := ht.2; rw [F0_eq]; omega)
  have : fields_fits_q d t v = some b := hb
  simp [fitsB, this]
end Go.Proofs

namespace Go.Proofs
open Go Go.Ab
/-! What the checker of fields appends. -/
def addF (c : Fields_checker) (X : List TFault) : Fields_checker := ⟨c.Fd, c.Fq, ⟨c.Fout.nl && X.isEmpty, c.Fout.l ++ X⟩⟩
theorem addF_nil (c : Fields_checker) : addF c [] = c := by obtain ⟨d, q, nl, l⟩ := c; simp [addF]
theorem addF_add (c : Fields_checker) (X Y : List TFault) : addF (addF c X) Y = addF c (X ++ Y) := by
  cases X <;> cases Y <;> simp [addF]
/-- f appends X to the violations of a checker of d. -/
def Eff (d : TDoc) (f : Fields_checker → Option Fields_checker) (X : List TFault) : Prop := ∀ c, c.Fd = d → c.Fout.l.length + X.length ≤ 4398046511104 → f c = some (addF c X)
theorem Eff.bind {d : TDoc} {f g : Fields_checker → Option Fields_checker} {X Y : List TFault} (h : Eff d f X) (h2 : Eff d g Y) : Eff d (fun c => (f c).bind g) (X ++ Y) := by
  intro c hc hb
  simp only [List.length_append] at hb
  show (f c).bind g = _
  rw [h c hc (by omega), Option.bind_some, h2 (addF c X) hc (by simp only [addF, List.length_append]; omega), addF_add]
theorem Eff.id {d : TDoc} : Eff d (fun c => some c) [] := fun c _ _ => by rw [addF_nil]
theorem Eff.of {d : TDoc} {f g : Fields_checker → Option Fields_checker} {X Y : List TFault} (h : Eff d g Y) (e : X = Y) (h2 : ∀ c, c.Fd = d → f c = g c) : Eff d f X := by
  subst e; intro c hc hb; rw [h2 c hc]; exact h c hc hb
theorem Eff.cond {d : TDoc} {f g : Fields_checker → Option Fields_checker} {X Y : List TFault} (b : Bool) (h : Eff d f X) (h2 : Eff d g Y) : Eff d (fun c => _root_.cond b (f c) (g c)) (_root_.cond b X Y) := by cases b <;> assumption
def flt (b : Bool) (e : Int) (at_ : Bs) : List TFault := bif b then [⟨e, at_⟩] else []
theorem add_eff (d : TDoc) (b : Bool) (e : Int) (at_ : Bs) : Eff d (fun c => fields_checker_add_q c b e at_) (flt b e at_) := by
  intro c hc hb
  show fields_checker_add_q c b e at_ = _
  unfold fields_checker_add_q flt at *
  cases b with
  | false => rw [cond_false, cond_false, addF_nil]
  | true =>
    simp only [cond_true, List.length_cons, List.length_nil] at hb ⊢
    rw [appC_ok32 (by omega) (by simp only [List.length_cons, List.length_nil]; omega)]
    rfl
def badV (v : TValue) : Bool := (decide (v.FKind = 7) || (decide (v.FKind = 3) && (v.FText == []))) || (decide (v.FKind = 2) && decide (v.FInt < 0))
def knownX (d : TDoc) (defs : Sl TInput) (all : Sl TArg) (strict : Bool) (at_ : Bs) : List TArg → Nat → List TFault
  | [], _ => []
  | x :: r, i => (bif (!(fndI defs.l x.FName).2) || (fields_given_q ⟨all.nl, all.l.take i⟩ x.FName).2 then flt true 22 at_ else flt ((!fitsB d (fndI defs.l x.FName).1.FType x.FValue) || (strict && badV x.FValue)) 23 at_) ++ knownX d defs all strict at_ r (i + 1)
theorem known_loop {d : TDoc} (hd : DefsOk d) (defs : Sl TInput) (hs : ∀ i ∈ defs.l, SOk i.FType.FWraps) (all : Sl TArg) (strict : Bool) (at_ : Bs) (l : List TArg) (i : Nat) (hl : ∀ a ∈ l, a.sz ≤ 1048576) :
    Eff d (fun c => fields_checker_known_q3 defs all strict at_ l i c) (knownX d defs all strict at_ l i) := by
  induction l generalizing i with
  | nil => exact Eff.id
  | cons x r ih =>
    have hx := hl x List.mem_cons_self
    refine Eff.of ((Eff.cond _ (add_eff d true 22 at_) (add_eff d ((!fitsB d (fndI defs.l x.FName).1.FType x.FValue) || (strict && badV x.FValue)) 23 at_)).bind (ih (i + 1) fun y hy => hl y (List.mem_cons_of_mem _ hy))) rfl fun c hc => ?_
    rw [fields_checker_known_q3]
    simp only [on, inputOf_eq, hc, fits_eq hd (inputOk hs x.FName) (show x.FValue.sz ≤ 1048576 by have := x.value_le; omega), Option.bind_some, badV, Q.some_bind]
theorem known_eff {d : TDoc} (hd : DefsOk d) (defs : Sl TInput) (hs : ∀ i ∈ defs.l, SOk i.FType.FWraps) (all : Sl TArg) (strict : Bool) (at_ : Bs) (hl : ∀ a ∈ all.l, a.sz ≤ 1048576) :
    Eff d (fun c => fields_checker_known_q c defs all strict at_) (knownX d defs all strict at_ all.l 0) := by
  refine Eff.of (known_loop hd defs hs all strict at_ all.l 0 hl) rfl fun c hc => ?_
  unfold fields_checker_known_q
  exact Q.some_bind _
def missX (at_ : Bs) (x : Sl TArg) : List TInput → List TFault
  | [] => []
  | y :: r => flt (!(fields_given_q x y.FName).2) 22 at_ ++ missX at_ x r
theorem miss_eff (d : TDoc) (at_ : Bs) (x : TDir) (l : List TInput) : Eff d (fun c => fields_checker_dirs_q30 at_ x l c) (missX at_ x.FArgs l) := by
  induction l with
  | nil => exact Eff.id
  | cons y r ih => exact Eff.of ((add_eff d _ 22 at_).bind ih) rfl fun c hc => by rw [fields_checker_dirs_q30]; rfl
def needX (at_ : Bs) (x : Sl TArg) : List TInput → List TFault
  | [] => []
  | y :: r => flt ((typeref_IsNonNull_q y.FType && !y.FHas) && !(fields_given_q x y.FName).2) 22 at_ ++ needX at_ x r
theorem need_eff (d : TDoc) (at_ : Bs) (x : TSel) (l : List TInput) : Eff d (fun c => fields_checker_field_q37 x at_ l c) (needX at_ x.FArgs l) := by
  induction l with
  | nil => exact Eff.id
  | cons y r ih => exact Eff.of ((add_eff d _ 22 at_).bind ih) rfl fun c hc => by rw [fields_checker_field_q37]; rfl
def needT (s t : Bs) : TInput := ⟨s, ⟨t, ⟨false, [1]⟩⟩, false, TValue.zero, Sl.nil⟩
def argsX (name : Bs) (field : Bool) : Sl TInput :=
  bif (name == [115, 107, 105, 112]) || (name == [105, 110, 99, 108, 117, 100, 101]) then ⟨false, [needT [105, 102] [66, 111, 111, 108, 101, 97, 110]]⟩
  else bif (name == [100, 101, 102, 101, 114]) && !field then ⟨false, [needT [108, 97, 98, 101, 108] [83, 116, 114, 105, 110, 103]]⟩
  else bif (name == [115, 116, 114, 101, 97, 109]) && field then ⟨false, [needT [108, 97, 98, 101, 108] [83, 116, 114, 105, 110, 103], needT [105, 110, 105, 116, 105, 97, 108, 67, 111, 117, 110, 116] [73, 110, 116]]⟩
  else Sl.nil
theorem needed_eq (s t : Bs) : fields_needed_q s t = some (needT s t) := by
  unfold fields_needed_q typeref_NonNull_q
  simp only [on, isNonNull_eq, typeref_Named_q, Sl.nil, nnW, List.head?_nil]
  rw [show (none == some (1 : Int)) = false from rfl, cond_false]
  rw [appC_ok (by omega) (by simp)]
  rfl
theorem argsOf_eq (name : Bs) (field : Bool) : fields_argsOf_q name field = some (argsX name field) := by
  unfold fields_argsOf_q argsX
  simp only [needed_eq, Option.bind_some]
  cases (name == [115, 107, 105, 112]) || (name == [105, 110, 99, 108, 117, 100, 101]) <;> cases (name == [100, 101, 102, 101, 114]) && !field <;> cases (name == [115, 116, 114, 101, 97, 109]) && field <;> rfl
theorem argsX_ok (name : Bs) (field : Bool) : (argsX name field).l.length ≤ 2 ∧ ∀ i ∈ (argsX name field).l, SOk i.FType.FWraps := by
  have h : ∀ s t, SOk (needT s t).FType.FWraps := fun s t => ⟨fun h => (by cases h), by simp [needT]⟩
  unfold argsX
  cases (name == [115, 107, 105, 112]) || (name == [105, 110, 99, 108, 117, 100, 101]) <;> cases (name == [100, 101, 102, 101, 114]) && !field <;> cases (name == [115, 116, 114, 101, 97, 109]) && field <;> simp [Sl.nil, h]
def defsX (field : Bool) (t : TRef) (is : Bool) (x : TDir) : Sl TInput := bif ((x.FName == [115, 116, 114, 101, 97, 109]) && is) && !(liW (barS t.FWraps).l) then Sl.nil else argsX x.FName field
def dirX (d : TDoc) (s : TSel) (t : TRef) (is : Bool) (at_ : Bs) (x : TDir) (i : Nat) : List TFault :=
  bif (defsX ((!decide (s.FKind = 2)) && !decide (s.FKind = 3)) t is x).nl || (bif !(defsX ((!decide (s.FKind = 2)) && !decide (s.FKind = 3)) t is x).nl then slices_ContainsFunc_apiDirapiDir_q (bif !(defsX ((!decide (s.FKind = 2)) && !decide (s.FKind = 3)) t is x).nl then ⟨s.FDirs.nl, s.FDirs.l.take i⟩ else Sl.nil) (fun y => fields_checker_dirs_1_q y x) else false) then flt true 29 at_
  else knownX d (defsX ((!decide (s.FKind = 2)) && !decide (s.FKind = 3)) t is x) x.FArgs ((x.FName == [100, 101, 102, 101, 114]) || (x.FName == [115, 116, 114, 101, 97, 109])) at_ x.FArgs.l 0 ++ missX at_ x.FArgs (defsX ((!decide (s.FKind = 2)) && !decide (s.FKind = 3)) t is x).l
def dirsX (d : TDoc) (s : TSel) (t : TRef) (is : Bool) (at_ : Bs) : List TDir → Nat → List TFault
  | [], _ => []
  | x :: r, i => dirX d s t is at_ x i ++ dirsX d s t is at_ r (i + 1)
theorem defsX_ok (field : Bool) (t : TRef) (is : Bool) (x : TDir) : (defsX field t is x).l.length ≤ 2 ∧ ∀ i ∈ (defsX field t is x).l, SOk i.FType.FWraps := by
  unfold defsX
  cases ((x.FName == [115, 116, 114, 101, 97, 109]) && is) && !(liW (barS t.FWraps).l) with
  | true => exact ⟨by simp [Sl.nil], fun i hi => by cases hi⟩
  | false => exact argsX_ok _ _
theorem guard_isList {α : Type} (b : Bool) {t : TRef} (h : SOk t.FWraps) (k : Bool → Option α) : guardO b (typeref_IsList_q t) false k = k (b && liW (barS t.FWraps).l) := by
  cases b with
  | false => rfl
  | true => rw [isList_eq h]; rfl
theorem dirs_loop {d : TDoc} (hd : DefsOk d) (s : TSel) {t : TRef} (ht : SOk t.FWraps) (is : Bool) (at_ : Bs) (l : List TDir) (i : Nat) (hl : ∀ a ∈ l, a.sz ≤ 1048576) :
    Eff d (fun c => fields_checker_dirs_q4 s t is at_ l i c) (dirsX d s t is at_ l i) := by
  induction l generalizing i with
  | nil => exact Eff.id
  | cons x r ih =>
    have hx := hl x List.mem_cons_self
    have hk := known_eff hd (defsX ((!decide (s.FKind = 2)) && !decide (s.FKind = 3)) t is x) (defsX_ok _ _ _ _).2 x.FArgs ((x.FName == [100, 101, 102, 101, 114]) || (x.FName == [115, 116, 114, 101, 97, 109])) at_ fun a ha => by have := TDir.arg_le ha; omega
    refine Eff.of ((Eff.cond _ (add_eff d true 29 at_) (hk.bind (miss_eff d at_ x _))).bind (ih (i + 1) fun y hy => hl y (List.mem_cons_of_mem _ hy))) rfl fun c hc => ?_
    rw [fields_checker_dirs_q4]
    simp only [on, argsOf_eq, Option.bind_some, guard_isList _ ht, Q.some_bind]
    have e : (bif ((x.FName == [115, 116, 114, 101, 97, 109]) && is) && !((x.FName == [115, 116, 114, 101, 97, 109]) && is && liW (barS t.FWraps).l) then (Sl.nil : Sl TInput) else argsX x.FName ((!decide (s.FKind = 2)) && !decide (s.FKind = 3))) = defsX ((!decide (s.FKind = 2)) && !decide (s.FKind = 3)) t is x := by
      unfold defsX
      cases ((x.FName == [115, 116, 114, 101, 97, 109]) && is) <;> rfl
    simp only [e]
theorem dirs_eff {d : TDoc} (hd : DefsOk d) (s : TSel) {t : TRef} (ht : SOk t.FWraps) (is : Bool) (at_ : Bs) (hl : ∀ a ∈ s.FDirs.l, a.sz ≤ 1048576) :
    Eff d (fun c => fields_checker_dirs_q c s t is at_) (dirsX d s t is at_ s.FDirs.l 0) := by
  refine Eff.of (dirs_loop hd s ht is at_ s.FDirs.l 0 hl) rfl fun c hc => ?_
  unfold fields_checker_dirs_q
  exact Q.some_bind _
end Go.Proofs

namespace Go.Proofs
open Go Go.Ab
def sTypename : Bs := [95, 95, 116, 121, 112, 101, 110, 97, 109, 101]
def typeX (d : TDoc) (on_ f : Bs) : TRef × Bool :=
  bif !schema_Composite_q d on_ then (⟨[], Sl.nil⟩, false)
  else bif f == sTypename then (⟨[83, 116, 114, 105, 110, 103], ⟨false, [1]⟩⟩, true)
  else bif !(fndF (fnd d.FDefs.l on_).1.FFields.l f).2 then (⟨[], Sl.nil⟩, false)
  else (⟨(fndF (fnd d.FDefs.l on_).1.FFields.l f).1.FType.FName, (fndF (fnd d.FDefs.l on_).1.FFields.l f).1.FType.FWraps⟩, true)
theorem type_eq {d : TDoc} (hd : DefsOk d) (on_ f : Bs) : fields_Type_q d on_ f = some (typeX d on_ f) := by
  unfold fields_Type_q typeX
  simp only [on, find_eq, fieldOf_eq, typeref_Named_q, clone_eq (fieldOk (find_ok hd on_).2.2.1 f).1, Option.bind_some]
  have hs : typeref_NonNull_q ⟨[83, 116, 114, 105, 110, 103], Sl.nil⟩ = some ⟨[83, 116, 114, 105, 110, 103], ⟨false, [1]⟩⟩ := by kernel_rfl
  rw [hs]
  cases schema_Composite_q d on_ with
  | false => rfl
  | true =>
    simp only [Bool.not_true, cond_false]
    show (bif f == sTypename then _ else _) = some (bif f == sTypename then _ else _)
    cases f == sTypename with
    | true => rfl
    | false =>
      simp only [cond_false]
      cases (fndF (fnd d.FDefs.l on_).1.FFields.l f).2 <;> rfl
theorem typeX_ok {d : TDoc} (hd : DefsOk d) (on_ f : Bs) : SOk (typeX d on_ f).1.FWraps := by
  have h1 := (fieldOk (find_ok hd on_).2.2.1 f).1
  unfold typeX
  cases schema_Composite_q d on_ with
  | false => exact ⟨fun _ => rfl, by simp [Sl.nil]⟩
  | true =>
    simp only [Bool.not_true, cond_false]
    cases f == sTypename with
    | true => exact ⟨fun h => (by cases h), by simp⟩
    | false =>
      simp only [cond_false]
      cases (fndF (fnd d.FDefs.l on_).1.FFields.l f).2 with
      | false => exact ⟨fun _ => rfl, by simp [Sl.nil]⟩
      | true => exact h1
def keyX (s : TSel) : Bs := bif s.FAlias == [] then s.FName else s.FAlias
def placeX (s : TSel) (at_ : Bs) : Bs := at_ ++ ([47] ++ keyX s)
def defX (d : TDoc) (s : TSel) (on_ : Bs) : TField := bif !(s.FName == sTypename) then (fndF (fnd d.FDefs.l on_).1.FFields.l s.FName).1 else ⟨[], Sl.nil, TRef.zero, Sl.nil⟩
def leafX (d : TDoc) (s : TSel) (t : TRef) (at_ : Bs) : List TFault :=
  flt ((schema_Leaf_q d t.FName && decide ((0 : Int) < ((s.FSels.l.length : Nat) : Int))) || ((bif !(schema_Leaf_q d t.FName && decide ((0 : Int) < ((s.FSels.l.length : Nat) : Int))) then schema_Composite_q d t.FName else false) && decide (((s.FSels.l.length : Nat) : Int) = 0))) 21 at_
/-- The violations of a field itself, at its place. -/
def ownX (d : TDoc) (s : TSel) (on_ at_ : Bs) : List TFault :=
  flt (text_Reserved_q s.FAlias) 6 at_ ++ (flt ((!(typeX d on_ s.FName).2) && (bif !(typeX d on_ s.FName).2 then schema_Composite_q d on_ else false)) 20 at_ ++
    ((bif (typeX d on_ s.FName).2 then leafX d s (typeX d on_ s.FName).1 at_ ++ (knownX d (defX d s on_).FArgs s.FArgs false at_ s.FArgs.l 0 ++ needX at_ s.FArgs (defX d s on_).FArgs.l) else []) ++
      dirsX d s (typeX d on_ s.FName).1 (typeX d on_ s.FName).2 at_ s.FDirs.l 0))
def selX (k : List TSel → Bs → Bs → List TFault) (d : TDoc) (on_ at_ : Bs) (s : TSel) : List TFault :=
  bif decide (s.FKind = 2) then dirsX d s ⟨[], Sl.nil⟩ false at_ s.FDirs.l 0
  else bif decide (s.FKind = 3) then dirsX d s ⟨[], Sl.nil⟩ false at_ s.FDirs.l 0 ++ k s.FSels.l (bif !(s.FOn == []) then s.FOn else on_) at_
  else ownX d s on_ (placeX s at_) ++ k s.FSels.l (typeX d on_ s.FName).1.FName (placeX s at_)
def selsX : Nat → TDoc → List TSel → Bs → Bs → List TFault
  | 0, _, _, _, _ => []
  | n + 1, d, l, on_, at_ => l.flatMap (selX (selsX n d) d on_ at_)
theorem defX_ok {d : TDoc} (hd : DefsOk d) (s : TSel) (on_ : Bs) : (defX d s on_).FArgs.l.length ≤ 1048576 ∧ ∀ i ∈ (defX d s on_).FArgs.l, SOk i.FType.FWraps := by
  unfold defX
  cases s.FName == sTypename with
  | true => exact ⟨by simp [Sl.nil], fun i hi => by cases hi⟩
  | false => exact (fieldOk (find_ok hd on_).2.2.1 _).2
theorem nil_ok : SOk (TRef.mk [] Sl.nil).FWraps := ⟨fun _ => rfl, by simp [Sl.nil]⟩
theorem TSel.dir_le {s : TSel} (hs : s.sz ≤ 1048576) : (∀ a ∈ s.FDirs.l, a.sz ≤ 1048576) ∧ ∀ a ∈ s.FArgs.l, a.sz ≤ 1048576 := by
  have h := s.sz_def
  exact ⟨fun a ha => by have := Sl.mem_le (f := TDir.sz) ha; omega, fun a ha => by have := Sl.mem_le (f := TArg.sz) ha; omega⟩
theorem TSel.key_le (s : TSel) (at_ : Bs) : (placeX s at_).length + Sl.sz TSel.sz s.FSels ≤ at_.length + s.sz := by
  have h := s.sz_def
  have h1 : Bs.sz s.FAlias = s.FAlias.length + 1 := rfl
  have h2 : Bs.sz s.FName = s.FName.length + 1 := rfl
  unfold placeX keyX
  cases s.FAlias == [] <;> simp <;> omega
theorem Eff.bindSome {d : TDoc} {f : Fields_checker → Option Fields_checker} {X : List TFault} (h : Eff d f X) : Eff d (fun c => (f c).bind fun x => some x) X := fun c hc hb => by
  show (f c).bind some = _
  rw [Q.some_bind]; exact h c hc hb
theorem loop_eff {d : TDoc} (on_ at_ : Bs) (k : Fields_checker → Sl TSel → Bs → Bs → Option Fields_checker) (kf : Fields_checker → TSel → Bs → Bs → Option Fields_checker) (X : TSel → List TFault) (l : List TSel)
    (h : ∀ s ∈ l, Eff d (fun c => bif decide (s.FKind = 2) then (fields_checker_dirs_q c s ⟨[], Sl.nil⟩ false at_) else (bif decide (s.FKind = 3) then ((fields_checker_dirs_q c s ⟨[], Sl.nil⟩ false at_).bind fun x => k x s.FSels (bif !(s.FOn == []) then s.FOn else on_) at_) else (kf c s on_ at_))) (X s)) :
    Eff d (fun c => fields_checker_sels_q3 on_ at_ k kf l c) (l.flatMap X) := by
  induction l with
  | nil => exact Eff.id
  | cons s r ih =>
    refine Eff.of ((h s List.mem_cons_self).bind (ih fun y hy => h y (List.mem_cons_of_mem _ hy))) (by simp) fun c hc => ?_
    rw [fields_checker_sels_q3]
    simp only [on, Q.some_bind]
theorem add_bind {c : Fields_checker} {b : Bool} {e : Int} {a : Bs} {k k' : Fields_checker → Option Fields_checker} (h : ∀ x : Fields_checker, x.Fd = c.Fd → k x = k' x) : (fields_checker_add_q c b e a).bind k = (fields_checker_add_q c b e a).bind k' := by
  unfold fields_checker_add_q
  cases b with
  | false => exact h c rfl
  | true =>
    simp only [cond_true]
    cases appC 24 c.Fout ⟨false, [⟨e, a⟩]⟩ with
    | none => rfl
    | some x => exact h _ rfl
theorem sels_tot {d : TDoc} (hd : DefsOk d) (n : Nat) :
    (∀ (l : Sl TSel) (on_ at_ : Bs) (m : Nat), 2 * Sl.sz TSel.sz l < n → Sl.sz TSel.sz l ≤ 1048576 → at_.length + Sl.sz TSel.sz l ≤ 1073741824 → Sl.sz TSel.sz l ≤ m → Eff d (fun c => fields_checker_sels_qn n c l on_ at_) (selsX m d l.l on_ at_)) ∧
    (∀ (s : TSel) (on_ at_ : Bs) (m : Nat), 2 * s.sz < n → s.sz ≤ 1048576 → at_.length + s.sz ≤ 1073741824 → s.sz ≤ m → Eff d (fun c => fields_checker_field_qn n c s on_ at_) (ownX d s on_ (placeX s at_) ++ selsX m d s.FSels.l (typeX d on_ s.FName).1.FName (placeX s at_))) := by
  induction n with
  | zero => exact ⟨fun _ _ _ _ h => by omega, fun _ _ _ _ h => by omega⟩
  | succ n ih =>
    obtain ⟨ih1, ih2⟩ := ih
    refine ⟨fun l on_ at_ m h1 h2 h3 h4 => ?_, fun s on_ at_ m h1 h2 h3 h4 => ?_⟩
    · obtain ⟨m, rfl⟩ : ∃ k, m = k + 1 := ⟨m - 1, by have : 1 ≤ Sl.sz TSel.sz l := Sl.sz_pos _ _; omega⟩
      refine Eff.of (loop_eff on_ at_ (fields_checker_sels_qn n) (fields_checker_field_qn n) (selX (selsX m d) d on_ at_) l.l fun s hs => ?_) rfl fun c hc => by rw [fields_checker_sels_qn]; exact Q.some_bind _
      have h5 := Sl.mem_le (f := TSel.sz) hs
      have h6 := s.sub_lt
      have h7 := TSel.dir_le (s := s) (by omega)
      unfold selX
      exact Eff.cond _ (dirs_eff hd s nil_ok false at_ h7.1) (Eff.cond _ ((dirs_eff hd s nil_ok false at_ h7.1).bind (ih1 _ _ _ m (by omega) (by omega) (by omega) (by omega))) (ih2 s on_ at_ m (by omega) (by omega) (by omega) (by omega)))
    · have h6 := s.sub_lt
      have h7 := TSel.dir_le (s := s) (by omega)
      have h8 := s.key_le at_
      have hk : (keyX s).length + 1 ≤ s.sz := by have := s.sz_def; unfold placeX at h8; simp at h8; omega
      have e1 : catC [47] (keyX s) = some ([47] ++ keyX s) := catC_ok (by simp; omega)
      have e2 : catC at_ ([47] ++ keyX s) = some (placeX s at_) := catC_ok (by simp; omega)
      have hD := defX_ok hd s on_
      have hT := typeX_ok hd on_ s.FName
      have hmid : Eff d (fun c => Option.bind (bif (typeX d on_ s.FName).2 then ((fields_checker_add_q c ((schema_Leaf_q d (typeX d on_ s.FName).1.FName && decide ((0 : Int) < ((s.FSels.l.length : Nat) : Int))) || ((bif !(schema_Leaf_q d (typeX d on_ s.FName).1.FName && decide ((0 : Int) < ((s.FSels.l.length : Nat) : Int))) then schema_Composite_q d (typeX d on_ s.FName).1.FName else false) && decide (((s.FSels.l.length : Nat) : Int) = 0))) 21 (placeX s at_)).bind fun x => (fields_checker_known_q x (defX d s on_).FArgs s.FArgs false (placeX s at_)).bind fun y => fields_checker_field_q37 s (placeX s at_) (defX d s on_).FArgs.l y) else some c) fun y => fields_checker_dirs_q y s (typeX d on_ s.FName).1 (typeX d on_ s.FName).2 (placeX s at_)) ((bif (typeX d on_ s.FName).2 then leafX d s (typeX d on_ s.FName).1 (placeX s at_) ++ (knownX d (defX d s on_).FArgs s.FArgs false (placeX s at_) s.FArgs.l 0 ++ needX (placeX s at_) s.FArgs (defX d s on_).FArgs.l) else []) ++
      dirsX d s (typeX d on_ s.FName).1 (typeX d on_ s.FName).2 (placeX s at_) s.FDirs.l 0) :=
        (Eff.cond _ ((add_eff d _ 21 _).bind ((known_eff hd _ hD.2 s.FArgs false _ h7.2).bind (need_eff d _ s _))) Eff.id).bind (dirs_eff hd s hT _ _ h7.1)
      refine Eff.of (((add_eff d (text_Reserved_q s.FAlias) 6 (placeX s at_)).bind ((add_eff d ((!(typeX d on_ s.FName).2) && (bif !(typeX d on_ s.FName).2 then schema_Composite_q d on_ else false)) 20 (placeX s at_)).bind hmid)).bind (ih1 s.FSels (typeX d on_ s.FName).1.FName (placeX s at_) m (by omega) (by omega) (by omega) (by omega))) rfl fun c hc => ?_
      rw [fields_checker_field_qn]
      simp only [on, find_eq, fieldOf_eq, Q.some_bind]
      show ((catC [47] (keyX s)).bind fun x6 => (catC at_ x6).bind _) = _
      rw [e1, Option.bind_some, e2, Option.bind_some]
      simp only [Option.bind_assoc]
      refine add_bind fun x10 h10 => ?_
      simp only [h10, hc, type_eq hd, Option.bind_some]
      refine add_bind fun x15 h15 => ?_
      simp only [h15, h10, hc]
      refine congrArg (fun z => Option.bind (cond _ z _) _) ?_
      refine add_bind fun x27 h27 => ?_
      simp only [h27, h15, h10, hc]
      rfl
end Go.Proofs

namespace Go.Proofs
open Go Go.Ab
/-! The response keys of root fields, and Check as a whole. -/
def unseen (fr : Sl TFrag) (seen : List Bs) : Nat := (fr.l.filter fun f => !seen.contains f.FName).length
theorem filter_le {α : Type} {p q : α → Bool} {l : List α} (h : ∀ x ∈ l, p x = true → q x = true) : (l.filter p).length ≤ (l.filter q).length := by
  induction l with
  | nil => simp
  | cons a r ih =>
    have := ih fun x hx => h x (List.mem_cons_of_mem _ hx)
    have h1 := h a List.mem_cons_self
    simp only [List.filter_cons]
    cases hp : p a <;> cases hq : q a <;> simp_all <;> omega
theorem filter_lt {α : Type} {p q : α → Bool} {l : List α} {y : α} (h : ∀ x ∈ l, p x = true → q x = true) (hy : y ∈ l) (h1 : p y = false) (h2 : q y = true) : (l.filter p).length < (l.filter q).length := by
  induction l with
  | nil => cases hy
  | cons a r ih =>
    have h3 := filter_le (l := r) (p := p) (q := q) fun x hx => h x (List.mem_cons_of_mem _ hx)
    simp only [List.filter_cons]
    rcases List.mem_cons.1 hy with rfl | hy
    · simp [h1, h2]; omega
    · have := ih (fun x hx => h x (List.mem_cons_of_mem _ hx)) hy
      have h4 := h a List.mem_cons_self
      cases hp : p a <;> cases hq : q a <;> simp_all <;> omega
theorem unseen_le {fr : Sl TFrag} {a b : List Bs} (h : ∀ s ∈ a, s ∈ b) : unseen fr b ≤ unseen fr a := filter_le fun x _ hp => by
  simp at hp ⊢; exact fun h2 => hp (h _ h2)
theorem unseen_lt {fr : Sl TFrag} {a b : List Bs} (h : ∀ s ∈ a, s ∈ b) {f : TFrag} (hf : f ∈ fr.l) (h1 : f.FName ∉ a) (h2 : f.FName ∈ b) : unseen fr b < unseen fr a :=
  filter_lt (fun x _ hp => by simp at hp ⊢; exact fun h2 => hp (h _ h2)) hf (by simpa using h2) (by simpa using h1)
theorem mem_insS {l : List Bs} {s t : Bs} (h : t ∈ l) : t ∈ insS l s := by unfold insS; split <;> simp [h]
theorem self_insS (l : List Bs) (s : Bs) : s ∈ insS l s := by
  unfold insS; split
  · rename_i h; simpa using h
  · simp
/-- The same result for every checker with these fragments, which keeps what was seen. -/
def Root (fr : Sl TFrag) (f : Fields_checker → Option (List Bs × List Bs)) (seen : List Bs) : Prop := ∃ r, (∀ c : Fields_checker, c.Fq.FFrags = fr → f c = some r) ∧ ∀ s ∈ seen, s ∈ r.2
theorem Root.bind {fr : Sl TFrag} {f : Fields_checker → Option (List Bs × List Bs)} {g : Fields_checker → List Bs × List Bs → Option (List Bs × List Bs)} {seen : List Bs} (h : Root fr f seen) (h2 : ∀ r : List Bs × List Bs, (∀ s ∈ seen, s ∈ r.2) → Root fr (fun c => g c r) r.2) : Root fr (fun c => (f c).bind (g c)) seen := by
  obtain ⟨r, h3, h4⟩ := h
  obtain ⟨r2, h5, h6⟩ := h2 r h4
  exact ⟨r2, fun c hc => by show (f c).bind _ = _; rw [h3 c hc, Option.bind_some]; exact h5 c hc, fun s hs => h6 s (h4 s hs)⟩
theorem Root.some {fr : Sl TFrag} {r : List Bs × List Bs} {seen : List Bs} (h : ∀ s ∈ seen, s ∈ r.2) : Root fr (fun _ => Option.some r) seen := ⟨r, fun _ _ => rfl, h⟩
theorem roots_in {fr : Sl TFrag} (x : TSel) (k : Fields_checker → Sl TSel → List Bs → List Bs → Option (List Bs × List Bs)) (seen0 : List Bs) (l : List TFrag) (hl : ∀ f ∈ l, f ∈ fr.l)
    (hk : ∀ (f : TFrag) keys seen, f ∈ fr.l → unseen fr seen < unseen fr seen0 → Root fr (fun c => k c f.FSels keys seen) seen) (keys seen : List Bs) (hs : ∀ s ∈ seen0, s ∈ seen) : Root fr (fun c => fields_checker_roots_q23 c x k l keys seen) seen := by
  induction l generalizing keys seen with
  | nil => exact Root.some fun _ h => h
  | cons f r ih =>
    have ih := ih fun y hy => hl y (List.mem_cons_of_mem _ hy)
    have hf := hl f List.mem_cons_self
    have key : Root fr (fun c => bif (((f.FName == x.FName)) && (!(seen.contains x.FName))) then ((k c f.FSels keys (insS seen x.FName)).bind fun x38 => some (x38.1, x38.2)) else (some (keys, seen))) seen := by
      cases hc : ((f.FName == x.FName)) && (!(seen.contains x.FName)) with
      | false => exact Root.some fun _ h => h
      | true =>
        simp at hc
        have h1 : unseen fr (insS seen x.FName) < unseen fr seen0 := Nat.lt_of_lt_of_le (unseen_lt (fun s h => mem_insS h) hf (by rw [hc.1]; exact hc.2) (by rw [hc.1]; exact self_insS _ _)) (unseen_le hs)
        obtain ⟨r, h2, h3⟩ := hk f keys (insS seen x.FName) hf h1
        exact ⟨r, fun c hcc => by show Option.bind _ _ = _; rw [show k c f.FSels keys (insS seen x.FName) = _ from h2 c hcc]; rfl, fun s h => h3 s (mem_insS h)⟩
    obtain ⟨r1, h1, h2⟩ := key.bind (g := fun c z => fields_checker_roots_q23 c x k r z.1 z.2) fun z hz => ih z.1 z.2 fun s h => hz s (hs s h)
    exact ⟨r1, fun c hc => by show fields_checker_roots_q23 c x k (f :: r) keys seen = _; rw [fields_checker_roots_q23]; exact h1 c hc, h2⟩
theorem roots_loop {fr : Sl TFrag} (k : Fields_checker → Sl TSel → List Bs → List Bs → Option (List Bs × List Bs)) (seen0 : List Bs) (l : List TSel)
    (hk : ∀ (f : TFrag) keys seen, f ∈ fr.l → unseen fr seen < unseen fr seen0 → Root fr (fun c => k c f.FSels keys seen) seen)
    (hk2 : ∀ (s : TSel) keys seen, s ∈ l → (∀ x ∈ seen0, x ∈ seen) → Root fr (fun c => k c s.FSels keys seen) seen) (keys seen : List Bs) (hs : ∀ s ∈ seen0, s ∈ seen) : Root fr (fun c => fields_checker_roots_q3 c k l keys seen) seen := by
  induction l generalizing keys seen with
  | nil => exact Root.some fun _ h => h
  | cons x r ih =>
    have ih := ih fun s ks sn h => hk2 s ks sn (List.mem_cons_of_mem _ h)
    have key : Root fr (fun c => bif (decide (x.FKind = (3 : Int))) then ((k c x.FSels keys seen).bind fun x18 => some (x18.1, x18.2)) else (bif (decide (x.FKind = (2 : Int))) then (Option.bind (fields_checker_roots_q23 c x k c.Fq.FFrags.l keys seen) fun z23 => some (z23.1, z23.2)) else (bif (!(x.FAlias == ([] : Bs))) then (some ((insS keys x.FAlias), seen)) else (some ((insS keys x.FName), seen))))) seen := by
      cases decide (x.FKind = (3 : Int)) with
      | true =>
        obtain ⟨r, h2, h3⟩ := hk2 x keys seen List.mem_cons_self hs
        exact ⟨r, fun c hcc => by show Option.bind _ _ = _; rw [show k c x.FSels keys seen = _ from h2 c hcc]; rfl, h3⟩
      | false =>
        cases decide (x.FKind = (2 : Int)) with
        | true =>
          obtain ⟨r, h2, h3⟩ := roots_in x k seen0 fr.l (fun f hf => hf) hk keys seen hs
          exact ⟨r, fun c hcc => by show Option.bind (fields_checker_roots_q23 c x k c.Fq.FFrags.l keys seen) _ = _; rw [hcc, show fields_checker_roots_q23 c x k fr.l keys seen = _ from h2 c hcc]; rfl, h3⟩
        | false =>
          cases !(x.FAlias == ([] : Bs)) with
          | true => exact Root.some (r := (insS keys x.FAlias, seen)) fun _ h => h
          | false => exact Root.some (r := (insS keys x.FName, seen)) fun _ h => h
    obtain ⟨r1, h1, h2⟩ := key.bind (g := fun c z => fields_checker_roots_q3 c k r z.1 z.2) fun z hz => ih z.1 z.2 fun s h => hz s (hs s h)
    exact ⟨r1, fun c hc => by show fields_checker_roots_q3 c k (x :: r) keys seen = _; rw [fields_checker_roots_q3]; exact h1 c hc, h2⟩
theorem roots_tot {fr : Sl TFrag} (hfr : ∀ f ∈ fr.l, Sl.sz TSel.sz f.FSels ≤ 1048576) (n : Nat) : ∀ (l : Sl TSel) (keys seen : List Bs), Sl.sz TSel.sz l ≤ 1048576 → Sl.sz TSel.sz l + unseen fr seen * 2097152 < n → Root fr (fun c => fields_checker_roots_qn n c l keys seen) seen := by
  induction n with
  | zero => intro l keys seen _ h; omega
  | succ n ih =>
    intro l keys seen h1 h2
    obtain ⟨r, h3, h4⟩ := roots_loop (fr := fr) (fields_checker_roots_qn n) seen l.l (fun f ks sn hf hu => ih _ _ _ (hfr f hf) (by have := hfr f hf; omega))
      (fun s ks sn hs hsn => ih _ _ _ (by have := Sl.mem_le (f := TSel.sz) hs; have := s.sub_lt; omega) (by have := Sl.mem_le (f := TSel.sz) hs; have := s.sub_lt; have := unseen_le (fr := fr) hsn; omega)) keys seen fun _ h => h
    exact ⟨r, fun c hc => by show fields_checker_roots_qn (n + 1) c l keys seen = _; rw [fields_checker_roots_qn]; rw [show fields_checker_roots_q3 c (fields_checker_roots_qn n) l.l keys seen = _ from h3 c hc]; rfl, h4⟩
def bare (fr : Sl TFrag) : Fields_checker := ⟨⟨Sl.nil⟩, ⟨Sl.nil, fr⟩, Sl.nil⟩
def keysX (fr : Sl TFrag) (l : Sl TSel) : List Bs := ((fields_checker_roots_q (bare fr) l [] []).getD ([], [])).1
theorem roots_eq {fr : Sl TFrag} (hfr : ∀ f ∈ fr.l, Sl.sz TSel.sz f.FSels ≤ 1048576) (hl : fr.l.length ≤ 1048576) (l : Sl TSel) (h : Sl.sz TSel.sz l ≤ 1048576) (c : Fields_checker) (hc : c.Fq.FFrags = fr) : ∃ y, fields_checker_roots_q c l [] [] = some (keysX fr l, y) := by
  have hu : unseen fr [] ≤ 1048576 := Nat.le_trans (List.length_filter_le _ _) hl
  obtain ⟨r, h1, _⟩ := roots_tot hfr F0 l [] [] h (by rw [F0_eq]; omega)
  have e1 : fields_checker_roots_q c l [] [] = some r := h1 c hc
  have e2 : fields_checker_roots_q (bare fr) l [] [] = some r := h1 _ rfl
  exact ⟨r.2, by rw [e1]; simp [keysX, e2]⟩
/-! ### Check -/
def M0 : Nat := 2097152
def opX (d : TDoc) (fr : Sl TFrag) (o : TOp) : List TFault :=
  flt ((((!(fnd d.FDefs.l (schema_Root_q o.FKind)).2) || (!decide ((fnd d.FDefs.l (schema_Root_q o.FKind)).1.FKind = (1 : Int)))) || ((decide (o.FKind = (3 : Int))) && (!decide ((((seenM (keysX fr o.FSels)).length : Nat) : Int) = (1 : Int)))))) 30 o.FName ++ selsX M0 d o.FSels.l (schema_Root_q o.FKind) o.FName
def fragX (d : TDoc) (f : TFrag) : List TFault := selsX M0 d f.FSels.l f.FOn f.FName
theorem sels_eff {d : TDoc} (hd : DefsOk d) (l : Sl TSel) (on_ at_ : Bs) (h : Sl.sz TSel.sz l ≤ 1048576) (h2 : at_.length ≤ 1048576) : Eff d (fun c => fields_checker_sels_q c l on_ at_) (selsX M0 d l.l on_ at_) :=
  (sels_tot hd F0).1 l on_ at_ M0 (by rw [F0_eq]; omega) h (by omega) (by unfold M0; omega)
theorem frags_eff {d : TDoc} (hd : DefsOk d) (l : List TFrag) (hl : ∀ f ∈ l, f.sz ≤ 1048576) : Eff d (fun c => fields_Check_q12 l c) (l.flatMap (fragX d)) := by
  induction l with
  | nil => exact Eff.id
  | cons f r ih =>
    have h1 := hl f List.mem_cons_self
    have h2 := f.sz_def; have h3 : Bs.sz f.FName = f.FName.length + 1 := rfl
    refine Eff.of ((sels_eff hd f.FSels f.FOn f.FName (by omega) (by omega)).bind (ih fun y hy => hl y (List.mem_cons_of_mem _ hy))) (by simp [fragX]) fun c hc => ?_
    rw [fields_Check_q12]; rfl
theorem ops_eff {d : TDoc} (hd : DefsOk d) {fr : Sl TFrag} (hfr : ∀ f ∈ fr.l, Sl.sz TSel.sz f.FSels ≤ 1048576) (hfl : fr.l.length ≤ 1048576) (l : List TOp) (hl : ∀ f ∈ l, f.sz ≤ 1048576) (c : Fields_checker) (hc : c.Fd = d) (hq : c.Fq.FFrags = fr) (hb : c.Fout.l.length + (l.flatMap (opX d fr)).length ≤ 4398046511104) :
    fields_Check_q24 d l c = some (addF c (l.flatMap (opX d fr))) := by
  induction l generalizing c with
  | nil => rw [fields_Check_q24]; simp [addF_nil]
  | cons o r ih =>
    have h1 := hl o List.mem_cons_self
    have h2 := o.sz_def; have h3 : Bs.sz o.FName = o.FName.length + 1 := rfl
    simp only [List.flatMap_cons, List.length_append] at hb ⊢
    have he : Eff d _ (opX d fr o) := (add_eff d ((((!(fnd d.FDefs.l (schema_Root_q o.FKind)).2) || (!decide ((fnd d.FDefs.l (schema_Root_q o.FKind)).1.FKind = (1 : Int)))) || ((decide (o.FKind = (3 : Int))) && (!decide ((((seenM (keysX fr o.FSels)).length : Nat) : Int) = (1 : Int)))))) 30 o.FName).bind (sels_eff hd o.FSels (schema_Root_q o.FKind) o.FName (by omega) (by omega))
    obtain ⟨y, hy⟩ := roots_eq hfr hfl o.FSels (by omega) c hq
    have h4 := he c hc (by omega)
    dsimp only at h4
    rw [fields_Check_q24]
    simp only [on, find_eq, hy, Option.bind_some]
    rw [← Option.bind_assoc, h4, Option.bind_some, ih (fun y hy => hl y (List.mem_cons_of_mem _ hy)) (addF c (opX d fr o)) hc hq (by simp only [addF, List.length_append]; omega), addF_add]
def checkX (d : TDoc) (q : TQuery) : List TFault := q.FOps.l.flatMap (opX d q.FFrags) ++ q.FFrags.l.flatMap (fragX d)
theorem check_eq {d : TDoc} (hd : DefsOk d) (q : TQuery) (hq : q.sz ≤ 1048576) (hb : (checkX d q).length ≤ 4398046511104) : ∃ nl, fields_Check_q d q = some ⟨nl, checkX d q⟩ := by
  have hl := q.lens
  unfold checkX at *
  simp only [List.length_append] at hb
  have h1 := ops_eff hd (fr := q.FFrags) (fun f hf => by have := TQuery.frag_le hf; have := f.sz_def; omega) (by omega) q.FOps.l (fun o ho => by have := TQuery.op_le ho; omega) ⟨d, q, Sl.nil⟩ rfl rfl (by simp only [Sl.nil, List.length_nil]; omega)
  have h2 := frags_eff hd q.FFrags.l (fun f hf => by have := TQuery.frag_le hf; omega) (addF ⟨d, q, Sl.nil⟩ (q.FOps.l.flatMap (opX d q.FFrags))) rfl (by simp only [addF, Sl.nil, List.nil_append]; omega)
  unfold fields_Check_q
  rw [h1]
  simp only [Option.bind_some, on]
  rw [show fields_Check_q12 q.FFrags.l (addF ⟨d, q, Sl.nil⟩ (q.FOps.l.flatMap (opX d q.FFrags))) = _ from h2]
  exact ⟨_, by simp [addF, Sl.nil]; rfl⟩
end Go.Proofs



namespace Go.Proofs
open Go Go.Ab
set_option maxRecDepth 100000 in
theorem knows14 : law14_knows = some true := by kernel_rfl
end Go.Proofs

namespace Go.Proofs
open Go Go.Ab
/-! How many violations there are, and the law FieldsParts. -/
theorem cond_le {α : Type} {n : Nat} (c : Bool) {a b : List α} (h1 : a.length ≤ n) (h2 : b.length ≤ n) : (cond c a b).length ≤ n := by cases c <;> assumption
theorem flt_le (b : Bool) (e : Int) (a : Bs) : (flt b e a).length ≤ 1 := by cases b <;> simp [flt]
theorem knownX_le (d : TDoc) (defs : Sl TInput) (all : Sl TArg) (st : Bool) (a : Bs) (l : List TArg) (i : Nat) : (knownX d defs all st a l i).length ≤ l.length := by
  induction l generalizing i with
  | nil => simp [knownX]
  | cons x r ih =>
    have := ih (i + 1)
    rw [knownX]
    cases (!(fndI defs.l x.FName).2) || (fields_given_q ⟨all.nl, all.l.take i⟩ x.FName).2 with
    | true => have := flt_le true 22 a; simp; omega
    | false => have := flt_le ((!fitsB d (fndI defs.l x.FName).1.FType x.FValue) || (st && badV x.FValue)) 23 a; simp; omega
theorem missX_le (a : Bs) (x : Sl TArg) (l : List TInput) : (missX a x l).length ≤ l.length := by
  induction l with
  | nil => simp [missX]
  | cons y r ih => have := flt_le (!(fields_given_q x y.FName).2) 22 a; rw [missX]; simp; omega
theorem needX_le (a : Bs) (x : Sl TArg) (l : List TInput) : (needX a x l).length ≤ l.length := by
  induction l with
  | nil => simp [needX]
  | cons y r ih => have := flt_le ((typeref_IsNonNull_q y.FType && !y.FHas) && !(fields_given_q x y.FName).2) 22 a; rw [needX]; simp; omega
theorem dirX_le (d : TDoc) (s : TSel) (t : TRef) (is : Bool) (a : Bs) (x : TDir) (i : Nat) : (dirX d s t is a x i).length ≤ x.sz := by
  have h := x.sz_def; have h2 := Sl.len_lt (f := TArg.sz) x.FArgs TArg.pos; have h3 := Bs.sz_pos x.FName
  have h4 := knownX_le d (defsX ((!decide (s.FKind = 2)) && !decide (s.FKind = 3)) t is x) x.FArgs ((x.FName == [100, 101, 102, 101, 114]) || (x.FName == [115, 116, 114, 101, 97, 109])) a x.FArgs.l 0
  have h5 := missX_le a x.FArgs (defsX ((!decide (s.FKind = 2)) && !decide (s.FKind = 3)) t is x).l
  have h6 := (defsX_ok ((!decide (s.FKind = 2)) && !decide (s.FKind = 3)) t is x).1
  have h7 := flt_le true 29 a
  unfold dirX
  refine cond_le _ (by omega) ?_
  simp only [List.length_append]; omega
theorem dirsX_le (d : TDoc) (s : TSel) (t : TRef) (is : Bool) (a : Bs) (l : List TDir) (i : Nat) : (dirsX d s t is a l i).length ≤ (l.map TDir.sz).sum := by
  induction l generalizing i with
  | nil => simp [dirsX]
  | cons x r ih => have := ih (i + 1); have := dirX_le d s t is a x i; rw [dirsX]; simp; omega
theorem ownX_le {d : TDoc} (hd : DefsOk d) (s : TSel) (on_ a : Bs) : (ownX d s on_ a).length ≤ 1048579 + s.FArgs.l.length + (s.FDirs.l.map TDir.sz).sum := by
  have h1 := flt_le (text_Reserved_q s.FAlias) 6 a
  have h2 := flt_le ((!(typeX d on_ s.FName).2) && (bif !(typeX d on_ s.FName).2 then schema_Composite_q d on_ else false)) 20 a
  have h3 := dirsX_le d s (typeX d on_ s.FName).1 (typeX d on_ s.FName).2 a s.FDirs.l 0
  have h4 := knownX_le d (defX d s on_).FArgs s.FArgs false a s.FArgs.l 0
  have h5 := needX_le a s.FArgs (defX d s on_).FArgs.l
  have h6 := (defX_ok hd s on_).1
  have h7 : (leafX d s (typeX d on_ s.FName).1 a).length ≤ 1 := flt_le _ _ _
  have h8 : (bif (typeX d on_ s.FName).2 then leafX d s (typeX d on_ s.FName).1 a ++ (knownX d (defX d s on_).FArgs s.FArgs false a s.FArgs.l 0 ++ needX a s.FArgs (defX d s on_).FArgs.l) else []).length ≤ 1048577 + s.FArgs.l.length := by
    refine cond_le _ ?_ (by simp)
    simp only [List.length_append]; omega
  unfold ownX
  simp only [List.length_append]; omega
theorem flatMap_le {α β : Type} {f : α → List β} {g : α → Nat} {l : List α} (h : ∀ x ∈ l, (f x).length ≤ g x * 2097152) : (l.flatMap f).length ≤ (l.map g).sum * 2097152 := by
  induction l with
  | nil => simp
  | cons x r ih =>
    have h1 := h x List.mem_cons_self; have h2 := ih fun y hy => h y (List.mem_cons_of_mem _ hy)
    simp only [List.flatMap_cons, List.length_append, List.map_cons, List.sum_cons]; omega
theorem selX_le {d : TDoc} (hd : DefsOk d) (k : List TSel → Bs → Bs → List TFault) (on_ a : Bs) (s : TSel) (hk : ∀ on2 a2, (k s.FSels.l on2 a2).length ≤ (s.FSels.l.map TSel.sz).sum * 2097152) : (selX k d on_ a s).length ≤ s.sz * 2097152 := by
  have h := s.sz_def
  have h1 : Sl.sz TSel.sz s.FSels = 1 + (s.FSels.l.map TSel.sz).sum := rfl
  have h2 : Sl.sz TDir.sz s.FDirs = 1 + (s.FDirs.l.map TDir.sz).sum := rfl
  have h3 := Sl.len_lt (f := TArg.sz) s.FArgs TArg.pos
  have h4 := dirsX_le d s ⟨[], Sl.nil⟩ false a s.FDirs.l 0
  have h5 := ownX_le hd s on_ (placeX s a)
  have h6 := hk (bif !(s.FOn == []) then s.FOn else on_) a
  have h7 := hk (typeX d on_ s.FName).1.FName (placeX s a)
  unfold selX
  refine cond_le _ (by omega) (cond_le _ ?_ ?_) <;> simp only [List.length_append] <;> omega
theorem selsX_le {d : TDoc} (hd : DefsOk d) (n : Nat) (l : List TSel) (on_ a : Bs) : (selsX n d l on_ a).length ≤ (l.map TSel.sz).sum * 2097152 := by
  induction n generalizing l on_ a with
  | zero => simp [selsX]
  | succ n ih => rw [selsX]; exact flatMap_le fun s _ => selX_le hd _ on_ a s fun on2 a2 => ih _ _ _
theorem opX_le {d : TDoc} (hd : DefsOk d) (fr : Sl TFrag) (o : TOp) : (opX d fr o).length ≤ o.sz * 2097152 := by
  have h := o.sz_def
  have h1 : Sl.sz TSel.sz o.FSels = 1 + (o.FSels.l.map TSel.sz).sum := rfl
  have h2 := selsX_le hd M0 o.FSels.l (schema_Root_q o.FKind) o.FName
  have h3 := flt_le ((((!(fnd d.FDefs.l (schema_Root_q o.FKind)).2) || (!decide ((fnd d.FDefs.l (schema_Root_q o.FKind)).1.FKind = (1 : Int)))) || ((decide (o.FKind = (3 : Int))) && (!decide ((((seenM (keysX fr o.FSels)).length : Nat) : Int) = (1 : Int)))))) 30 o.FName
  unfold opX
  simp only [List.length_append]; omega
theorem fragX_le {d : TDoc} (hd : DefsOk d) (f : TFrag) : (fragX d f).length ≤ f.sz * 2097152 := by
  have h := f.sz_def
  have h1 : Sl.sz TSel.sz f.FSels = 1 + (f.FSels.l.map TSel.sz).sum := rfl
  unfold fragX
  exact Nat.le_trans (selsX_le hd M0 f.FSels.l f.FOn f.FName) (by omega)
theorem checkX_le {d : TDoc} (hd : DefsOk d) (q : TQuery) (hq : q.sz ≤ 1048576) : (q.FOps.l.flatMap (opX d q.FFrags)).length + (q.FFrags.l.flatMap (fragX d)).length ≤ 2199023255552 := by
  have h := q.sz_def
  have h1 : Sl.sz TOp.sz q.FOps = 1 + (q.FOps.l.map TOp.sz).sum := rfl
  have h2 : Sl.sz TFrag.sz q.FFrags = 1 + (q.FFrags.l.map TFrag.sz).sum := rfl
  have h3 := flatMap_le (l := q.FOps.l) (g := TOp.sz) fun o _ => opX_le hd q.FFrags o
  have h4 := flatMap_le (l := q.FFrags.l) (g := TFrag.sz) fun o _ => fragX_le hd o
  omega
theorem check_ok {d : TDoc} (hd : DefsOk d) (q : TQuery) (hq : q.sz ≤ 1048576) : ∃ nl, fields_Check_q d q = some ⟨nl, checkX d q⟩ :=
  check_eq hd q hq (by have := checkX_le hd q hq; unfold checkX; simp only [List.length_append]; omega)
/-! ### Equality of violations -/
theorem faults_loop (a b : Sl TFault) (l : List TFault) (i : Nat) (h : l = b.l.drop i) : r10_Faults_q11 b l i = some (Sum.inl ()) := by
  induction l generalizing i with
  | nil => rfl
  | cons x r ih =>
    have h1 : b.l[i]? = some x := by rw [← List.head?_drop, ← h]; rfl
    have h2 : r = b.l.drop (i + 1) := by rw [← List.tail_drop, ← h]; rfl
    rw [r10_Faults_q11]
    simp only [on, h1, Option.bind_some]
    rw [ih (i + 1) h2]
    simp
theorem faults_eq (a b : Sl TFault) (h : a.l = b.l) : r10_Faults_q a b = some true := by
  unfold r10_Faults_q
  rw [h, faults_loop a b b.l 0 rfl]
  simp [on]
/-! ### FieldsParts -/
theorem right_ok (d : TDoc) (q : TQuery) (hd : d.sz ≤ 1048576) (hq : q.sz ≤ 1048576) : Ok (law14_right_q d q) := by
  unfold law14_right_q
  have h1 := r10_Large_ok d hd; have h2 := r08_Large_ok q hq; have h3 := r06_Right_ok d hd; have h4 := r08_Right_ok q hq
  (repeat' (first | exact Tot.some _ | assumption | (with_reducible refine Tot.bind ?_ fun _ _ => ?_) | (with_reducible refine Tot.guard (fun _ => ?_) fun _ _ _ => ?_) | (with_reducible refine Tot.cond (fun _ => ?_) fun _ => ?_) | (with_reducible refine Tot.on fun _ _ => ?_) | split))
theorem parts_loop {d : TDoc} (hd : DefsOk d) (q : TQuery) (hq : q.sz ≤ 1048576) (F : Sl TFault) (hF : F.l = q.FFrags.l.flatMap (fragX d)) (l : List TOp) (i : Nat) (h : l = q.FOps.l.drop i) (W : Sl TFault) (hW : W.l.length + (l.flatMap (opX d q.FFrags)).length ≤ 2199023255552) :
    ∃ nl, law14_FieldsParts_q20 d q F l i W = some (Sum.inl ⟨nl, W.l ++ l.flatMap (opX d q.FFrags)⟩) := by
  induction l generalizing i W with
  | nil => exact ⟨W.nl, by simp [law14_FieldsParts_q20]⟩
  | cons o r ih =>
    have h1 : q.FOps.l[i]? = some o := by rw [← List.head?_drop, ← h]; rfl
    have h2 : r = q.FOps.l.drop (i + 1) := by rw [← List.tail_drop, ← h]; rfl
    have hi : i < q.FOps.l.length := (List.getElem?_eq_some_iff.1 h1).1
    have ho : (q.FOps.l.take (i + 1)).drop i = [o] := by
      rw [List.drop_take, ← h]; simp
    have hb := checkX_le hd q hq
    simp only [List.flatMap_cons, List.length_append] at hW ⊢
    have e1 : partC q.FOps (some ((i : Nat) : Int)) (some (((i + 1) : Nat) : Int)) = some ⟨q.FOps.nl, [o]⟩ := by
      unfold partC
      rw [if_pos (by simp; omega)]
      simp only [Option.getD_some, Int.toNat_natCast, ho]
    have hsz : (TQuery.mk ⟨q.FOps.nl, [o]⟩ q.FFrags).sz ≤ 1048576 := by
      have h4 := q.sz_def; have h5 := (TQuery.mk ⟨q.FOps.nl, [o]⟩ q.FFrags).sz_def
      have h6 : Sl.sz TOp.sz q.FOps = 1 + (q.FOps.l.map TOp.sz).sum := rfl
      have h7 : Sl.sz TOp.sz ⟨q.FOps.nl, [o]⟩ = 1 + o.sz := by simp [Sl.sz]
      have h8 := sum_mem (f := TOp.sz) (List.mem_of_getElem? h1)
      simp only at h5; omega
    obtain ⟨nl, e2⟩ := check_ok hd (TQuery.mk ⟨q.FOps.nl, [o]⟩ q.FFrags) hsz
    have e3 : checkX d (TQuery.mk ⟨q.FOps.nl, [o]⟩ q.FFrags) = opX d q.FFrags o ++ F.l := by simp [checkX, hF]
    rw [e3] at e2
    rw [law14_FieldsParts_q20, e1, Option.bind_some, e2, Option.bind_some]
    have hlt : decide ((((opX d q.FFrags o ++ F.l).length : Nat) : Int) < ((F.l.length : Nat) : Int)) = false := by simp; omega
    have hFl : F.l.length ≤ 2199023255552 := by rw [hF]; omega
    have e4 : subC (((opX d q.FFrags o ++ F.l).length : Nat) : Int) ((F.l.length : Nat) : Int) = some ((opX d q.FFrags o).length : Int) := by
      rw [subC_ok (by simp; omega)]; simp
    have e5 : partC (⟨nl, opX d q.FFrags o ++ F.l⟩ : Sl TFault) (some ((opX d q.FFrags o).length : Int)) none = some ⟨nl, F.l⟩ := by
      unfold partC; rw [if_pos (by simp; omega)]
      simp only [Option.getD_none, Option.getD_some, Int.toNat_natCast, List.take_length, List.drop_left]
    have e6 : partC (⟨nl, opX d q.FFrags o ++ F.l⟩ : Sl TFault) none (some ((opX d q.FFrags o).length : Int)) = some ⟨nl, opX d q.FFrags o⟩ := by
      unfold partC; rw [if_pos (by simp; omega)]
      simp
    simp only [hlt, e4, Bool.not_false, guardO, if_true, Option.bind_some, e5, faults_eq (⟨nl, F.l⟩ : Sl TFault) F rfl, Bool.not_true, Bool.or_false, cond_false, e6]
    rw [appC_ok32 (by omega) (by simp only; omega)]
    simp only [Option.bind_some]
    obtain ⟨nl2, e7⟩ := ih (i + 1) h2 ⟨W.nl && (opX d q.FFrags o).isEmpty, W.l ++ opX d q.FFrags o⟩ (by simp only [List.length_append]; omega)
    exact ⟨nl2, by rw [e7]; simp⟩
theorem fieldsParts_eq (d : TDoc) (q : TQuery) (hd : d.sz ≤ 1048576) (hw : d.wf) (hq : q.sz ≤ 1048576) : law14_FieldsParts d q = some true := by
  have hD := defsOk hd hw
  rw [law14_FieldsParts_eq]
  unfold law14_FieldsParts_q
  obtain ⟨b, hb⟩ := right_ok d q hd hq
  rw [hb, Option.bind_some, knows14]
  cases b with
  | false => rfl
  | true =>
    simp only [Bool.not_true, cond_false]
    have hF : ∃ nl, (bif (decide ((0 : Int) < ((q.FFrags.l.length : Nat) : Int))) then ((fields_Check_q d (TQuery.mk (Sl.nil : Sl TOp) q.FFrags)).bind fun x48 => some x48) else (some (Sl.nil : Sl TFault))) = some ⟨nl, q.FFrags.l.flatMap (fragX d)⟩ := by
      cases hc : decide ((0 : Int) < ((q.FFrags.l.length : Nat) : Int)) with
      | false => simp at hc; exact ⟨true, by simp [hc, Sl.nil]⟩
      | true =>
        have hsz : (TQuery.mk (Sl.nil : Sl TOp) q.FFrags).sz ≤ 1048576 := by
          have h4 := q.sz_def; have h5 := (TQuery.mk (Sl.nil : Sl TOp) q.FFrags).sz_def
          have h6 : Sl.sz TOp.sz q.FOps = 1 + (q.FOps.l.map TOp.sz).sum := rfl
          have h7 : Sl.sz TOp.sz (Sl.nil : Sl TOp) = 1 := by simp [Sl.sz, Sl.nil]
          simp only at h5; omega
        obtain ⟨nl, e⟩ := check_ok hD _ hsz
        exact ⟨nl, by rw [e]; simp [checkX, Sl.nil]⟩
    obtain ⟨nl, e1⟩ := hF
    have hle := checkX_le hD q hq
    rw [e1, Option.bind_some]
    obtain ⟨nl2, e2⟩ := parts_loop hD q hq ⟨nl, q.FFrags.l.flatMap (fragX d)⟩ rfl q.FOps.l 0 rfl Sl.nil (by simp only [Sl.nil, List.length_nil]; omega)
    rw [e2, Option.bind_some]
    simp only [on]
    obtain ⟨nl3, e3⟩ := check_ok hD q hq
    rw [e3, Option.bind_some, appC_ok32 (by omega) (by simp only [Sl.nil, List.nil_append]; omega), Option.bind_some, faults_eq _ _ (by simp [checkX, Sl.nil]), Option.bind_some]
    rfl
end Go.Proofs

namespace Go.Proofs.Ytjghdpblmakljaa
open Go Go.Ab Go.RowKit Go.ChangeShapes Go.WideShapes Go.ChangeAt
theorem bulkAll {H : Type} (l : List (DataW H)) : Rows.uptoBulkAll l = (l.map Rows.uptoBulk).sum := by
 induction l with
 | nil => rfl
 | cons x r ih => simp only [Rows.uptoBulkAll, List.map_cons, List.sum_cons, ih]
theorem bulkB {H : Type} : Bulk (H := H) Rows.uptoBulk := by
 refine ⟨fun d => ?_, fun b => by simp [Rows.uptoBulk], fun e s => by simp only [Rows.uptoBulk, bulkAll]; omega, fun l => by simp only [Rows.uptoBulk, bulkAll]; omega⟩
 cases d with
 | lit l => cases l <;> simp [Rows.uptoBulk]
 | nil => simp [Rows.uptoBulk]
 | ptr d => simp [Rows.uptoBulk]
 | slice elems spare => simp [Rows.uptoBulk]
 | agg parts => simp [Rows.uptoBulk]
 | iface t d => simp [Rows.uptoBulk]
 | map entries => simp [Rows.uptoBulk]
 | held h => simp [Rows.uptoBulk]
theorem own : ownKnob Try.prog.godebug = none := by kernel_rfl
theorem laid : laidOutB Try.prog = true := by kernel_rfl
theorem bound {H : Type} {l : List (DataW H)} (hk : Rows.uptoSmall H l = true) : Rows.uptoBulkAll l ≤ 1048576 := of_decide_eq_true hk
theorem fieldsParts_call (d : TDoc) (q : TQuery) (hd : d.sz ≤ 1048576) (hw : d.wf) (hq : q.sz ≤ 1048576) (H : Heap) : ACalls Try.prog 4 [.agg d.c, .agg q.c] H fun r h' => r = .a (.d (.bool true)) ∧ h' = H := law14_FieldsParts_walk (fieldsParts_eq d q hd hw hq) H
end Go.Proofs.Ytjghdpblmakljaa

