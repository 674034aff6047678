import Derived.Test.YtmjbloiidajknaaDoorV3
import Derived.Test.YtmjbloiidajknaaDoorRows
set_option maxRecDepth 100000
set_option maxHeartbeats 2000000
set_option linter.unusedVariables false
set_option linter.unusedSimpArgs false
namespace Go.Proofs
open Go Go.Ab
theorem pre_nn (p : Bool) (z : List Int) (hz : nnW z = false) : nnW ((bif p then [1] else []) ++ z) = p := by
 cases p
 ·exact hz
 ·rfl
theorem pre_barL (p : Bool) (z : List Int) (hz : nnW z = false) : barL ((bif p then [1] else []) ++ z) = z := by
 unfold barL; rw [pre_nn p z hz]; cases p <;> simp
theorem pre_rt (p : Bool) (z : List Int) (hz : nnW z = false) (h : rt z = true) : rt ((bif p then [1] else []) ++ z) = true := by
 cases p
 ·exact h
 ·simp [rt, hz, h]
theorem pre_fil (p : Bool) (z : List Int) : fil ((bif p then [1] else []) ++ z) = fil z := by cases p <;> simp [fil]
theorem fil_cons2 (r : List Int) : fil (2 :: r) = 2 :: fil r := rfl
theorem rt_case {a : List Int} (h : rt a = true) : (liW (barL a) = false ∧ barL a = [] ∧ fil a = []) ∨ ∃ r, liW (barL a) = true ∧ barL a = 2 :: r ∧ rt r = true ∧ fil a = 2 :: fil r ∧ r.length < a.length := by
 obtain ⟨h1, h2⟩ := rt_bar h
 rcases rt_list h1 h2 with ⟨g1, g2⟩ | ⟨r, g1, g2, g3⟩
 ·exact .inl ⟨g1, g2, by rw [← fil_bar, g2]; rfl⟩
 ·refine .inr ⟨r, g3, g1, g2, by rw [← fil_bar, g1]; rfl, ?_⟩
  have := barL_len a; rw [g1] at this; simp at this; omega
theorem rf_trans : ∀ (n : Nat) (a b c : List Int), rt a = true → rt b = true → rt c = true → fil a = fil b → fil b = fil c → rf n a b = true → rf n b c = true → rf n a c = true
 | 0, _, _, _, _, _, _, _, _, h, _ => by cases h
 | n + 1, a, b, c, ha, hb, hc, h1, h2, f1, f2 => by
  rw [rf] at f1 f2 ⊢
  rcases rt_case ha with ⟨a1, a2, a3⟩ | ⟨ra, a1, a2, a3, a4, _⟩ <;> rcases rt_case hb with ⟨b1, b2, b3⟩ | ⟨rb, b1, b2, b3, b4, _⟩ <;> rcases rt_case hc with ⟨c1, c2, c3⟩ | ⟨rc, c1, c2, c3, c4, _⟩
  ·rw [a1, c1]; rw [a1, b1] at f1; rw [b1, c1] at f2
   cases hna : nnW a <;> cases hnb : nnW b <;> cases hnc : nnW c <;> simp_all
  ·rw [b3, c4] at h2; simp at h2
  ·rw [a3, b4] at h1; simp at h1
  ·rw [a3, b4] at h1; simp at h1
  ·rw [a4, b3] at h1; simp at h1
  ·rw [a4, b3] at h1; simp at h1
  ·rw [b4, c3] at h2; simp at h2
  ·rw [a1, c1, a2, c2]; rw [a1, b1, a2, b2] at f1; rw [b1, c1, b2, c2] at f2
   simp only [List.drop_succ_cons, List.drop_zero, Bool.and_self, Bool.not_true, Bool.false_or, Bool.and_eq_true] at f1 f2 ⊢
   refine ⟨?_, rf_trans n ra rb rc a3 b3 c3 (by rw [a4, b4] at h1; simpa using h1) (by rw [b4, c4] at h2; simpa using h2) f1.2 f2.2⟩
   have g1 := f1.1; have g2 := f2.1
   cases hna : nnW a <;> cases hnb : nnW b <;> cases hnc : nnW c <;> simp_all
theorem wk_facts : ∀ (n : Nat) (a b : List Int), rt a = true → rt b = true → fil a = fil b → a.length < n →
  rt (wk n a b) = true ∧ fil (wk n a b) = fil a ∧ rf n a (wk n a b) = true ∧ rf n b (wk n a b) = true ∧ (wk n a b).length ≤ a.length ∧
   ∀ c, rt c = true → fil b = fil c → rf n a c = true → rf n b c = true → rf n (wk n a b) c = true
 | 0, _, _, _, _, _, h => by omega
 | n + 1, a, b, ha, hb, hf, hn => by
  have hpa := congrArg List.length (pre_bar a)
  rw [List.length_append] at hpa
  rcases rt_case ha with ⟨a1, a2, a3⟩ | ⟨ra, a1, a2, a3, a4, a5⟩ <;> rcases rt_case hb with ⟨b1, b2, b3⟩ | ⟨rb, b1, b2, b3, b4, b5⟩
  ·have e : wk (n + 1) a b = (bif nnW a && nnW b then [1] else []) ++ [] := by rw [wk, a1, b1]; rfl
   rw [e]
   have z0 : nnW ([] : List Int) = false := rfl
   have l0 : liW ([] : List Int) = false := rfl
   refine ⟨pre_rt _ _ z0 rfl, by rw [pre_fil, a3]; rfl, ?_, ?_, ?_, fun c hc hfc f1 f2 => ?_⟩
   ·rw [rf, pre_nn _ _ z0, pre_barL _ _ z0, a1]; cases nnW a <;> cases nnW b <;> rfl
   ·rw [rf, pre_nn _ _ z0, pre_barL _ _ z0, b1]; cases nnW a <;> cases nnW b <;> rfl
   ·rw [a2] at hpa
    cases hna : nnW a <;> cases nnW b <;> simp_all
   ·rw [rf] at f1 f2 ⊢
    rw [pre_nn _ _ z0, pre_barL _ _ z0, l0]
    cases hna : nnW a <;> cases hnb : nnW b <;> cases hnc : nnW c <;> simp_all
  ·rw [a3, b4] at hf; simp at hf
  ·rw [a4, b3] at hf; simp at hf
  ·have hf' : fil ra = fil rb := by rw [a4, b4] at hf; simpa using hf
   obtain ⟨i1, i2, i3, i4, i5, i6⟩ := wk_facts n ra rb a3 b3 hf' (by omega)
   have e : wk (n + 1) a b = (bif nnW a && nnW b then [1] else []) ++ (2 :: wk n ra rb) := by rw [wk, a1, b1, a2, b2]; rfl
   rw [e]
   generalize wk n ra rb = y at *
   have z0 : nnW (2 :: y : List Int) = false := rfl
   have l0 : liW (2 :: y : List Int) = true := rfl
   have r0 : rt (2 :: y : List Int) = true := by simp [rt, i1]
   refine ⟨pre_rt _ _ z0 r0, by rw [pre_fil, a4, fil_cons2, i2], ?_, ?_, ?_, fun c hc hfc f1 f2 => ?_⟩
   ·rw [rf, pre_nn _ _ z0, pre_barL _ _ z0, a1, l0, a2]; simp [i3]; cases nnW a <;> cases nnW b <;> simp
   ·rw [rf, pre_nn _ _ z0, pre_barL _ _ z0, b1, l0, b2]; simp [i4]; cases nnW a <;> cases nnW b <;> simp
   ·rw [a2] at hpa
    cases hna : nnW a <;> cases nnW b <;> simp_all <;> omega
   ·rcases rt_case hc with ⟨c1, c2, c3⟩ | ⟨rc, c1, c2, c3, c4, c5⟩
    ·rw [b4, c3] at hfc; simp at hfc
    ·rw [rf] at f1 f2 ⊢
     rw [pre_nn _ _ z0, pre_barL _ _ z0, l0, c1, c2]
     rw [a1, c1, a2, c2] at f1; rw [b1, c1, b2, c2] at f2
     simp only [List.drop_succ_cons, List.drop_zero, Bool.and_self, Bool.not_true, Bool.false_or, Bool.and_eq_true] at f1 f2 ⊢
     refine ⟨?_, i6 rc c3 (by rw [b4, c4] at hfc; simpa using hfc) f1.2 f2.2⟩
     have g1 := f1.1; have g2 := f2.1
     cases hna : nnW a <;> cases hnb : nnW b <;> cases hnc : nnW c <;> simp_all
def fitB (a b : TRef) : Bool := (a.FName == b.FName && decide (fil a.FWraps.l = fil b.FWraps.l)) && rf F0 a.FWraps.l b.FWraps.l
theorem fits_rt {a b : TRef} (ha : SOk a.FWraps) (hb : SOk b.FWraps) (ra : rt a.FWraps.l = true) (rb : rt b.FWraps.l = true) : Z34 a b = some (fitB a b) := by
 rw [Z34_eq, fits_eq ha hb]
 unfold fitB
 cases hs : (a.FName == b.FName && decide (fil a.FWraps.l = fil b.FWraps.l))
 ·rfl
 ·simp only [Bool.and_eq_true, decide_eq_true_eq] at hs
  have hl := ha.2
  rw [wk_rf F0 _ _ ra rb hs.2 (by rw [F0_eq]; omega)]
theorem rightPAux (a : TRef) (ha : a.FWraps.l.length ≤ 1048576) : ∀ (l : List Int) (i : Nat), i + l.length = a.FWraps.l.length → a.FWraps.l.drop i = l →
  Z44_q11 a l i = some (if rt l = true ∧ ¬ (0 < i ∧ nnW l = true ∧ a.FWraps.l[i - 1]? = some 1) then Sum.inl () else Sum.inr false)
 | [], i, _, _ => by rw [Z44_q11, if_pos]; exact ⟨rfl, fun h => by simp [nnW] at h⟩
 | x :: r, i, hi, hd => by
  simp only [List.length_cons] at hi
  have hdr : a.FWraps.l.drop (i + 1) = r := by rw [← List.drop_drop, hd]; rfl
  have hxi : a.FWraps.l[i]? = some x := by
   have h0 : (a.FWraps.l.drop i)[0]? = some x := by rw [hd]; rfl
   simpa using h0
  have ih := rightPAux a ha r (i + 1) (by omega) hdr
  rw [Z44_q11]
  simp only [Ab.on, ih, rt, Nat.add_sub_cancel, hxi, Nat.zero_lt_succ, true_and]
  by_cases h0 : 0 < i
  ·rw [show decide ((0 : Int) < (i : Int)) = true from decide_eq_true (by omega)]
   have hlt : i - 1 < a.FWraps.l.length := by omega
   have hidx : idxC a.FWraps.l ((i : Int) - 1) = some a.FWraps.l[i - 1] := by
    unfold idxC
    rw [if_pos (by omega), show ((i : Int) - 1).toNat = i - 1 by omega, List.getElem?_eq_getElem hlt]
   have hsub : subC (i : Int) 1 = some ((i : Int) - 1) := subC_ok (by omega)
   rw [List.getElem?_eq_getElem hlt]
   by_cases h1 : x = 1
   ·subst h1
    by_cases hp : a.FWraps.l[i - 1] = 1
    ·simp [guardO, hsub, hidx, hp, h0, nnW]
    ·simp [guardO, hsub, hidx, hp, h0, nnW, and_comm]
   ·by_cases h2 : x = 2
    ·subst h2; simp [guardO, nnW]
    ·simp [h1, h2, guardO]
  ·rw [show decide ((0 : Int) < (i : Int)) = false from decide_eq_false (by omega)]
   by_cases h1 : x = 1
   ·subst h1; simp [guardO, h0, nnW, and_comm]
   ·by_cases h2 : x = 2
    ·subst h2; simp [guardO, nnW]
    ·simp [h1, h2, guardO]
def rightB (a : TRef) : Bool := Z4_q a.FName && decide (a.FWraps.l.length ≤ 24) && rt a.FWraps.l
theorem rightP_eq {a : TRef} (ha : a.FWraps.l.length ≤ 1048576) : Z44 a = some (rightB a) := by
 rw [Z44_eq]
 unfold Z44_q rightB
 rw [name_eq, Option.bind_some, rightPAux a ha a.FWraps.l 0 (by omega) rfl]
 cases Z4_q a.FName
 ·rfl
 ·by_cases h : a.FWraps.l.length ≤ 24
  ·rw [show decide ((24 : Int) < ((a.FWraps.l.length : Nat) : Int)) = false from decide_eq_false (by omega), show decide (a.FWraps.l.length ≤ 24) = true from decide_eq_true h]
   cases rt a.FWraps.l <;> simp [Ab.on]
  ·rw [show decide ((24 : Int) < ((a.FWraps.l.length : Nat) : Int)) = true from decide_eq_true (by omega), show decide (a.FWraps.l.length ≤ 24) = false from decide_eq_false h]
   simp
theorem rightR_eq {a : TRef} (ha : a.FWraps.l.length ≤ 1048576) : Z7_q a = some (rightB a) := by
 unfold Z7_q rightB
 rw [rightAux a ha a.FWraps.l 0 (by omega) rfl]
 simp only [Ab.on]
 cases Z4_q a.FName
 ·rfl
 ·by_cases h : a.FWraps.l.length ≤ 24
  ·rw [show decide ((24 : Int) < ((a.FWraps.l.length : Nat) : Int)) = false from decide_eq_false (by omega), show decide (a.FWraps.l.length ≤ 24) = true from decide_eq_true h]
   cases rt a.FWraps.l <;> simp
  ·rw [show decide ((24 : Int) < ((a.FWraps.l.length : Nat) : Int)) = true from decide_eq_true (by omega), show decide (a.FWraps.l.length ≤ 24) = false from decide_eq_false h]
   simp
set_option maxRecDepth 1000000 in
theorem knows05 : Z3 = some true := by kernel_rfl
theorem order_eq {a b c : TRef} (ha : SOk a.FWraps) (hb : SOk b.FWraps) (hc : SOk c.FWraps) : Z2 a b c = some true := by
 unfold Z2
 rw [Z7_eq, Z7_eq, Z7_eq, rightR_eq ha.2, rightR_eq hb.2, rightR_eq hc.2, knows05]
 cases hra : rightB a
 ·rfl
 ·cases hrb : rightB b
  ·rfl
  ·cases hrc : rightB c
   ·rfl
   ·unfold rightB at hra hrb hrc
    simp only [Bool.and_eq_true, decide_eq_true_eq] at hra hrb hrc
    have ra := hra.2; have rb := hrb.2; have rc := hrc.2
    have hla := ha.2; have hlb := hb.2; have hlc := hc.2
    have faa : fitB a a = true := by unfold fitB; rw [rf_refl F0 _ (by rw [F0_eq]; omega)]; simp
    rw [fits_rt ha ha ra ra, fits_rt ha hb ra rb, fits_rt hb hc rb rc, fits_rt ha hc ra rc, faa]
    have htr : fitB a b = true → fitB b c = true → fitB a c = true := fun h1 h2 => by
     unfold fitB at *
     simp only [Bool.and_eq_true, decide_eq_true_eq, beq_iff_eq] at h1 h2 ⊢
     exact ⟨⟨h1.1.1.trans h2.1.1, h1.1.2.trans h2.1.2⟩, rf_trans F0 _ _ _ ra rb rc h1.1.2 h2.1.2 h1.2 h2.2⟩
    obtain ⟨nl, hw, hnl⟩ := weaken_eq' ha hb
    rw [Z47_eq, hw, Z46_eq, shape_eq ha hb]
    cases hs : (a.FName == b.FName && decide (fil a.FWraps.l = fil b.FWraps.l))
    ·have h0 : fitB a b = false := by unfold fitB; rw [hs]; rfl
     rw [h0]
     simp [guardO]
    ·have hs' := hs
     simp only [Bool.and_eq_true, decide_eq_true_eq, beq_iff_eq] at hs'
     obtain ⟨w1, w2, w3, w4, w5, w6⟩ := wk_facts F0 a.FWraps.l b.FWraps.l ra rb hs'.2 (by rw [F0_eq]; omega)
     have hx : SOk (⟨a.FName, ⟨nl, wk F0 a.FWraps.l b.FWraps.l⟩⟩ : TRef).FWraps := ⟨hnl, by simp only; omega⟩
     have fax : fitB a ⟨a.FName, ⟨nl, wk F0 a.FWraps.l b.FWraps.l⟩⟩ = true := by unfold fitB; simp [w2, w3]
     have fbx : fitB b ⟨a.FName, ⟨nl, wk F0 a.FWraps.l b.FWraps.l⟩⟩ = true := by unfold fitB; simp [w2, w4, hs'.1, hs'.2]
     have rx : rightB ⟨a.FName, ⟨nl, wk F0 a.FWraps.l b.FWraps.l⟩⟩ = true := by unfold rightB; simp only [w1, hra.1.1, Bool.true_and, Bool.and_true, decide_eq_true_eq]; have := hra.1.2; omega
     have fxc : fitB a c = true → fitB b c = true → fitB ⟨a.FName, ⟨nl, wk F0 a.FWraps.l b.FWraps.l⟩⟩ c = true := fun h1 h2 => by
      unfold fitB at h1 h2 ⊢
      simp only [Bool.and_eq_true, decide_eq_true_eq, beq_iff_eq] at h1 h2 ⊢
      exact ⟨⟨h1.1.1, by rw [w2]; exact h1.1.2⟩, w6 _ rc h2.1.2 h1.2 h2.2⟩
     have e1 := rightP_eq hx.2
     have e2 := fits_rt ha hx ra w1
     have e3 := fits_rt hb hx rb w1
     have e4 := fits_rt hx hc w1 rc
     rw [fax] at e2; rw [fbx] at e3; rw [rx] at e1
     clear hw fax fbx rx w1 w2 w3 w4 w5 w6 hx hnl
     generalize (⟨a.FName, ⟨nl, wk F0 a.FWraps.l b.FWraps.l⟩⟩ : TRef) = x at *
     simp only [cond_true, Option.bind_some, e1, e2, e3, e4]
     cases h1 : fitB a b <;> cases h2 : fitB b c <;> cases h3 : fitB a c <;> simp_all [guardO]
end Go.Proofs

namespace Go.Proofs.YtmjbloiidajknaaDoor
open Go Go.Ab Go.RowKit Go.ChangeShapes Go.WideShapes Go.ChangeAt
variable {lou : Lou}
theorem bulkAll {H : Type} (l : List (DataW H)) : Rows.uptoBulkAll l = (l.map Rows.uptoBulk).sum := by
 induction l with
 | nil => rfl
 | cons x r ih => simp only [Rows.uptoBulkAll, List.map_cons, List.sum_cons, ih]
theorem bulkB {H : Type} : Bulk (H := H) Rows.uptoBulk := by
 refine ⟨fun d => ?_, fun b => by simp [Rows.uptoBulk], fun e s => by simp only [Rows.uptoBulk, bulkAll]; omega, fun l => by simp only [Rows.uptoBulk, bulkAll]; omega⟩
 cases d with
 | lit l => cases l <;> simp [Rows.uptoBulk]
 | nil => simp [Rows.uptoBulk]
 | ptr d => simp [Rows.uptoBulk]
 | slice elems spare => simp [Rows.uptoBulk]
 | agg parts => simp [Rows.uptoBulk]
 | iface t d => simp [Rows.uptoBulk]
 | map entries => simp [Rows.uptoBulk]
 | held h => simp [Rows.uptoBulk]
theorem own : ownKnob Tryd.prog.godebug = none := by kernel_rfl
theorem laid : laidOutB Tryd.prog = true := by kernel_rfl
theorem bound {H : Type} {l : List (DataW H)} (hk : Rows.uptoSmall H l = true) : Rows.uptoBulkAll l ≤ 1048576 := of_decide_eq_true hk
theorem TRef.sok {r : TRef} (h : r.sz ≤ 1048576) (hw : r.wf) : SOk r.FWraps := ⟨hw.2.1.1, by have := r.sz_def; have := Sl.len_le (f := fun _ : Int => 1) r.FWraps (fun _ => Nat.le_refl _); omega⟩
theorem typerefOrder_call (a b c : TRef) (ha : a.sz ≤ 1048576) (wa : a.wf) (hb : b.sz ≤ 1048576) (wb : b.wf) (hc : c.sz ≤ 1048576) (wc : c.wf) (H : Heap) : ACalls Tryd.prog 9 [.agg a.c, .agg b.c, .agg c.c] H fun r h' => r = .a (.d (.bool true)) ∧ h' = H :=
 Z2_walk (order_eq (TRef.sok ha wa) (TRef.sok hb wb) (TRef.sok hc wc)) H
end Go.Proofs.YtmjbloiidajknaaDoor

