import Derived.Test.YtimiconoebjfbaaDoorV4
import Derived.Test.YtimiconoebjfbaaDoorRows
set_option maxRecDepth 100000
set_option maxHeartbeats 2000000
set_option linter.unusedVariables false
set_option linter.unusedSimpArgs false
namespace Go.Proofs
open Go Go.Ab
def fil (l : List Int) : List Int := l.filter fun x => !decide (x = 1)
theorem equalAux (a1 : Sl Int) : ∀ (l : List Int) (s : Nat), l.length + s = a1.l.length → Z34_q12 a1 l s = some (if l = a1.l.drop s then Sum.inl () else Sum.inr false)
 | [], s, h => by
  rw [Z34_q12, if_pos]
  rw [List.drop_eq_nil_of_le]; simp at h; omega
 | x :: r, s, h => by
  simp only [List.length_cons] at h
  have hs : s < a1.l.length := by omega
  have hg := List.getElem?_eq_getElem hs
  rw [Z34_q12]
  simp only [Ab.on]
  rw [hg, Option.bind_some, equalAux a1 r (s + 1) (by omega), Q.drop_of hg]
  generalize a1.l[s] = y
  generalize a1.l.drop (s + 1) = t
  by_cases e : x = y
  ·subst e; simp only [decide_true, Bool.not_true, cond_false, List.cons.injEq, true_and]
  ·simp [e]
theorem equal_eq (a b : Sl Int) : Z34_q a b = some (decide (a.l = b.l)) := by
 unfold Z34_q
 by_cases h : a.l.length = b.l.length
 ·rw [show decide ((a.l.length : Int) = (b.l.length : Int)) = true from decide_eq_true (by omega)]
  simp only [Bool.not_true, cond_false]
  rw [equalAux b a.l 0 (by omega), List.drop_zero]
  by_cases e : a.l = b.l <;> simp [e, Ab.on]
 ·rw [show decide ((a.l.length : Int) = (b.l.length : Int)) = false from decide_eq_false (by omega)]
  have : a.l ≠ b.l := fun e => h (by rw [e])
  simp [this]
theorem sameAux (a1 : Sl Int) : ∀ (l : List Int) (s : Nat), Z19_q11 a1 l s = Z34_q12 a1 l s
 | [], s => rfl
 | x :: r, s => by rw [Z19_q11, Z34_q12]; simp only [Ab.on, sameAux a1 r]
theorem Z19_eq' (a b : Sl Int) : Z19_q a b = some (decide (a.l = b.l)) := by
 rw [← equal_eq]; unfold Z19_q Z34_q; rw [sameAux]; all_goals rfl
theorem loose_eq {s : Sl Int} (h : SOk s) : ∃ nl, Z47_q s = some ⟨nl, fil s.l⟩ := by
 unfold Z47_q
 rw [clone_eq h, Option.bind_some, Option.bind_some]
 exact ⟨s.nl, rfl⟩
theorem shape_eq {a b : TRef} (ha : SOk a.FWraps) (hb : SOk b.FWraps) : Z45_q a b = some (a.FName == b.FName && decide (fil a.FWraps.l = fil b.FWraps.l)) := by
 obtain ⟨n1, h1⟩ := loose_eq ha
 obtain ⟨n2, h2⟩ := loose_eq hb
 unfold Z45_q
 rw [h1, h2]
 cases h : a.FName == b.FName
 ·simp [guardO]
 ·simp [guardO, equal_eq]
theorem listsAux : ∀ (l : List Int) (s : Sl Int), s.l.length + l.length ≤ 1073741824 → ∃ nl, Z18_q7 l s = some ⟨nl, s.l ++ fil l⟩
 | [], s, _ => ⟨s.nl, by rw [Z18_q7]; simp [fil]⟩
 | x :: r, s, h => by
  simp only [List.length_cons] at h
  rw [Z18_q7]
  simp only [Ab.on]
  by_cases e : x = 1
  ·subst e
   obtain ⟨nl, h1⟩ := listsAux r s (by omega)
   exact ⟨nl, by simp [h1, fil]⟩
  ·obtain ⟨nl, h1⟩ := listsAux r ⟨s.nl && false, s.l ++ [x]⟩ (by simp; omega)
   refine ⟨nl, ?_⟩
   rw [show decide (x = 1) = false by simpa using e]
   simp only [Bool.not_false, cond_true]
   rw [appC_ok (by decide) (by simp; omega), Option.bind_some, Option.bind_some]
   rw [show (List.isEmpty (⟨false, [x]⟩ : Sl Int).l) = false from rfl, h1]
   simp [fil, e]
theorem Z18_is {t : TRef} (h : t.FWraps.l.length ≤ 1048576) : ∃ nl, Z18_q t = some ⟨nl, fil t.FWraps.l⟩ := by
 obtain ⟨nl, h1⟩ := listsAux t.FWraps.l Sl.nil (by simp [Sl.nil]; omega)
 refine ⟨nl, ?_⟩
 unfold Z18_q
 rw [h1]
 simp [Ab.on, Sl.nil]
theorem r05_shape_eq {a b : TRef} (ha : a.FWraps.l.length ≤ 1048576) (hb : b.FWraps.l.length ≤ 1048576) : Z16_q a b = some (a.FName == b.FName && decide (fil a.FWraps.l = fil b.FWraps.l)) := by
 obtain ⟨n1, h1⟩ := Z18_is ha
 obtain ⟨n2, h2⟩ := Z18_is hb
 unfold Z16_q
 rw [h1, h2]
 cases h : a.FName == b.FName
 ·simp [guardO]
 ·simp [guardO, Z19_eq']
theorem r05_isNonNull_eq (t : TRef) : Z13_q t = nnW t.FWraps.l := isNonNull_eq t
theorem Z17_is {t : TRef} (h : t.FWraps.l.length ≤ 1048576) (h1 : 1 ≤ t.FWraps.l.length) : Z17_q t = some ⟨t.FName, ⟨false, t.FWraps.l.drop 1⟩⟩ := by
 unfold Z17_q
 rw [partC_tail h1, Option.bind_some, appC_ok (by decide) (by simp; omega)]
 simp
theorem r05_nullable_eq {t : TRef} (h : t.FWraps.l.length ≤ 1048576) : Z14_q t = some ⟨t.FName, ⟨false, (barS t.FWraps).l⟩⟩ := by
 unfold Z14_q barS
 simp only [Ab.on, r05_isNonNull_eq]
 cases hn : nnW t.FWraps.l
 ·simp only [cond_false]
  rw [appC_ok (by decide) (by simp; omega)]
  simp
 ·simp only [cond_true]
  rw [Z17_is h (head_one hn)]; rfl
theorem barS_len (s : Sl Int) : (barS s).l.length ≤ s.l.length := by unfold barS; cases nnW s.l <;> simp
theorem r05_isList_eq {t : TRef} (h : t.FWraps.l.length ≤ 1048576) : Z12_q t = some (liW (barS t.FWraps).l) := by
 unfold Z12_q
 rw [r05_nullable_eq h]
 simp only [Option.bind_some, Ab.on, liW]
 cases (barS t.FWraps).l with
 | nil => rfl
 | cons a r => simp; by_cases h : a = 2 <;> simp [h]
theorem r05_inner_is {t : TRef} (h : t.FWraps.l.length ≤ 1048576) : Z11_q t = some (bif liW (barS t.FWraps).l then (⟨t.FName, ⟨false, (barS t.FWraps).l.drop 1⟩⟩, true) else (⟨[], Sl.nil⟩, false)) := by
 unfold Z11_q
 rw [r05_isList_eq h]
 simp only [Option.bind_some]
 cases hl : liW (barS t.FWraps).l with
 | false => rfl
 | true =>
  simp only [Bool.not_true, cond_false, cond_true]
  rw [r05_nullable_eq h, Option.bind_some, Z17_is (by have := barS_len t.FWraps; simp only; omega) (list_one hl)]
  rfl
def barL (l : List Int) : List Int := bif nnW l then l.drop 1 else l
theorem barS_l (s : Sl Int) : (barS s).l = barL s.l := by unfold barS barL; cases nnW s.l <;> rfl
def wk : Nat → List Int → List Int → List Int
 | 0, _, _ => []
 | n + 1, a, b => (bif nnW a && nnW b then [1] else []) ++ (bif liW (barL a) && liW (barL b) then 2 :: wk n ((barL a).drop 1) ((barL b).drop 1) else [])
def rf : Nat → List Int → List Int → Bool
 | 0, _, _ => false
 | n + 1, a, b => !(nnW b && !nnW a) && (!(liW (barL a) && liW (barL b)) || rf n ((barL a).drop 1) ((barL b).drop 1))
theorem barL_len (l : List Int) : (barL l).length ≤ l.length := by unfold barL; cases nnW l <;> simp
theorem barL_lt {l : List Int} (h : liW (barL l) = true) : ((barL l).drop 1).length < l.length := by
 have h1 := list_one h; have h2 := barL_len l; simp; omega
theorem weakAux : ∀ (n : Nat) (a b z o : TRef), a.FWraps.l.length < n → SOk a.FWraps → SOk b.FWraps → o.FWraps.l.length + 2 * a.FWraps.l.length ≤ 1073741824 →
  ∃ nl, Z46_l9 n a b z o = some (⟨o.FName, ⟨nl, o.FWraps.l ++ wk n a.FWraps.l b.FWraps.l⟩⟩, true)
 | 0, _, _, _, _, h, _, _, _ => by omega
 | n + 1, a, b, z, o, h, ha, hb, hl => by
  have key : ∀ o' : TRef, o'.FWraps.l.length + 2 * a.FWraps.l.length ≤ 1073741825 → ∃ nl, Z46_j14 a b z (Z46_l9 n) o' = some (⟨o'.FName, ⟨nl, o'.FWraps.l ++ (bif liW (barL a.FWraps.l) && liW (barL b.FWraps.l) then 2 :: wk n ((barL a.FWraps.l).drop 1) ((barL b.FWraps.l).drop 1) else [])⟩⟩, true) := by
   intro o' ho'
   unfold Z46_j14
   rw [Z38_eq, Z38_eq, inner_eq ha, inner_eq hb, Option.bind_some, Option.bind_some, barS_l, barS_l]
   cases h1 : liW (barL a.FWraps.l)
   ·exact ⟨o'.FWraps.nl, by simp⟩
   ·cases h2 : liW (barL b.FWraps.l)
    ·exact ⟨o'.FWraps.nl, by simp⟩
    ·simp only [cond_true, Bool.not_true, Bool.or_self, cond_false, Bool.and_self]
     have hlt := barL_lt h1
     have ea : (innerT a).FWraps.l = (barL a.FWraps.l).drop 1 := by unfold innerT; rw [barS_l]
     have eb : (innerT b).FWraps.l = (barL b.FWraps.l).drop 1 := by unfold innerT; rw [barS_l]
     rw [appC_ok (by decide) (by simp; omega), Option.bind_some]
     obtain ⟨nl, h3⟩ := weakAux n (innerT a) (innerT b) z ⟨o'.FName, ⟨o'.FWraps.nl && false, o'.FWraps.l ++ [2]⟩⟩ (by rw [ea]; omega) (innerT_ok ha) (innerT_ok hb) (by rw [ea]; simp only [List.length_append, List.length_singleton]; omega)
     rw [show (List.isEmpty (⟨false, [(2 : Int)]⟩ : Sl Int).l) = false from rfl, h3, ea, eb]
     exact ⟨nl, by simp⟩
  rw [Z46_l9, Z40_eq, Z40_eq, Option.bind_some, isNonNull_eq, isNonNull_eq]
  cases h1 : nnW a.FWraps.l
  ·obtain ⟨nl, h2⟩ := key o (by omega)
   exact ⟨nl, by simp only [guardO]; simp only [Bool.false_eq_true, if_false, Bool.and_false, cond_false]; rw [h2, wk, h1]; simp⟩
  ·cases h2 : nnW b.FWraps.l
   ·obtain ⟨nl, h3⟩ := key o (by omega)
    exact ⟨nl, by simp only [guardO]; simp only [if_true, Option.bind_some, Bool.and_false, cond_false]; rw [h3, wk, h1, h2]; simp⟩
   ·obtain ⟨nl, h3⟩ := key ⟨o.FName, ⟨o.FWraps.nl && false, o.FWraps.l ++ [1]⟩⟩ (by simp only [List.length_append, List.length_singleton]; omega)
    refine ⟨nl, ?_⟩
    simp only [guardO, if_true, Option.bind_some, Bool.and_self, cond_true]
    rw [appC_ok (by decide) (by simp; omega), Option.bind_some]
    rw [show (List.isEmpty (⟨false, [(1 : Int)]⟩ : Sl Int).l) = false from rfl, h3, wk, h1, h2]
    simp
theorem weaken_eq {a b : TRef} (ha : SOk a.FWraps) (hb : SOk b.FWraps) : ∃ nl, Z46_q a b = some (bif (a.FName == b.FName && decide (fil a.FWraps.l = fil b.FWraps.l)) then (⟨a.FName, ⟨nl, wk F0 a.FWraps.l b.FWraps.l⟩⟩, true) else (⟨[], Sl.nil⟩, false)) := by
 have hl := ha.2
 obtain ⟨nl, h1⟩ := weakAux F0 a b TRef.zero ⟨a.FName, Sl.nil⟩ (by rw [F0_eq]; omega) ha hb (by simp [Sl.nil]; omega)
 refine ⟨nl, ?_⟩
 unfold Z46_q Z46
 rw [Z45_eq, shape_eq ha hb, Option.bind_some, h1]
 cases (a.FName == b.FName && decide (fil a.FWraps.l = fil b.FWraps.l)) <;> simp [Sl.nil]
theorem fits_eq {a b : TRef} (ha : SOk a.FWraps) (hb : SOk b.FWraps) : Z37_q a b = some ((a.FName == b.FName && decide (fil a.FWraps.l = fil b.FWraps.l)) && decide (wk F0 a.FWraps.l b.FWraps.l = b.FWraps.l)) := by
 obtain ⟨nl, h⟩ := weaken_eq ha hb
 unfold Z37_q
 rw [h, Option.bind_some]
 cases hs : (a.FName == b.FName && decide (fil a.FWraps.l = fil b.FWraps.l))
 ·simp [guardO]
 ·have hn : (a.FName == b.FName) = true := by simp only [Bool.and_eq_true] at hs; exact hs.1
  simp only [guardO, cond_true, if_true]
  unfold Z44_q
  rw [hn, equal_eq]
  simp [guardO]
def rt : List Int → Bool
 | [] => true
 | x :: r => (decide (x = 1) || decide (x = 2)) && !(decide (x = 1) && nnW r) && rt r
theorem rt_tail {x : Int} {r : List Int} (h : rt (x :: r) = true) : rt r = true := by rw [rt] at h; simp only [Bool.and_eq_true] at h; exact h.2
theorem rt_bar {l : List Int} (h : rt l = true) : rt (barL l) = true ∧ nnW (barL l) = false := by
 unfold barL
 cases l with
 | nil => exact ⟨rfl, rfl⟩
 | cons x r =>
  cases hn : nnW (x :: r)
  ·exact ⟨h, hn⟩
  ·simp only [cond_true, List.drop_succ_cons, List.drop_zero]
   refine ⟨rt_tail h, ?_⟩
   have hx : x = 1 := by simpa [nnW] using hn
   rw [rt] at h
   simp only [hx, Bool.and_eq_true] at h
   simpa using h.1.2
theorem rt_list {l : List Int} (h : rt l = true) (hn : nnW l = false) : liW l = false ∧ l = [] ∨ ∃ r, l = 2 :: r ∧ rt r = true ∧ liW l = true := by
 cases l with
 | nil => exact .inl ⟨rfl, rfl⟩
 | cons x r =>
  refine .inr ⟨r, ?_⟩
  have h2 := rt_tail h
  have hx : x ≠ 1 := by simpa [nnW] using hn
  rw [rt] at h
  simp only [Bool.and_eq_true, Bool.or_eq_true, decide_eq_true_eq] at h
  have : x = 2 := h.1.1.resolve_left hx
  subst this
  exact ⟨rfl, h2, rfl⟩
theorem fil_bar (l : List Int) : fil (barL l) = fil l := by
 unfold barL
 cases l with
 | nil => rfl
 | cons x r =>
  cases hn : nnW (x :: r)
  ·rfl
  ·have hx : x = 1 := by simpa [nnW] using hn
   subst hx
   simp [fil]
theorem pre_bar (l : List Int) : (bif nnW l then [1] else []) ++ barL l = l := by
 unfold barL
 cases l with
 | nil => rfl
 | cons x r =>
  cases hn : nnW (x :: r)
  ·rfl
  ·have hx : x = 1 := by simpa [nnW] using hn
   subst hx; rfl
theorem wk_rf : ∀ (n : Nat) (a b : List Int), rt a = true → rt b = true → fil a = fil b → a.length < n → decide (wk n a b = b) = rf n a b
 | 0, _, _, _, _, _, h => by omega
 | n + 1, a, b, ha, hb, hf, hn => by
  obtain ⟨ha1, ha2⟩ := rt_bar ha
  obtain ⟨hb1, hb2⟩ := rt_bar hb
  have hf' : fil (barL a) = fil (barL b) := by rw [fil_bar, fil_bar, hf]
  have hpb := pre_bar b
  have hla := barL_len a
  rw [wk, rf]
  rcases rt_list ha1 ha2 with ⟨la, ea⟩ | ⟨ra, ea, hra, la⟩ <;> rcases rt_list hb1 hb2 with ⟨lb, eb⟩ | ⟨rb, eb, hrb, lb⟩
  ·rw [eb] at hpb
   rw [la, lb]
   simp only [Bool.and_self, cond_false, List.append_nil, Bool.not_false, Bool.true_or, Bool.and_true]
   rw [List.append_nil] at hpb
   rw [← hpb]
   cases nnW a <;> cases hh : nnW b <;> simp [hh, nnW]
  ·rw [ea, eb] at hf'; simp [fil] at hf'
  ·rw [ea, eb] at hf'; simp [fil] at hf'
  ·rw [eb] at hpb
   rw [la, lb, ea, eb]
   simp only [Bool.and_self, cond_true, List.drop_succ_cons, List.drop_zero, Bool.not_true, Bool.false_or]
   have h2 : fil ra = fil rb := by rw [ea, eb] at hf'; simpa [fil] using hf'
   rw [ea] at hla
   have ih := wk_rf n ra rb hra hrb h2 (by simp at hla; omega)
   rw [← ih]
   conv => lhs; rw [← hpb]
   cases nnW a <;> cases hh : nnW b <;> simp [hh, nnW]
theorem rf_refl : ∀ (n : Nat) (a : List Int), a.length < n → rf n a a = true
 | 0, _, h => by omega
 | n + 1, a, h => by
  rw [rf]
  cases hl : liW (barL a)
  ·cases nnW a <;> simp
  ·have := barL_lt hl
   rw [rf_refl n _ (by omega)]
   cases nnW a <;> simp
theorem r05_fitsAux : ∀ (n : Nat) (a b : TRef), rt a.FWraps.l = true → rt b.FWraps.l = true → a.FWraps.l.length ≤ 1048576 → b.FWraps.l.length ≤ 1048576 → a.FWraps.l.length < n →
  Z10_qn n a b = some ((a.FName == b.FName && decide (fil a.FWraps.l = fil b.FWraps.l)) && rf n a.FWraps.l b.FWraps.l)
 | 0, _, _, _, _, _, _, h => by omega
 | n + 1, a, b, ra, rb, ha, hb, hn => by
  rw [Z10_qn, r05_shape_eq ha hb, Option.bind_some, r05_isNonNull_eq, r05_isNonNull_eq]
  cases hs : (a.FName == b.FName && decide (fil a.FWraps.l = fil b.FWraps.l))
  ·simp [Ab.on]
  ·simp only [Bool.and_eq_true, decide_eq_true_eq] at hs
   rw [r05_inner_is ha, r05_inner_is hb, barS_l, barS_l, rf]
   obtain ⟨ha1, ha2⟩ := rt_bar ra
   obtain ⟨hb1, hb2⟩ := rt_bar rb
   have hf' : fil (barL a.FWraps.l) = fil (barL b.FWraps.l) := by rw [fil_bar, fil_bar, hs.2]
   have hla := barL_len a.FWraps.l
   have hlb := barL_len b.FWraps.l
   rcases rt_list ha1 ha2 with ⟨la, ea⟩ | ⟨xa, ea, hra, la⟩ <;> rcases rt_list hb1 hb2 with ⟨lb, eb⟩ | ⟨xb, eb, hrb, lb⟩
   ·rw [la, lb]
    cases nnW a.FWraps.l <;> cases nnW b.FWraps.l <;> simp [Ab.on, guardO]
   ·rw [ea, eb] at hf'; simp [fil] at hf'
   ·rw [ea, eb] at hf'; simp [fil] at hf'
   ·rw [la, lb, ea, eb]
    have h2 : fil xa = fil xb := by rw [ea, eb] at hf'; simpa [fil] using hf'
    rw [ea] at hla; rw [eb] at hlb
    simp only [List.length_cons] at hla hlb
    have ih := r05_fitsAux n ⟨a.FName, ⟨false, xa⟩⟩ ⟨b.FName, ⟨false, xb⟩⟩ hra hrb (by simp only; omega) (by simp only; omega) (by simp only; omega)
    simp only [hs.1, h2, decide_true, Bool.and_self, Bool.true_and] at ih
    cases nnW a.FWraps.l <;> cases nnW b.FWraps.l <;> simp [Ab.on, guardO, ih]
theorem rightAux (a : TRef) (ha : a.FWraps.l.length ≤ 1048576) : ∀ (l : List Int) (i : Nat), i + l.length = a.FWraps.l.length → a.FWraps.l.drop i = l →
  Z15_q10 a l i = some (if rt l = true ∧ ¬ (0 < i ∧ nnW l = true ∧ a.FWraps.l[i - 1]? = some 1) then Sum.inl () else Sum.inr false)
 | [], i, _, _ => by rw [Z15_q10, if_pos]; exact ⟨rfl, fun h => by simp [nnW] at h⟩
 | x :: r, i, hi, hd => by
  simp only [List.length_cons] at hi
  have hdr : a.FWraps.l.drop (i + 1) = r := by rw [← List.drop_drop, hd]; rfl
  have hxi : a.FWraps.l[i]? = some x := by
   have h0 : (a.FWraps.l.drop i)[0]? = some x := by rw [hd]; rfl
   simpa using h0
  have ih := rightAux a ha r (i + 1) (by omega) hdr
  rw [Z15_q10]
  simp only [Ab.on, ih, rt, Nat.add_sub_cancel, hxi, Nat.zero_lt_succ, true_and]
  by_cases h0 : 0 < i
  ·rw [show decide ((0 : Int) < (i : Int)) = true from decide_eq_true (by omega)]
   have hlt : i - 1 < a.FWraps.l.length := by omega
   have hidx : idxC a.FWraps.l ((i : Int) - 1) = some a.FWraps.l[i - 1] := by
    unfold idxC
    rw [if_pos (by omega), show ((i : Int) - 1).toNat = i - 1 by omega, List.getElem?_eq_getElem hlt]
   have hsub : subC (i : Int) 1 = some ((i : Int) - 1) := subC_ok (by omega)
   rw [List.getElem?_eq_getElem hlt]
   by_cases h1 : x = 1
   ·subst h1
    by_cases hp : a.FWraps.l[i - 1] = 1
    ·simp [guardO, hsub, hidx, hp, h0, nnW]
    ·simp [guardO, hsub, hidx, hp, h0, nnW, and_comm]
   ·by_cases h2 : x = 2
    ·subst h2; simp [guardO, nnW]
    ·simp [h1, h2, guardO]
  ·rw [show decide ((0 : Int) < (i : Int)) = false from decide_eq_false (by omega)]
   by_cases h1 : x = 1
   ·subst h1; simp [guardO, h0, nnW, and_comm]
   ·by_cases h2 : x = 2
    ·subst h2; simp [guardO, nnW]
    ·simp [h1, h2, guardO]
theorem right_rt {a : TRef} (ha : a.FWraps.l.length ≤ 1048576) (h : Z15_q a = some true) : rt a.FWraps.l = true := by
 unfold Z15_q at h
 rw [rightAux a ha a.FWraps.l 0 (by omega) rfl] at h
 simp only [Ab.on] at h
 cases hr : rt a.FWraps.l
 ·rw [hr] at h
  cases hc : (!Z7_q a.FName || decide ((24 : Int) < ((a.FWraps.l.length : Nat) : Int))) <;> rw [hc] at h <;> simp at h
 ·rfl
theorem right_ok {a : TRef} (ha : a.FWraps.l.length ≤ 1048576) : ∃ b, Z15_q a = some b := by
 unfold Z15_q
 rw [rightAux a ha a.FWraps.l 0 (by omega) rfl]
 simp only [Ab.on]
 cases hc : (!Z7_q a.FName || decide ((24 : Int) < ((a.FWraps.l.length : Nat) : Int)))
 ·simp only [cond_false, Option.bind_some]
  split <;> exact ⟨_, rfl⟩
 ·exact ⟨_, rfl⟩
theorem fits_same {a b : TRef} (ha : SOk a.FWraps) (hb : SOk b.FWraps) (ra : rt a.FWraps.l = true) (rb : rt b.FWraps.l = true) : ∃ c, Z37_q a b = some c ∧ Z10_q a b = some c := by
 have hl := ha.2
 refine ⟨_, fits_eq ha hb, ?_⟩
 unfold Z10_q
 rw [r05_fitsAux F0 a b ra rb ha.2 hb.2 (by rw [F0_eq]; omega)]
 cases hs : (a.FName == b.FName && decide (fil a.FWraps.l = fil b.FWraps.l))
 ·rfl
 ·simp only [Bool.and_eq_true, decide_eq_true_eq] at hs
  rw [wk_rf F0 _ _ ra rb hs.2 (by rw [F0_eq]; omega)]
theorem fits_refl {a : TRef} (ha : SOk a.FWraps) (ra : rt a.FWraps.l = true) : Z37_q a a = some true := by
 have hl := ha.2
 rw [fits_eq ha ha, wk_rf F0 _ _ ra ra rfl (by rw [F0_eq]; omega), rf_refl F0 _ (by rw [F0_eq]; omega)]
 simp
end Go.Proofs

namespace Go.Proofs
open Go Go.Ab
theorem varsFit_eq {v : TVar} {t : TRef} {b : Bool} (hv : SOk v.FType.FWraps) (ht : SOk t.FWraps) : Z5 v t b = some true := by
 unfold Z5
 obtain ⟨x, hx⟩ := right_ok hv.2
 obtain ⟨y, hy⟩ := right_ok ht.2
 rw [Z15_eq, Z15_eq, hx, Option.bind_some, hy, example16]
 cases x
 ·rfl
 ·cases y
  ·rfl
  ·obtain ⟨c, e1, e2⟩ := fits_same hv ht (right_rt hv.2 hx) (right_rt ht.2 hy)
   have e3 := fits_refl hv (right_rt hv.2 hx)
   have f1 : Z50 (TDoc.mk (Sl.nil : Sl TDef)) v t b = some c := by rw [Z50_eq]; unfold Z50_q; rw [e1]; rfl
   have f2 : Z50 (TDoc.mk (Sl.nil : Sl TDef)) v v.FType b = some true := by rw [Z50_eq]; unfold Z50_q; rw [e3]; rfl
   rw [f1, f2, Z10_eq, e2]
   cases c <;> rfl
end Go.Proofs

namespace Go.Proofs.YtimiconoebjfbaaDoor
open Go Go.Ab Go.RowKit Go.ChangeShapes Go.WideShapes Go.ChangeAt
theorem bulkAll {H : Type} (l : List (DataW H)) : Rows.uptoBulkAll l = (l.map Rows.uptoBulk).sum := by
 induction l with
 | nil => rfl
 | cons x r ih => simp only [Rows.uptoBulkAll, List.map_cons, List.sum_cons, ih]
theorem bulkB {H : Type} : Bulk (H := H) Rows.uptoBulk := by
 refine ⟨fun d => ?_, fun b => by simp [Rows.uptoBulk], fun e s => by simp only [Rows.uptoBulk, bulkAll]; omega, fun l => by simp only [Rows.uptoBulk, bulkAll]; omega⟩
 cases d with
 | lit l => cases l <;> simp [Rows.uptoBulk]
 | nil => simp [Rows.uptoBulk]
 | ptr d => simp [Rows.uptoBulk]
 | slice elems spare => simp [Rows.uptoBulk]
 | agg parts => simp [Rows.uptoBulk]
 | iface t d => simp [Rows.uptoBulk]
 | map entries => simp [Rows.uptoBulk]
 | held h => simp [Rows.uptoBulk]
theorem own : ownKnob Tryd.prog.godebug = none := by kernel_rfl
theorem laid : laidOutB Tryd.prog = true := by kernel_rfl
theorem bound {H : Type} {l : List (DataW H)} (hk : Rows.uptoSmall H l = true) : Rows.uptoBulkAll l ≤ 1048576 := of_decide_eq_true hk
theorem TRef.sok {r : TRef} (h : r.sz ≤ 1048576) (hw : r.wf) : SOk r.FWraps := ⟨hw.2.1.1, by have := r.sz_def; have := Sl.len_le (f := fun _ : Int => 1) r.FWraps (fun _ => Nat.le_refl _); omega⟩
theorem varsFit_call (v : TVar) (t : TRef) (b : Bool) (hv : v.sz ≤ 1048576) (wv : v.wf) (ht : t.sz ≤ 1048576) (wt : t.wf) (H : Heap) : ACalls Tryd.prog 4 [.agg v.c, .agg t.c, .d (.bool b)] H fun r h' => r = .a (.d (.bool true)) ∧ h' = H :=
 Z5_walk (varsFit_eq (TRef.sok (by have := v.sz_def; omega) (TVar.FType_wf wv)) (TRef.sok ht wt)) H
end Go.Proofs.YtimiconoebjfbaaDoor

