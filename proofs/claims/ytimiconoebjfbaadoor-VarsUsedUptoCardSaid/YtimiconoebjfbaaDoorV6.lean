import Derived.Test.YtimiconoebjfbaaDoorV5
import Derived.Test.YtimiconoebjfbaaDoorRows
set_option maxRecDepth 100000
set_option maxHeartbeats 2000000
set_option linter.unusedVariables false
set_option linter.unusedSimpArgs false
namespace Go.Proofs
open Go Go.Ab
def addU (l : List Bs) (x : Bs) : List Bs := bif l.contains x then l else l ++ [x]
def dd (l : List Bs) : List Bs := l.foldl addU []
theorem dd_snoc (l : List Bs) (x : Bs) : dd (l ++ [x]) = addU (dd l) x := by simp [dd, List.foldl_append]
theorem addU_len (l : List Bs) (x : Bs) : (addU l x).length ≤ l.length + 1 := by unfold addU; cases l.contains x <;> simp
theorem fold_len : ∀ (l a : List Bs), (l.foldl addU a).length ≤ a.length + l.length
 | [], a => by simp
 | x :: r, a => by have := fold_len r (addU a x); have := addU_len a x; simp only [List.foldl_cons, List.length_cons]; omega
theorem dd_len (l : List Bs) : (dd l).length ≤ l.length := by have := fold_len l []; simpa [dd] using this
def Rel (o r : Sl Bs) : Prop := r.l = dd o.l
theorem rhasAux (s : Bs) (l : List Bs) : Z13_q5 s l = bif l.contains s then Sum.inr true else Sum.inl () := by
 induction l with
 | nil => rfl
 | cons a r ih =>
  rw [Z13_q5]
  simp only [Ab.on, ih, List.contains_cons]
  rw [show (s == a) = (a == s) from Bool.beq_comm]
  cases a == s <;> rfl
theorem rhas_eq (a : Sl Bs) (s : Bs) : Z13_q a s = a.l.contains s := by
 unfold Z13_q; simp only [Ab.on]; rw [rhasAux]; cases a.l.contains s <;> rfl
def bigL : Nat := 549755813888
def Both (p f : Option (Sl Bs)) (o : Sl Bs) (n : Nat) : Prop := ∃ o' r', p = some o' ∧ f = some r' ∧ Rel o' r' ∧ o'.l.length ≤ o.l.length + n
theorem Both.id {o r : Sl Bs} (h : Rel o r) (n : Nat) : Both (some o) (some r) o n := ⟨o, r, rfl, rfl, h, by omega⟩
theorem Both.bind {p f : Option (Sl Bs)} {k k' : Sl Bs → Option (Sl Bs)} {o : Sl Bs} {n m t : Nat} (h : Both p f o n) (ht : n + m ≤ t)
  (hk : ∀ o' r', Rel o' r' → o'.l.length ≤ o.l.length + n → Both (k o') (k' r') o' m) : Both (p.bind k) (f.bind k') o t := by
 obtain ⟨o1, r1, e1, e2, h1, h2⟩ := h
 obtain ⟨o2, r2, e3, e4, h3, h4⟩ := hk o1 r1 h1 h2
 exact ⟨o2, r2, by rw [e1]; exact e3, by rw [e2]; exact e4, h3, by omega⟩
theorem val_both : ∀ (n : Nat) (v : TValue) (o r : Sl Bs), v.sz < n → Rel o r → o.l.length + v.sz ≤ bigL → Both (Z54_qn n v o) (Z14_qn n v r) o v.sz
 | 0, _, _, _, h, _, _ => by omega
 | n + 1, v, o, r, hn, hr, hb => by
  have hs := v.sz_def
  have hp := Bs.sz_pos v.FText
  rw [Z54_qn, Z14_qn]
  unfold bigL at hb
  cases h7 : decide (v.FKind = 7)
  ·have hl : ∀ (l : List TValue) (o r : Sl Bs), (∀ x ∈ l, x.sz < n) → Rel o r → o.l.length + (l.map TValue.sz).sum ≤ bigL → (decide (v.FKind = 5) || decide (v.FKind = 6)) = true →
     Both (Z54_q15 (Z54_qn n) l o) (Z14_q16 v (Z14_qn n) l r) o (l.map TValue.sz).sum := by
    intro l
    induction l with
    | nil => intro o r _ h _ _; exact Both.id h _
    | cons a t ih =>
     intro o r hx h hb hk
     simp only [List.map_cons, List.sum_cons] at hb ⊢
     rw [Z54_q15, Z14_q16, hk]
     simp only [Ab.on, cond_true]
     exact (val_both n a o r (hx a (by simp)) h (by omega)).bind (Nat.le_refl _) fun o' r' h1 h2 => ih o' r' (fun x hx' => hx x (by simp [hx'])) h1 (by omega) hk
   have hsum : (v.FItems.l.map TValue.sz).sum + 1 = Sl.sz TValue.sz v.FItems := by unfold Sl.sz; omega
   have hmem : ∀ x ∈ v.FItems.l, x.sz < n := fun x hx => by have := Sl.mem_le (f := TValue.sz) hx; omega
   simp only [cond_false, Ab.on]
   cases hk : (decide (v.FKind = 5) || decide (v.FKind = 6))
   ·have h5 : decide (v.FKind = 5) = false := by simp only [Bool.or_eq_false_iff] at hk; exact hk.1
    have h6 : decide (v.FKind = 6) = false := by simp only [Bool.or_eq_false_iff] at hk; exact hk.2
    have e : Z14_q16 v (Z14_qn n) v.FItems.l r = some r := by
     cases v.FItems.l with
     | nil => rfl
     | cons a t => rw [Z14_q16, hk]; rfl
    rw [h5, h6, e]
    exact Both.id hr _
   ·have e : (bif decide (v.FKind = 5) then decide (v.FKind = 5) else decide (v.FKind = 6)) = true := by
     cases h5 : decide (v.FKind = 5) <;> simp_all
    rw [e]
    have h1 := hl v.FItems.l o r hmem hr (by unfold bigL; omega) hk
    obtain ⟨o', r', e1, e2, h2, h3⟩ := h1
    exact ⟨o', r', by rw [e1]; rfl, by rw [e2]; rfl, h2, by omega⟩
  ·simp only [cond_true, Ab.on, rhas_eq]
   rw [appC_ok (by decide) (by simp; omega), Option.bind_some]
   have hr' : r.l = dd o.l := hr
   have hdl := dd_len o.l
   cases hc : r.l.contains v.FText
   ·simp only [Bool.not_false, cond_true]
    rw [appC_ok (by decide) (by rw [hr']; simp; omega), Option.bind_some, Option.bind_some]
    refine ⟨_, _, rfl, rfl, ?_, by simp; omega⟩
    show r.l ++ [v.FText] = dd (o.l ++ [v.FText])
    rw [dd_snoc, ← hr', addU, hc]; rfl
   ·simp only [Bool.not_true, cond_false, Option.bind_some]
    refine ⟨_, _, rfl, rfl, ?_, by simp; omega⟩
    show r.l = dd (o.l ++ [v.FText])
    rw [dd_snoc, ← hr', addU, hc]; rfl
theorem val_top (v : TValue) (o r : Sl Bs) (hv : v.sz ≤ 1048576) (h : Rel o r) (hb : o.l.length + v.sz ≤ bigL) : Both (Z54_q v o) (Z14_q v r) o v.sz :=
 val_both F0 v o r (by rw [F0_eq]; omega) h hb
theorem args_both : ∀ (l : List TArg) (o r : Sl Bs), (∀ a ∈ l, a.sz ≤ 1048576) → Rel o r → o.l.length + (l.map TArg.sz).sum ≤ bigL → Both (Z55_q63 l o) (Z15_q65 l r) o (l.map TArg.sz).sum
 | [], o, r, _, h, _ => Both.id h _
 | a :: t, o, r, hx, h, hb => by
  have hs := a.sz_def
  have ha := hx a (by simp)
  simp only [List.map_cons, List.sum_cons] at hb ⊢
  rw [Z55_q63, Z15_q65]
  simp only [Ab.on]
  exact (val_top a.FValue o r (by omega) h (by omega)).bind (by omega) fun o' r' h1 h2 => args_both t o' r' (fun x hx' => hx x (by simp [hx'])) h1 (by omega)
theorem dargs_both (y : TDir) : ∀ (l : List TArg) (o r : Sl Bs), (∀ a ∈ l, a.sz ≤ 1048576) → Rel o r → o.l.length + (l.map TArg.sz).sum ≤ bigL → Both (Z55_q51 l o) (Z15_q52 y l r) o (l.map TArg.sz).sum
 | [], o, r, _, h, _ => Both.id h _
 | a :: t, o, r, hx, h, hb => by
  have hs := a.sz_def
  have ha := hx a (by simp)
  simp only [List.map_cons, List.sum_cons] at hb ⊢
  rw [Z55_q51, Z15_q52]
  simp only [Ab.on]
  exact (val_top a.FValue o r (by omega) h (by omega)).bind (by omega) fun o' r' h1 h2 => dargs_both y t o' r' (fun x hx' => hx x (by simp [hx'])) h1 (by omega)
theorem dirs_both : ∀ (l : List TDir) (o r : Sl Bs), (∀ a ∈ l, a.sz ≤ 1048576) → Rel o r → o.l.length + (l.map TDir.sz).sum ≤ bigL → Both (Z55_q39 l o) (Z15_q42 l r) o (l.map TDir.sz).sum
 | [], o, r, _, h, _ => Both.id h _
 | a :: t, o, r, hx, h, hb => by
  have hs := a.sz_def
  have ha := hx a (by simp)
  have hsum : (a.FArgs.l.map TArg.sz).sum + 1 = Sl.sz TArg.sz a.FArgs := by unfold Sl.sz; omega
  simp only [List.map_cons, List.sum_cons] at hb ⊢
  rw [Z55_q39, Z15_q42]
  simp only [Ab.on]
  refine Both.bind (m := (t.map TDir.sz).sum) (dargs_both a a.FArgs.l o r (fun x hx' => by have := Sl.mem_le (f := TArg.sz) hx'; omega) h (by omega)) (by omega) fun o' r' h1 h2 => ?_
  exact dirs_both t o' r' (fun x hx' => hx x (by simp [hx'])) h1 (by omega)
theorem insS_mem' (l : List Bs) (s n : Bs) : n ∈ insS l s ↔ n ∈ l ∨ n = s := by
 unfold insS
 cases hc : l.contains s
 ·simp [or_comm]
 ·have : s ∈ l := by simpa using hc
  simp only [if_true, cond_true]
  exact ⟨.inl, fun h => h.elim id fun e => e ▸ this⟩
def wgt (fr : Sl TFrag) (T : Nat) (s : List Bs) : Nat := unseen fr s * (T + 1)
theorem wgt_le {fr : Sl TFrag} {T : Nat} {a b : List Bs} (h : ∀ s ∈ a, s ∈ b) : wgt fr T b ≤ wgt fr T a := Nat.mul_le_mul_right _ (unseen_le h)
theorem wgt_lt {fr : Sl TFrag} {T : Nat} {a b : List Bs} (h : ∀ s ∈ a, s ∈ b) {f : TFrag} (hf : f ∈ fr.l) (h1 : f.FName ∉ a) (h2 : f.FName ∈ b) : wgt fr T b + (T + 1) ≤ wgt fr T a := by
 have h3 : (unseen fr b + 1) * (T + 1) ≤ unseen fr a * (T + 1) := Nat.mul_le_mul_right _ (unseen_lt h hf h1 h2)
 rw [Nat.succ_mul] at h3; exact h3
def Wlk (fr : Sl TFrag) (T : Nat) (p : Option (Sl Bs × List Bs)) (f : Option (Sl Bs × Sl Bs)) (o : Sl Bs) (sp : List Bs) (sr : Sl Bs) (m : Nat) : Prop :=
 ∃ o' r' sp' sr', p = some (o', sp') ∧ f = some (r', sr') ∧ Rel o' r' ∧ (∀ x, x ∈ sr'.l ↔ x ∈ sp') ∧ (∀ x ∈ sp, x ∈ sp') ∧ sr'.l.length + unseen fr sp' ≤ sr.l.length + unseen fr sp ∧ o'.l.length + wgt fr T sp' ≤ o.l.length + wgt fr T sp + m
theorem sel_all (s : TSel) : (s.FArgs.l.map TArg.sz).sum + (s.FDirs.l.map TDir.sz).sum + (s.FSels.l.map TSel.sz).sum + 4 ≤ s.sz := by
 have h := s.sz_def; have h1 := Bs.sz_pos s.FAlias; have h2 := Bs.sz_pos s.FName
 have h3 : (s.FArgs.l.map TArg.sz).sum + 1 = Sl.sz TArg.sz s.FArgs := by unfold Sl.sz; omega
 have h5 : (s.FDirs.l.map TDir.sz).sum + 1 = Sl.sz TDir.sz s.FDirs := by unfold Sl.sz; omega
 have h4 : (s.FSels.l.map TSel.sz).sum + 1 = Sl.sz TSel.sz s.FSels := by unfold Sl.sz; omega
 omega
theorem walk_step {q : TQuery} {T n : Nat} (hT1 : T ≤ 1048576) (hT : ∀ f ∈ q.FFrags.l, (f.FSels.l.map TSel.sz).sum ≤ T)
  (ih : ∀ (l : Sl TSel) (o r : Sl Bs) (sp : List Bs) (sr : Sl Bs), wgt q.FFrags T sp + (l.l.map TSel.sz).sum < n → (l.l.map TSel.sz).sum ≤ T → Rel o r → (∀ x, x ∈ sr.l ↔ x ∈ sp) → sr.l.length + unseen q.FFrags sp ≤ 1048576 →
   o.l.length + wgt q.FFrags T sp + (l.l.map TSel.sz).sum ≤ bigL → Wlk q.FFrags T (Z55_qn n q l sp o) (Z15_qn n q l r sr) o sp sr (l.l.map TSel.sz).sum) :
  ∀ (l : List TSel) (o r : Sl Bs) (sp : List Bs) (sr : Sl Bs), wgt q.FFrags T sp + (l.map TSel.sz).sum ≤ n → (l.map TSel.sz).sum ≤ T → Rel o r → (∀ x, x ∈ sr.l ↔ x ∈ sp) → sr.l.length + unseen q.FFrags sp ≤ 1048576 →
   o.l.length + wgt q.FFrags T sp + (l.map TSel.sz).sum ≤ bigL → Wlk q.FFrags T (Z55_q8 q (Z55_qn n) l o sp) (Z15_q7 q (Z15_qn n) l r sr) o sp sr (l.map TSel.sz).sum
 | [], o, r, sp, sr, _, _, h, hs, _, _ => ⟨o, r, sp, sr, rfl, rfl, h, hs, fun _ h => h, Nat.le_refl _, by omega⟩
 | h :: t, o, r, sp, sr, hn, hl, hr, hs, hu, hb => by
  simp only [List.map_cons, List.sum_cons] at hn hl hb ⊢
  have hp := sel_all h
  have ha := args_both h.FArgs.l o r (fun x hx => by have := sum_mem (f := TArg.sz) hx; omega) hr (by omega)
  obtain ⟨o1, r1, e1, e2, hr1, hl1⟩ := ha
  obtain ⟨o2, r2, e3, e4, hr2, hl2⟩ := dirs_both h.FDirs.l o1 r1 (fun x hx => by have := sum_mem (f := TDir.sz) hx; omega) hr1 (by omega)
  rw [Z55_q8, Z15_q7]
  simp only [Ab.on, ffind_eq, rfind_eq, rhas_eq]
  rw [e1, e2, Option.bind_some, Option.bind_some, e3, e4, Option.bind_some, Option.bind_some]
  -- the rest of the list
  have rest : ∀ (p : Option (Sl Bs × List Bs)) (f : Option (Sl Bs × Sl Bs)), Wlk q.FFrags T p f o2 sp sr (h.FSels.l.map TSel.sz).sum →
    Wlk q.FFrags T (p.bind fun z => Z55_q8 q (Z55_qn n) t z.1 z.2) (f.bind fun z => Z15_q7 q (Z15_qn n) t z.1 z.2) o sp sr (h.sz + (t.map TSel.sz).sum) := by
   rintro p f ⟨o3, r3, sp3, sr3, f1, f2, f3, f4, f5, f6, f7⟩
   have hw := wgt_le (fr := q.FFrags) (T := T) f5
   obtain ⟨o4, r4, sp4, sr4, g1, g2, g3, g4, g5, g6, g7⟩ := walk_step hT1 hT ih t o3 r3 sp3 sr3 (by omega) (by omega) f3 f4 (by omega) (by omega)
   exact ⟨o4, r4, sp4, sr4, by rw [f1]; exact g1, by rw [f2]; exact g2, g3, g4, fun x hx => g5 x (f5 x hx), by omega, by omega⟩
  refine rest _ _ ?_
  cases decide (h.FKind = 2)
  ·simp only [cond_false]
   obtain ⟨o3, r3, sp3, sr3, f1, f2, f3⟩ := ih h.FSels o2 r2 sp sr (by omega) (by omega) hr2 hs hu (by omega)
   exact ⟨o3, r3, sp3, sr3, by rw [f1]; rfl, by rw [f2]; rfl, f3⟩
  ·simp only [cond_true]
   cases hf : (fndG q.FFrags.l h.FName).2
   ·exact ⟨o2, r2, sp, sr, rfl, rfl, hr2, hs, fun _ h => h, Nat.le_refl _, by omega⟩
   ·obtain ⟨hn1, hm⟩ := fndG_name hf
    have hcc : sr.l.contains h.FName = sp.contains h.FName := by rw [Bool.eq_iff_iff]; simp [hs]
    simp only [Bool.not_true, Bool.not_false, cond_true, Bool.false_or]
    rw [hcc]
    cases hc : sp.contains h.FName
    ·have hc' : h.FName ∉ sp := by simpa using hc
     simp only [cond_false]
     have hsub : ∀ x ∈ sp, x ∈ insS sp h.FName := fun x hx => (insS_mem' _ _ _).2 (.inl hx)
     have hin : h.FName ∈ insS sp h.FName := (insS_mem' _ _ _).2 (.inr rfl)
     have hlt := unseen_lt (fr := q.FFrags) hsub hm (by rw [hn1]; exact hc') (by rw [hn1]; exact hin)
     have hwl := wgt_lt (fr := q.FFrags) (T := T) hsub hm (by rw [hn1]; exact hc') (by rw [hn1]; exact hin)
     have hTm := hT _ hm
     rw [appC_ok (by decide) (by simp only [List.length_singleton]; omega), Option.bind_some]
     obtain ⟨o3, r3, sp3, sr3, f1, f2, f3, f4, f5, f6, f7⟩ := ih (fndG q.FFrags.l h.FName).1.FSels o2 r2 (insS sp h.FName) ⟨sr.nl && List.isEmpty [h.FName], sr.l ++ [h.FName]⟩ (by omega) hTm hr2
      (fun x => by rw [insS_mem', List.mem_append, List.mem_singleton, hs]) (by simp only [List.length_append, List.length_singleton]; omega) (by omega)
     simp only [List.length_append, List.length_singleton] at f6
     exact ⟨o3, r3, sp3, sr3, by rw [f1]; rfl, by rw [f2]; rfl, f3, f4, fun x hx => f5 x (hsub x hx), by omega, by omega⟩
    ·simp only [cond_true]
     exact ⟨o2, r2, sp, sr, rfl, rfl, hr2, hs, fun _ h => h, Nat.le_refl _, by omega⟩
theorem walk_both {q : TQuery} {T : Nat} (hT1 : T ≤ 1048576) (hT : ∀ f ∈ q.FFrags.l, (f.FSels.l.map TSel.sz).sum ≤ T) : ∀ (n : Nat) (l : Sl TSel) (o r : Sl Bs) (sp : List Bs) (sr : Sl Bs), wgt q.FFrags T sp + (l.l.map TSel.sz).sum < n → (l.l.map TSel.sz).sum ≤ T → Rel o r → (∀ x, x ∈ sr.l ↔ x ∈ sp) → sr.l.length + unseen q.FFrags sp ≤ 1048576 →
   o.l.length + wgt q.FFrags T sp + (l.l.map TSel.sz).sum ≤ bigL → Wlk q.FFrags T (Z55_qn n q l sp o) (Z15_qn n q l r sr) o sp sr (l.l.map TSel.sz).sum
 | 0, _, _, _, _, _, h, _, _, _, _, _ => by omega
 | n + 1, l, o, r, sp, sr, hn, hl, hr, hs, hu, hb => by
  obtain ⟨o3, r3, sp3, sr3, f1, f2, f3⟩ := walk_step hT1 hT (walk_both hT1 hT n) l.l o r sp sr (by omega) hl hr hs hu hb
  exact ⟨o3, r3, sp3, sr3, by rw [Z55_qn, f1]; rfl, by rw [Z15_qn, f2]; rfl, f3⟩
theorem addC_nat {i : Nat} (h : i ≤ 549755813888) : addC (i : Int) 1 = some ((i + 1 : Nat) : Int) := by
 rw [addC_ok ⟨by omega, by omega⟩]
 rfl
theorem used_step (x : Sl Bs × List Bs) (hx : x.1.l.length ≤ 549755813888) (n i : Nat) (acc : Sl Bs) (hlt : i < x.1.l.length) (ha : acc.l = dd (x.1.l.take i)) :
  ∃ acc' : Sl Bs, Z46_l15 x (n + 1) acc (i : Int) = Z46_l15 x n acc' ((i + 1 : Nat) : Int) ∧ acc'.l = dd (x.1.l.take (i + 1)) := by
 rw [Z46_l15]
 have hg := List.getElem?_eq_getElem hlt
 rw [show decide ((i : Int) < (x.1.l.length : Int)) = true from decide_eq_true (by omega), cond_true]
 have hidx : idxC x.1.l (i : Int) = some x.1.l[i] := by unfold idxC; rw [if_pos (by simp), Int.toNat_natCast, hg]
 have hadd : addC (i : Int) 1 = some ((i + 1 : Nat) : Int) := addC_nat (by omega)
 have ht : x.1.l.take (i + 1) = x.1.l.take i ++ [x.1.l[i]] := by rw [List.take_add_one, hg]; rfl
 have hlen : acc.l.length ≤ x.1.l.length := by rw [ha]; exact Nat.le_trans (dd_len _) (by simp; omega)
 rw [hidx, Option.bind_some, Z27_eq, contains_eq, Option.bind_some]
 unfold Z46_j21
 cases hc : acc.l.contains x.1.l[i]
 ·rw [Bool.not_false, cond_true, appC_ok (by decide) (by simp only [List.length_singleton]; omega), Option.bind_some, hadd, Option.bind_some]
  exact ⟨_, rfl, by rw [ht, dd_snoc, ← ha, addU, hc]; rfl⟩
 ·rw [Bool.not_true, cond_false, hadd, Option.bind_some]
  exact ⟨_, rfl, by rw [ht, dd_snoc, ← ha, addU, hc]; rfl⟩
theorem used_loop (x : Sl Bs × List Bs) (hx : x.1.l.length ≤ 549755813888) : ∀ (n i : Nat) (acc : Sl Bs), i ≤ x.1.l.length → x.1.l.length < i + n → acc.l = dd (x.1.l.take i) → ∃ nl, Z46_l15 x n acc (i : Int) = some ⟨nl, dd x.1.l⟩ := by
 intro n
 induction n with
 | zero => intro i _ h h2; omega
 | succ n ih =>
  intro i acc hi hn ha
  by_cases hlt : i < x.1.l.length
  ·obtain ⟨acc', e, h⟩ := used_step x hx n i acc hlt ha
   rw [e]
   exact ih (i + 1) acc' (by omega) (by omega) h
  ·refine ⟨acc.nl, ?_⟩
   rw [Z46_l15, show decide ((i : Int) < (x.1.l.length : Int)) = false from decide_eq_false (by omega), cond_false]
   rw [List.take_of_length_le (by omega)] at ha
   unfold Z46_j7
   rw [← ha]
end Go.Proofs

namespace Go.Proofs
open Go Go.Ab
theorem deep_tot : ∀ (n : Nat) (l : Sl TSel) (a : Int), (l.l.map TSel.sz).sum < n → a ≤ 1000 → ∃ b, Z11_qn n l a = some b
 | 0, _, _, h, _ => by omega
 | n + 1, l, a, h, ha => by
  have loop : ∀ (t : List TSel), (t.map TSel.sz).sum ≤ n → ∃ b, Z11_q5 a (Z11_qn n) t = some b := by
   intro t
   induction t with
   | nil => intro _; exact ⟨_, rfl⟩
   | cons x r ih =>
    intro ht
    simp only [List.map_cons, List.sum_cons] at ht
    have hp := sel_all x
    obtain ⟨b, hb⟩ := ih (by omega)
    rw [Z11_q5]
    simp only [Ab.on]
    by_cases h0 : a ≤ 0
    ·rw [show decide (a ≤ 0) = true from decide_eq_true h0]
     exact ⟨_, rfl⟩
    ·rw [show decide (a ≤ 0) = false from decide_eq_false h0]
     obtain ⟨c, hc⟩ := deep_tot n x.FSels (a - 1) (by omega) (by omega)
     simp only [Bool.not_false, cond_true, guardO, if_true, Bool.false_or]
     rw [subC_ok (by omega), Option.bind_some, hc, Option.bind_some]
     cases c
     ·exact ⟨b, hb⟩
     ·exact ⟨_, rfl⟩
  obtain ⟨b, hb⟩ := loop l.l (by omega)
  rw [Z11_qn, hb]
  cases b <;> exact ⟨_, rfl⟩
theorem count_tot : ∀ (n : Nat) (l : Sl TSel) (a : Int), (l.l.map TSel.sz).sum < n → (l.l.map TSel.sz).sum ≤ 1048576 → a ≤ 1000 → ∃ b, Z10_qn n l a = some b ∧ 0 ≤ b ∧ b ≤ ((l.l.map TSel.sz).sum : Nat)
 | 0, _, _, h, _, _ => by omega
 | n + 1, l, a, h, hl, ha => by
  have loop : ∀ (t : List TSel) (c : Int), (t.map TSel.sz).sum ≤ n → 0 ≤ c → c + ((t.map TSel.sz).sum : Nat) ≤ 1048576 → ∃ b, Z10_q7 a (Z10_qn n) t c = some b ∧ 0 ≤ b ∧ b ≤ c + ((t.map TSel.sz).sum : Nat) := by
   intro t
   induction t with
   | nil => intro c _ h0 _; exact ⟨c, rfl, h0, by simp⟩
   | cons x r ih =>
    intro c ht h0 hc
    simp only [List.map_cons, List.sum_cons] at ht hc ⊢
    have hp := sel_all x
    have hla : x.FArgs.l.length ≤ (x.FArgs.l.map TArg.sz).sum := by have := Sl.len_lt (f := TArg.sz) x.FArgs TArg.pos; unfold Sl.sz at this; omega
    have hld : x.FDirs.l.length ≤ (x.FDirs.l.map TDir.sz).sum := by have := Sl.len_lt (f := TDir.sz) x.FDirs TDir.pos; unfold Sl.sz at this; omega
    rw [Z10_q7]
    simp only [Ab.on]
    by_cases hlt : c < a
    ·rw [show decide (c < a) = true from decide_eq_true hlt, cond_true]
     obtain ⟨d, hd, hd0, hd1⟩ := count_tot n x.FSels (a - c) (by omega) (by omega) (by omega)
     rw [addC_ok (by omega), Option.bind_some, addC_ok (by omega), Option.bind_some, subC_ok (by omega), Option.bind_some, hd, Option.bind_some, addC_ok (by omega), Option.bind_some, addC_ok (by omega), Option.bind_some]
     obtain ⟨b, hb, hb0, hb1⟩ := ih (c + (1 + (x.FArgs.l.length : Int) + (x.FDirs.l.length : Int) + d)) (by omega) (by omega) (by omega)
     exact ⟨b, hb, hb0, by omega⟩
    ·rw [show decide (c < a) = false from decide_eq_false hlt]
     exact ⟨c, rfl, h0, by omega⟩
  obtain ⟨b, hb, hb0, hb1⟩ := loop l.l 0 (by omega) (by omega) (by omega)
  rw [Z10_qn, hb]
  exact ⟨b, rfl, hb0, by omega⟩
theorem deep_top (l : Sl TSel) (h : (l.l.map TSel.sz).sum ≤ 1048576) : ∃ b, Z11_q l 26 = some b := deep_tot F0 l 26 (by rw [F0_eq]; omega) (by omega)
theorem count_top (l : Sl TSel) (h : (l.l.map TSel.sz).sum ≤ 1048576) : ∃ b, Z10_q l 300 = some b ∧ 0 ≤ b ∧ b ≤ 1048576 := by
 obtain ⟨b, h1, h2, h3⟩ := count_tot F0 l 300 (by rw [F0_eq]; omega) h (by omega)
 exact ⟨b, h1, h2, by omega⟩
theorem large_ops : ∀ (l : List TOp) (c : Int), (∀ x ∈ l, (x.FSels.l.map TSel.sz).sum ≤ 1048576) → 0 ≤ c → c + l.length * 1048576 ≤ 1125899906842624 → ∃ b, Z9_q32 l c = some b ∧ ∀ d, b = Sum.inl d → 0 ≤ d ∧ d ≤ c + l.length * 1048576
 | [], c, _, h0, _ => ⟨_, rfl, fun d e => by cases e; simp; omega⟩
 | x :: r, c, hx, h0, hc => by
  simp only [List.length_cons] at hc ⊢
  obtain ⟨b1, h1⟩ := deep_top x.FSels (hx x (by simp))
  obtain ⟨b2, h2, h3, h4⟩ := count_top x.FSels (hx x (by simp))
  rw [Z9_q32]
  simp only [Ab.on, h1, Option.bind_some]
  cases hb : (b1 || decide ((30 : Int) < (((bif !b1 then x else TOp.zero).FVars.l.length : Nat) : Int)))
  ·rw [cond_false, h2, Option.bind_some, addC_ok (by omega), Option.bind_some]
   obtain ⟨b, h5, h6⟩ := large_ops r (c + b2) (fun y hy => hx y (by simp [hy])) (by omega) (by omega)
   exact ⟨b, h5, fun d e => by have := h6 d e; omega⟩
  ·exact ⟨_, rfl, fun d e => by cases e⟩
theorem large_frags : ∀ (l : List TFrag) (c : Int), (∀ x ∈ l, (x.FSels.l.map TSel.sz).sum ≤ 1048576) → 0 ≤ c → c + l.length * 1048576 ≤ 1125899906842624 * 2 → ∃ b, Z9_q14 l c = some b
 | [], c, _, h0, _ => ⟨_, rfl⟩
 | x :: r, c, hx, h0, hc => by
  simp only [List.length_cons] at hc
  obtain ⟨b1, h1⟩ := deep_top x.FSels (hx x (by simp))
  obtain ⟨b2, h2, h3, h4⟩ := count_top x.FSels (hx x (by simp))
  rw [Z9_q14]
  simp only [Ab.on, h1, Option.bind_some]
  cases b1
  ·rw [cond_false, h2, Option.bind_some, addC_ok (by omega), Option.bind_some]
   exact large_frags r (c + b2) (fun y hy => hx y (by simp [hy])) (by omega) (by omega)
  ·exact ⟨_, rfl⟩
def QOk (q : TQuery) : Prop := q.FFrags.l.length ≤ 349526 ∧ q.FOps.l.length ≤ 1048576 ∧ (∀ f ∈ q.FFrags.l, (f.FSels.l.map TSel.sz).sum ≤ 1048576) ∧ ∀ f ∈ q.FOps.l, (f.FSels.l.map TSel.sz).sum ≤ 1048576
theorem three_len {α : Type} {f : α → Nat} : ∀ (l : List α), (∀ x ∈ l, 3 ≤ f x) → 3 * l.length ≤ (l.map f).sum
 | [], _ => by simp
 | a :: r, h => by
  have h1 := h a (by simp)
  have h2 := three_len r fun x hx => h x (by simp [hx])
  simp only [List.length_cons, List.map_cons, List.sum_cons]; omega
theorem qOk {q : TQuery} (h : q.sz ≤ 1048576) : QOk q := by
 have h0 := q.sz_def
 have h1 := Sl.len_lt (f := TOp.sz) q.FOps TOp.pos
 have h2 : 3 * q.FFrags.l.length ≤ (q.FFrags.l.map TFrag.sz).sum := three_len _ fun x _ => by
  have := x.sz_def; have := Bs.sz_pos x.FName; have := Bs.sz_pos x.FOn; have := Sl.sz_pos TSel.sz x.FSels; omega
 have h3 : (q.FFrags.l.map TFrag.sz).sum + 1 = Sl.sz TFrag.sz q.FFrags := by unfold Sl.sz; omega
 refine ⟨by omega, by omega, fun f hf => ?_, fun f hf => ?_⟩
 ·have h4 := Sl.mem_le (f := TFrag.sz) hf
  have h5 := f.sz_def
  have h6 : (f.FSels.l.map TSel.sz).sum + 1 = Sl.sz TSel.sz f.FSels := by unfold Sl.sz; omega
  omega
 ·have h4 := Sl.mem_le (f := TOp.sz) hf
  have h5 := f.sz_def
  have h6 : (f.FSels.l.map TSel.sz).sum + 1 = Sl.sz TSel.sz f.FSels := by unfold Sl.sz; omega
  omega
theorem large_tot {q : TQuery} (h : QOk q) : ∃ b, Z9_q q = some b := by
 obtain ⟨h1, h2, h3, h4⟩ := h
 unfold Z9_q
 cases hc : (decide ((8 : Int) < ((q.FOps.l.length : Nat) : Int)) || decide ((12 : Int) < ((q.FFrags.l.length : Nat) : Int)))
 ·simp only [Bool.or_eq_false_iff, decide_eq_false_iff_not] at hc
  obtain ⟨b, h5, h6⟩ := large_ops q.FOps.l 0 h4 (by omega) (by omega)
  rw [cond_false, h5, Option.bind_some]
  cases b with
  | inl d =>
   obtain ⟨h7, h8⟩ := h6 d rfl
   obtain ⟨b, h9⟩ := large_frags q.FFrags.l d h3 h7 (by omega)
   simp only [Ab.on, h9, Option.bind_some]
   cases b <;> exact ⟨_, rfl⟩
  | inr e => exact ⟨_, rfl⟩
 ·exact ⟨_, rfl⟩
theorem used_is {q : TQuery} (hq : QOk q) (i : Int) : ∃ o r, Z46 q i = some o ∧ Z12_q q i = some r ∧ o.l = r.l ∧ o.l.length ≤ 549755813888 := by
 unfold Z46 Z12_q
 cases hc : (decide (i < (0 : Int)) || decide (((q.FOps.l.length : Nat) : Int) ≤ i))
 ·simp only [Bool.or_eq_false_iff, decide_eq_false_iff_not] at hc
  have hlt : i.toNat < q.FOps.l.length := by omega
  have hidx : idxC q.FOps.l i = some q.FOps.l[i.toNat] := by unfold idxC; rw [if_pos (by omega), List.getElem?_eq_getElem hlt]
  have hs := hq.2.2.2 _ (List.getElem_mem hlt)
  rw [cond_false, cond_false, hidx, Option.bind_some, Option.bind_some, Z55_eq]
  have hu := unseen_all q.FFrags []
  have h1 := hq.1
  have hw : wgt q.FFrags 1048576 [] ≤ 349526 * (1048576 + 1) := Nat.mul_le_mul_right _ (by omega)
  obtain ⟨o, r, sp, sr, e1, e2, h3, _, _, _, h4⟩ := walk_both (T := 1048576) (Nat.le_refl _) hq.2.2.1 F0 q.FOps.l[i.toNat].FSels Sl.nil Sl.nil [] Sl.nil (by rw [F0_eq]; omega) hs rfl (by simp [Sl.nil]) (by simp only [Sl.nil, List.length_nil]; omega) (by simp only [Sl.nil, List.length_nil]; unfold bigL; omega)
  simp only [Sl.nil, List.length_nil] at h4
  have hlen : o.l.length ≤ 549755813888 := by omega
  unfold Z55_q Z15_q
  rw [e1, e2, Option.bind_some, Option.bind_some]
  obtain ⟨nl, h5⟩ := used_loop (o, sp) hlen F0 0 Sl.nil (Nat.zero_le _) (by rw [F0_eq]; simp only; omega) rfl
  exact ⟨_, r, h5, rfl, h3.symm, Nat.le_trans (dd_len _) hlen⟩
 ·exact ⟨Sl.nil, Sl.nil, rfl, rfl, rfl, by simp [Sl.nil]⟩
theorem cmp_loop (s : Int) (x y : Sl Bs) (k : Int → Option Bool) (h : x.l = y.l) : ∀ (n j : Nat), j ≤ x.l.length → x.l.length < j + n → Z5_l30 s x y k n j = Z5_j18 s k := by
 intro n
 induction n with
 | zero =>
  intro j h0 hj
  omega
 | succ n ih =>
  intro j h0 hj
  rw [Z5_l30]
  by_cases hlt : j < x.l.length
  ·rw [show decide ((j : Int) < (x.l.length : Int)) = true from decide_eq_true (by omega), cond_true, ← h, List.getElem?_eq_getElem hlt, Option.bind_some, Option.bind_some, beq_self_eq_true, Bool.not_true, cond_false]
   exact ih (j + 1) (by omega) (by omega)
  ·rw [show decide ((j : Int) < (x.l.length : Int)) = false from decide_eq_false (by omega), cond_false]
theorem all_loop {q : TQuery} (hq : QOk q) : ∀ (n k : Nat), k ≤ q.FOps.l.length + 2 → q.FOps.l.length + 2 < k + n → Z5_l12 q n ((k : Int) - 1) = some true := by
 intro n
 induction n with
 | zero => intro k h1 h2; omega
 | succ n ih =>
  intro k h1 h2
  have h3 := hq.2.1
  rw [Z5_l12]
  by_cases hlt : k < q.FOps.l.length + 2
  ·obtain ⟨o, r, e1, e2, e3, e4⟩ := used_is hq ((k : Int) - 1)
   rw [show decide ((k : Int) - 1 ≤ (q.FOps.l.length : Int)) = true from decide_eq_true (by omega), cond_true, e1, Option.bind_some, Z12_eq, e2, Option.bind_some, e3,
    show decide ((r.l.length : Int) = (r.l.length : Int)) = true from decide_eq_true rfl, Bool.not_true, cond_false, cmp_loop _ _ _ _ e3 _ _ (Nat.zero_le _) (by rw [e3]; omega)]
   unfold Z5_j18
   rw [addC_ok (by omega), Option.bind_some, show ((k : Int) - 1 + 1) = ((k + 1 : Nat) : Int) - 1 by omega]
   exact ih (k + 1) (by omega) (by omega)
  ·rw [show decide ((k : Int) - 1 ≤ (q.FOps.l.length : Int)) = false from decide_eq_false (by omega), cond_false]
   unfold Z5_j8
   rw [example16]; rfl
theorem varsUsed_eq {q : TQuery} (h : q.sz ≤ 1048576) : Z5 q = some true := by
 have hq := qOk h
 have h1 := hq.2.1
 obtain ⟨b, hb⟩ := large_tot hq
 unfold Z5
 rw [Z9_eq, hb, Option.bind_some]
 cases b
 ·rw [cond_false]
  exact all_loop hq F0 0 (by omega) (by rw [F0_eq]; omega)
 ·rw [cond_true, example16]; rfl
end Go.Proofs

namespace Go.Proofs.YtimiconoebjfbaaDoor
open Go Go.Ab Go.RowKit Go.ChangeShapes Go.WideShapes Go.ChangeAt
theorem bulkAll {H : Type} (l : List (DataW H)) : Rows.uptoBulkAll l = (l.map Rows.uptoBulk).sum := by
 induction l with
 | nil => rfl
 | cons x r ih => simp only [Rows.uptoBulkAll, List.map_cons, List.sum_cons, ih]
theorem bulkB {H : Type} : Bulk (H := H) Rows.uptoBulk := by
 refine ⟨fun d => ?_, fun b => by simp [Rows.uptoBulk], fun e s => by simp only [Rows.uptoBulk, bulkAll]; omega, fun l => by simp only [Rows.uptoBulk, bulkAll]; omega⟩
 cases d with
 | lit l => cases l <;> simp [Rows.uptoBulk]
 | nil => simp [Rows.uptoBulk]
 | ptr d => simp [Rows.uptoBulk]
 | slice elems spare => simp [Rows.uptoBulk]
 | agg parts => simp [Rows.uptoBulk]
 | iface t d => simp [Rows.uptoBulk]
 | map entries => simp [Rows.uptoBulk]
 | held h => simp [Rows.uptoBulk]
theorem own : ownKnob Tryd.prog.godebug = none := by kernel_rfl
theorem laid : laidOutB Tryd.prog = true := by kernel_rfl
theorem bound {H : Type} {l : List (DataW H)} (hk : Rows.uptoSmall H l = true) : Rows.uptoBulkAll l ≤ 1048576 := of_decide_eq_true hk
theorem varsUsed_call (q : TQuery) (hq : q.sz ≤ 1048576) (H : Heap) : ACalls Tryd.prog 3 [.agg q.c] H fun r h' => r = .a (.d (.bool true)) ∧ h' = H :=
 Z5_walk (varsUsed_eq hq) H
end Go.Proofs.YtimiconoebjfbaaDoor

