import Derived.Test.YtnbbdamkdkhjkaaGreatV10
import Derived.Test.YtnbbdamkdkhjkaaGreatRows
set_option maxRecDepth 100000
set_option maxHeartbeats 2000000
set_option linter.unusedVariables false
set_option linter.unusedSimpArgs false
namespace Go.Proofs
open Go Go.Ab
def bigU : Nat := 2400000000000
theorem appU {s r : Sl TUse} (h : s.l.length + r.l.length ≤ bigU) : appC 56 s r = some ⟨s.nl && r.l.isEmpty, s.l ++ r.l⟩ := by
 unfold bigU at h
 unfold appC; rw [if_pos]
 unfold maxN
 omega
def useU (a b c : Bs) : TUse := ⟨a, b, c, 1⟩
def inDef (d : TDoc) (name : Bs) : TDef := bif Z75_q name then TDef.zero else (fnd d.FDefs.l name).1
def vals (d : TDoc) : Nat → TRef → TValue → List TUse
 | 0, _, _ => []
 | n + 1, t, v =>
  bif decide (v.FKind = 5) then (bif liW (barS t.FWraps).l then v.FItems.l.flatMap (vals d n (innerT t)) else [])
  else bif decide (v.FKind = 4) && decide ((inDef d t.FName).FKind = 4) then [useU t.FName v.FText []]
  else bif decide (v.FKind = 6) && decide ((inDef d t.FName).FKind = 5) then
   (v.FKeys.l.zip v.FItems.l).flatMap fun p => bif (fndI (inDef d t.FName).FInputs.l p.1).2 then vals d n (fndI (inDef d t.FName).FInputs.l p.1).1.FType p.2 else []
  else []
theorem item_lt {v x : TValue} (h : x ∈ v.FItems.l) : x.sz < v.sz := by
 have := Sl.mem_le (f := TValue.sz) h; have := v.sz_def; omega
theorem flatMap_le' {α β : Type} {f : α → List β} {g : α → Nat} {l : List α} (h : ∀ x ∈ l, (f x).length ≤ g x) : (l.flatMap f).length ≤ (l.map g).sum := by
 induction l with
 | nil => simp
 | cons a r ih =>
  have := h a (by simp)
  have := ih fun x hx => h x (by simp [hx])
  rw [List.flatMap_cons, List.length_append, List.map_cons, List.sum_cons]; omega
theorem zip_sum {α β : Type} {g : β → Nat} : ∀ {k : List α} {l : List β}, ((k.zip l).map fun p => g p.2).sum ≤ (l.map g).sum
 | [], l => by simp
 | _ :: k, [] => by simp
 | _ :: k, b :: l => by have := zip_sum (g := g) (k := k) (l := l); simp; omega
theorem vals_len (d : TDoc) : ∀ (n : Nat) (t : TRef) (v : TValue), (vals d n t v).length ≤ v.sz
 | 0, _, v => by simp [vals]
 | n + 1, t, v => by
  have hv := v.sz_def
  have hs : (v.FItems.l.map TValue.sz).sum + 1 = Sl.sz TValue.sz v.FItems := by unfold Sl.sz; omega
  rw [vals]
  cases decide (v.FKind = 5)
  ·cases decide (v.FKind = 4) && decide ((inDef d t.FName).FKind = 4)
   ·cases decide (v.FKind = 6) && decide ((inDef d t.FName).FKind = 5)
    ·simp
    ·simp only [cond_true, cond_false]
     have h1 := flatMap_le' (l := v.FKeys.l.zip v.FItems.l) (f := fun p => bif (fndI (inDef d t.FName).FInputs.l p.1).2 then vals d n (fndI (inDef d t.FName).FInputs.l p.1).1.FType p.2 else []) (g := fun p => p.2.sz) (fun p _ => by
      try dsimp only
      cases (fndI (inDef d t.FName).FInputs.l p.1).2
      ·simp
      ·exact vals_len d n _ _)
     have h2 := zip_sum (g := TValue.sz) (k := v.FKeys.l) (l := v.FItems.l)
     omega
   ·simp; omega
  ·simp only [cond_true]
   cases liW (barS t.FWraps).l
   ·simp
   ·simp only [cond_true]
    have h1 := flatMap_le' (l := v.FItems.l) (f := vals d n (innerT t)) (g := TValue.sz) (fun x _ => vals_len d n _ x)
    omega
theorem flatMap_eq' {α β : Type} {f g : α → List β} {l : List α} (h : ∀ x ∈ l, f x = g x) : l.flatMap f = l.flatMap g := by
 induction l with
 | nil => rfl
 | cons a r ih => rw [List.flatMap_cons, List.flatMap_cons, h a (by simp), ih fun x hx => h x (by simp [hx])]
theorem zip_mem {α β : Type} {k : List α} {l : List β} {p : α × β} (h : p ∈ k.zip l) : p.2 ∈ l := by
 obtain ⟨a, b⟩ := p; exact (List.of_mem_zip h).2
theorem vals_ref (d : TDoc) {a b : TRef} (h : RefEq a b) : ∀ (n : Nat) (v : TValue), vals d n a v = vals d n b v := by
 have key : ∀ (n : Nat) (a b : TRef) (v : TValue), RefEq a b → vals d n a v = vals d n b v := by
  intro n
  induction n with
  | zero => intro a b v _; rfl
  | succ n ih =>
   intro a b v h
   have hi : RefEq (innerT a) (innerT b) := ⟨h.1, by simp only [innerT]; rw [h.bar]⟩
   rw [vals, vals, h.bar, h.1]
   rw [flatMap_eq' (f := vals d n (innerT a)) (g := vals d n (innerT b)) fun x _ => ih _ _ x hi]
 exact fun n v => key n a b v h
theorem vals_fuel (d : TDoc) : ∀ (n m : Nat) (t : TRef) (v : TValue), v.sz ≤ n → v.sz ≤ m → vals d n t v = vals d m t v
 | 0, _, _, v, h, _ => by have := v.pos; omega
 | _ + 1, 0, _, v, _, h => by have := v.pos; omega
 | n + 1, m + 1, t, v, h, h' => by
  rw [vals, vals]
  rw [flatMap_eq' (l := v.FItems.l) (f := vals d n (innerT t)) (g := vals d m (innerT t)) fun x hx => vals_fuel d n m _ x (by have := item_lt hx; omega) (by have := item_lt hx; omega)]
  rw [flatMap_eq' (l := v.FKeys.l.zip v.FItems.l) (g := fun p => bif (fndI (inDef d t.FName).FInputs.l p.1).2 then vals d m (fndI (inDef d t.FName).FInputs.l p.1).1.FType p.2 else []) fun p hp => by
   have hx := zip_mem hp
   try dsimp only
   rw [vals_fuel d n m _ p.2 (by have := item_lt hx; omega) (by have := item_lt hx; omega)]]
noncomputable def valU (d : TDoc) (t : TRef) (v : TValue) : List TUse := vals d v.sz t v
theorem vals_eq (d : TDoc) {n : Nat} (t : TRef) (v : TValue) (h : v.sz ≤ n) : vals d n t v = valU d t v := vals_fuel d _ _ t v h (Nat.le_refl _)

def Adds (o : Option Usage_recorder) (r : Usage_recorder) (L : List TUse) : Prop := ∃ nl, o = some ⟨r.Fd, r.Fq, ⟨nl, r.Fout.l ++ L⟩⟩ ∧ (nl = true → r.Fout.nl = true ∧ L = [])
theorem Adds.nil (r : Usage_recorder) : Adds (some r) r [] := ⟨r.Fout.nl, by simp, fun h => ⟨h, rfl⟩⟩
theorem Adds.bind {o : Option Usage_recorder} {r : Usage_recorder} {L M : List TUse} {k : Usage_recorder → Option Usage_recorder} (h : Adds o r L) (h2 : ∀ nl, Adds (k ⟨r.Fd, r.Fq, ⟨nl, r.Fout.l ++ L⟩⟩) ⟨r.Fd, r.Fq, ⟨nl, r.Fout.l ++ L⟩⟩ M) : Adds (o.bind k) r (L ++ M) := by
 obtain ⟨nl, e, g⟩ := h
 obtain ⟨nl2, e2, g2⟩ := h2 nl
 exact ⟨nl2, by rw [e, Option.bind_some, e2]; simp, fun h => by obtain ⟨h1, h2⟩ := g2 h; obtain ⟨h3, h4⟩ := g h1; exact ⟨h3, by rw [h4, h2]; rfl⟩⟩
theorem Adds.id {o : Option Usage_recorder} {r : Usage_recorder} {L : List TUse} (h : Adds o r L) : Adds (o.bind fun x => some x) r L := by
 have := Adds.bind (k := fun x => some x) h (fun nl => Adds.nil _)
 simpa using this
theorem use_adds (r : Usage_recorder) (a b c : Bs) (h : r.Fout.l.length + 1 ≤ bigU) : Adds (Z98 r a b c) r [useU a b c] := by
 rw [Z98_eq]
 unfold Z98_q
 rw [appU (by simpa using h)]
 exact ⟨_, rfl, fun h => by simp at h⟩
theorem scalar_zero {d : TDoc} {s : Bs} (h : Z75_q s = true) : inDef d s = TDef.zero := by unfold inDef; rw [h]; rfl
theorem scalar_def {d : TDoc} {s : Bs} (h : Z75_q s = false) : inDef d s = (fnd d.FDefs.l s).1 := by unfold inDef; rw [h]; rfl
theorem list_loop {d : TDoc} {v : TValue} {t : TRef} {b : Bool} (k : Usage_recorder → TValue → TRef → Option Usage_recorder) (hk : ∀ x ∈ v.FItems.l, ∀ r : Usage_recorder, r.Fd = d → r.Fout.l.length + x.sz ≤ bigU → Adds (k r x t) r (valU d t x)) :
  ∀ (m : Nat) (i : Nat) (r : Usage_recorder), v.FItems.l.length < i + m → 0 < m → r.Fd = d → r.Fout.l.length + ((v.FItems.l.drop i).map TValue.sz).sum ≤ bigU →
   Adds (Z99_l13 v (t, b) k m i r) r ((v.FItems.l.drop i).flatMap (valU d t))
 | 0, _, _, _, h, _, _ => by omega
 | m + 1, i, r, hm, _, hd, hl => by
  rw [Z99_l13]
  by_cases hi : i < v.FItems.l.length
  ·have hx := List.getElem?_eq_getElem hi
   have hdrop := List.drop_eq_getElem_cons hi
   rw [hdrop] at hl ⊢
   simp only [List.map_cons, List.sum_cons] at hl
   rw [decide_eq_true (by omega), cond_true, hx, Option.bind_some, List.flatMap_cons]
   refine Adds.bind (hk _ (List.getElem_mem hi) r hd (by omega)) fun nl => ?_
   refine list_loop k hk m (i + 1) _ (by omega) (by omega) hd ?_
   have := vals_len d v.FItems.l[i].sz t v.FItems.l[i]
   simp only [List.length_append]
   unfold valU
   omega
  ·rw [decide_eq_false (by omega), cond_false, List.drop_of_length_le (by omega)]
   exact Adds.nil r
theorem zip_drop {α β : Type} {k : List α} {l : List β} {i : Nat} (h1 : i < k.length) (h2 : i < l.length) : (k.zip l).drop i = (k[i], l[i]) :: (k.zip l).drop (i + 1) := by
 have : i < (k.zip l).length := by simp; omega
 rw [List.drop_eq_getElem_cons this]; simp
theorem addC_nat {i : Nat} (h : i ≤ 1048576) : addC (i : Int) 1 = some ((i + 1 : Nat) : Int) := by rw [addC_ok (by omega)]; congr 1
theorem idxC_nat {α : Type} {l : List α} {i : Nat} (h : i < l.length) : idxC l (i : Int) = some l[i] := by unfold idxC; rw [if_pos (by omega), Int.toNat_natCast, List.getElem?_eq_getElem h]
theorem min_nat {a b c : Nat} (h : c = min b a) : (if ((a : Nat) : Int) < ((b : Nat) : Int) then ((a : Nat) : Int) else ((b : Nat) : Int)) = ((c : Nat) : Int) := by split <;> omega

theorem obj_loop {d : TDoc} {v : TValue} {x : TDef × Bool} (k : Usage_recorder → TValue → TRef → Option Usage_recorder)
  (hk : ∀ t : TRef, ∀ y ∈ v.FItems.l, SOk t.FWraps → ∀ r : Usage_recorder, r.Fd = d → r.Fout.l.length + y.sz ≤ bigU → Adds (k r y t) r (valU d t y)) (hx : ∀ i ∈ x.1.FInputs.l, SOk i.FType.FWraps) :
  ∀ (m : Nat) (i : Nat) (r : Usage_recorder), (v.FKeys.l.zip v.FItems.l).length < i + m → i ≤ (v.FKeys.l.zip v.FItems.l).length → 0 < m → v.FItems.l.length ≤ 1048576 → v.FKeys.l.length ≤ 1048576 → r.Fd = d →
   r.Fout.l.length + (((v.FKeys.l.zip v.FItems.l).drop i).map fun p => p.2.sz).sum ≤ bigU →
   Adds (Z99_l35 v x k m (i : Int) r) r (((v.FKeys.l.zip v.FItems.l).drop i).flatMap fun p => bif (fndI x.1.FInputs.l p.1).2 then valU d (fndI x.1.FInputs.l p.1).1.FType p.2 else []) := by
 intro m
 induction m with
 | zero => intro i r _ _ h; omega
 | succ m ih =>
  intro i r hm hi0 _ hb1 hb2 hd hl
  rw [Z99_l35]
  have hlen : (v.FKeys.l.zip v.FItems.l).length = min v.FKeys.l.length v.FItems.l.length := List.length_zip
  have hmin := min_nat (a := v.FItems.l.length) (b := v.FKeys.l.length) hlen
  rw [hmin]
  by_cases hi : i < (v.FKeys.l.zip v.FItems.l).length
  ·have h1 : i < v.FKeys.l.length := by omega
   have h2 : i < v.FItems.l.length := by omega
   have hdrop := zip_drop h1 h2
   rw [hdrop] at hl ⊢
   simp only [List.map_cons, List.sum_cons] at hl
   have e1 := idxC_nat h1
   have e2 := idxC_nat h2
   have e3 : addC (i : Int) 1 = some ((i + 1 : Nat) : Int) := addC_nat (by omega)
   rw [decide_eq_true (by omega), cond_true, e1, Option.bind_some, Z73_eq, Option.bind_some, inputOf_eq, List.flatMap_cons]
   try dsimp only
   have hrest : ∀ (r' : Usage_recorder), r'.Fd = d → r'.Fout.l.length + (((v.FKeys.l.zip v.FItems.l).drop (i + 1)).map fun p => p.2.sz).sum ≤ bigU →
     Adds (Z99_j41 (i : Int) (Z99_l35 v x k m) r') r' (((v.FKeys.l.zip v.FItems.l).drop (i + 1)).flatMap fun p => bif (fndI x.1.FInputs.l p.1).2 then valU d (fndI x.1.FInputs.l p.1).1.FType p.2 else []) := fun r' hd' hl' => by
    unfold Z99_j41
    rw [e3, Option.bind_some]
    exact ih (i + 1) r' (by omega) (by omega) (by omega) hb1 hb2 hd' hl'
   cases hf : (fndI x.1.FInputs.l v.FKeys.l[i]).2
   ·rw [cond_false, cond_false, List.nil_append]
    exact hrest r hd (by omega)
   ·rw [cond_true, cond_true, e2, Option.bind_some]
    refine Adds.bind (hk _ _ (List.getElem_mem h2) (inputOk hx _) r hd (by omega)) fun nl => ?_
    refine hrest _ hd ?_
    have := vals_len d v.FItems.l[i].sz (fndI x.1.FInputs.l v.FKeys.l[i]).1.FType v.FItems.l[i]
    simp only [List.length_append]
    unfold valU
    omega
  ·rw [decide_eq_false (by omega), cond_false, List.drop_of_length_le (by omega)]
   exact Adds.nil r
theorem value_adds {d : TDoc} (hd : DefsOk d) : ∀ (n : Nat) (v : TValue) (t : TRef) (r : Usage_recorder), v.sz ≤ n → v.sz ≤ 1048576 → SOk t.FWraps → r.Fd = d → r.Fout.l.length + v.sz ≤ bigU → Adds (Z99_n n r v t) r (valU d t v)
 | 0, v, _, _, h, _, _, _, _ => by have := v.pos; omega
 | n + 1, v, t, r, hn, hb, ht, hr, hl => by
  have hv := v.sz_def
  have hs : (v.FItems.l.map TValue.sz).sum + 1 = Sl.sz TValue.sz v.FItems := by unfold Sl.sz; omega
  have hil : v.FItems.l.length ≤ 1048576 := by have := Sl.len_le (f := TValue.sz) v.FItems TValue.pos; omega
  have hkl : v.FKeys.l.length ≤ 1048576 := by have := Sl.len_le (f := Bs.sz) v.FKeys Bs.sz_pos; omega
  have ih : ∀ t : TRef, ∀ y ∈ v.FItems.l, SOk t.FWraps → ∀ r : Usage_recorder, r.Fd = d → r.Fout.l.length + y.sz ≤ bigU → Adds (Z99_n n r y t) r (valU d t y) := fun t y hy ht r hr hl => by
   have := item_lt hy
   exact value_adds hd n y t r (by omega) (by omega) ht hr hl
  have hV : valU d t v = vals d (v.sz - 1 + 1) t v := (vals_eq d t v (by have := v.pos; omega)).symm
  rw [hV, vals, Z99_n]
  have hitems : ∀ t : TRef, v.FItems.l.flatMap (vals d (v.sz - 1) t) = v.FItems.l.flatMap (valU d t) := fun t => flatMap_eq' fun x hx => vals_eq d t x (by have := item_lt hx; omega)
  have hpairs : (v.FKeys.l.zip v.FItems.l).flatMap (fun p => bif (fndI (inDef d t.FName).FInputs.l p.1).2 then vals d (v.sz - 1) (fndI (inDef d t.FName).FInputs.l p.1).1.FType p.2 else []) =
    (v.FKeys.l.zip v.FItems.l).flatMap (fun p => bif (fndI (inDef d t.FName).FInputs.l p.1).2 then valU d (fndI (inDef d t.FName).FInputs.l p.1).1.FType p.2 else []) := flatMap_eq' fun p hp => by
   have := item_lt (zip_mem hp)
   try dsimp only
   rw [vals_eq d _ p.2 (by omega)]
  rw [hitems, hpairs]
  cases h5 : decide (v.FKind = 5)
  ·simp only [cond_false]
   rw [Z72_eq, Option.bind_some, hr, find_eq, Z75_eq]
   cases hsc : Z75_q t.FName
   ·rw [scalar_def hsc]
    cases h4 : decide (v.FKind = 4) && decide ((fnd d.FDefs.l t.FName).1.FKind = 4)
    ·simp only [guardO, Bool.false_eq_true, if_false, Bool.false_and, cond_false]
     cases h6 : decide (v.FKind = 6) && decide ((fnd d.FDefs.l t.FName).1.FKind = 5)
     ·simp only [Bool.false_eq_true, if_false, Bool.false_and, cond_false]; exact Adds.nil r
     ·simp only [if_true, Option.bind_some, Bool.not_false, Bool.and_true, cond_true]
      have hzl : (v.FKeys.l.zip v.FItems.l).length ≤ 1048576 := by rw [List.length_zip]; omega
      have hF0 : ∀ z : Nat, z ≤ 1048576 → z < 0 + F0 := fun z hz => by rw [F0_eq]; omega
      have hl2 := zip_sum (g := TValue.sz) (k := v.FKeys.l) (l := v.FItems.l)
      have := obj_loop (d := d) (v := v) (x := fnd d.FDefs.l t.FName) (Z99_n n) ih (find_ok hd t.FName).2.2.2 F0 0 r (hF0 _ hzl) (Nat.zero_le _) (by rw [F0_eq]; omega) hil hkl hr (by rw [List.drop_zero]; omega)
      simpa using this
    ·simp only [guardO, if_true, Option.bind_some, Bool.not_false, Bool.and_true, cond_true]
     exact (use_adds r _ _ _ (by have := v.pos; omega)).id
   ·rw [scalar_zero hsc]
    have z4 : decide ((TDef.zero).FKind = 4) = false := by decide
    have z5 : decide ((TDef.zero).FKind = 5) = false := by decide
    rw [z4, z5]
    simp only [Bool.and_false, cond_false]
    cases h4 : decide (v.FKind = 4) && decide ((fnd d.FDefs.l t.FName).1.FKind = 4) <;> cases h6 : decide (v.FKind = 6) && decide ((fnd d.FDefs.l t.FName).1.FKind = 5) <;> simp [guardO] <;> exact Adds.nil r
  ·simp only [cond_true]
   rw [Z84_eq, inner_eq ht, Option.bind_some]
   cases hli : liW (barS t.FWraps).l
   ·exact Adds.nil r
   ·simp only [cond_true]
    have := list_loop (d := d) (v := v) (t := innerT t) (b := true) (Z99_n n) (fun x hx r hr hl => ih _ x hx (innerT_ok ht) r hr hl) (v.FItems.l.length + 1) 0 r (by omega) (by omega) hr (by rw [List.drop_zero]; omega)
    simpa using this
end Go.Proofs

namespace Go.Proofs
open Go Go.Ab
theorem vals_name (d : TDoc) {a b : TRef} (h : a.FName = b.FName) {v : TValue} (hv : decide (v.FKind = 5) = false) : ∀ n, vals d n a v = vals d n b v
 | 0 => rfl
 | n + 1 => by rw [vals, vals, h, hv]; rfl
def Is (o : Option (Sl TUse)) (L : List TUse) : Prop := ∃ nl, o = some ⟨nl, L⟩
theorem valU_len (d : TDoc) (t : TRef) (v : TValue) : (valU d t v).length ≤ v.sz := vals_len d _ t v
theorem q12_loop {d : TDoc} {x : TRef} (k : TDoc → TRef → TValue → Option (Sl TUse)) : ∀ (l : List TValue) (s : Sl TUse), (∀ y ∈ l, Is (k d x y) (valU d x y)) → s.l.length + (l.map TValue.sz).sum ≤ bigU →
  Is (Z69_q12 d (x, true) k l s) (s.l ++ l.flatMap (valU d x))
 | [], s, _, _ => ⟨s.nl, by rw [Z69_q12]; simp⟩
 | y :: r, s, h, hl => by
  obtain ⟨nl, e⟩ := h y (by simp)
  have h1 := valU_len d x y
  simp only [List.map_cons, List.sum_cons] at hl
  obtain ⟨nl2, e2⟩ := q12_loop k r ⟨s.nl && (valU d x y).isEmpty, s.l ++ valU d x y⟩ (fun z hz => h z (by simp [hz])) (by simp only [List.length_append]; omega)
  refine ⟨nl2, ?_⟩
  rw [Z69_q12]
  simp only [cond_true, Ab.on]
  rw [e, Option.bind_some, appU (by show s.l.length + (valU d x y).length ≤ bigU; omega), Option.bind_some, e2]
  simp
theorem q12_none {d : TDoc} {x : TRef} (k : TDoc → TRef → TValue → Option (Sl TUse)) (l : List TValue) (s : Sl TUse) : Z69_q12 d (x, false) k l s = some s := by
 cases l with
 | nil => rfl
 | cons y r => rw [Z69_q12]; rfl
theorem q41_none {d : TDoc} {v : TValue} {y : TDef} (k : TDoc → TRef → TValue → Option (Sl TUse)) (h : (decide (v.FKind = 6) && decide (y.FKind = 5)) = false) (l : List Bs) (i : Nat) (s : Sl TUse) : Z69_q41 d v y k l i s = some s := by
 cases l with
 | nil => rfl
 | cons a r =>
  rw [Z69_q41]
  have : ((decide (((i : Nat) : Int) < ((v.FItems.l.length : Nat) : Int)) && decide (v.FKind = 6)) && decide (y.FKind = 5)) = false := by rw [Bool.and_assoc, h, Bool.and_false]
  rw [this]; rfl
theorem q41_loop {d : TDoc} {v : TValue} {y : TDef} (k : TDoc → TRef → TValue → Option (Sl TUse)) (h6 : decide (v.FKind = 6) = true) (h5 : decide (y.FKind = 5) = true) (hy : ∀ i ∈ y.FInputs.l, SOk i.FType.FWraps)
  (hk : ∀ t : TRef, SOk t.FWraps → ∀ x ∈ v.FItems.l, Is (k d t x) (valU d t x)) : ∀ (l : List Bs) (i : Nat) (s : Sl TUse), s.l.length + ((v.FItems.l.drop i).map TValue.sz).sum ≤ bigU →
  Is (Z69_q41 d v y k l i s) (s.l ++ (l.zip (v.FItems.l.drop i)).flatMap fun p => bif (fndI y.FInputs.l p.1).2 then valU d (fndI y.FInputs.l p.1).1.FType p.2 else []) := by
 intro l
 induction l with
 | nil => intro i s _; exact ⟨s.nl, by rw [Z69_q41]; simp⟩
 | cons a r ih =>
  intro i s hl
  rw [Z69_q41]
  by_cases hi : i < v.FItems.l.length
  ·have hdrop := List.drop_eq_getElem_cons hi
   rw [hdrop] at hl ⊢
   simp only [List.map_cons, List.sum_cons] at hl
   rw [decide_eq_true (by omega), h6, h5]
   simp only [Bool.and_self, cond_true, Ab.on, r10_inputOf_eq]
   rw [List.zip_cons_cons, List.flatMap_cons]
   cases hf : (fndI y.FInputs.l a).2
   ·rw [cond_false, cond_false, Option.bind_some, List.nil_append]
    exact ih (i + 1) s (by omega)
   ·rw [cond_true, cond_true, List.getElem?_eq_getElem hi, Option.bind_some]
    obtain ⟨nl, e⟩ := hk (fndI y.FInputs.l a).1.FType (inputOk hy a) _ (List.getElem_mem hi)
    have h1 := valU_len d (fndI y.FInputs.l a).1.FType v.FItems.l[i]
    rw [e, Option.bind_some, appU (by show s.l.length + (valU d (fndI y.FInputs.l a).1.FType v.FItems.l[i]).length ≤ bigU; omega), Option.bind_some, Option.bind_some]
    obtain ⟨nl2, e2⟩ := ih (i + 1) ⟨s.nl && (valU d (fndI y.FInputs.l a).1.FType v.FItems.l[i]).isEmpty, s.l ++ valU d (fndI y.FInputs.l a).1.FType v.FItems.l[i]⟩ (by simp only [List.length_append]; omega)
    exact ⟨nl2, by rw [e2]; simp⟩
  ·rw [decide_eq_false (by omega), Bool.false_and, Bool.false_and, cond_false, List.drop_of_length_le (by omega)]
   exact ⟨s.nl, by simp⟩
theorem sz_step {x v w n M : Nat} (hM : 0 < M) (hx : x < v) (hw : w ≤ M) (h : v * (2 * M) + w < n + 1) : ∀ w', w' ≤ M → x * (2 * M) + w' < n := by
 intro w' hw'
 have : (x + 1) * (2 * M) ≤ v * (2 * M) := Nat.mul_le_mul_right _ hx
 rw [Nat.succ_mul] at this
 omega
theorem values_is {d : TDoc} (hd : DefsOk d) (M : Nat) (hM : M = 1048576) : ∀ (n : Nat) (v : TValue) (t : TRef), v.sz * (2 * M) + t.FWraps.l.length < n → v.sz ≤ M → t.FWraps.l.length ≤ M → Is (Z69_qn n d t v) (valU d t v)
 | 0, _, _, h, _, _ => by omega
 | n + 1, v, t, hn, hb, ht => by
  have hMb : M ≤ bigU := by rw [hM]; decide
  have hv := v.sz_def
  have hs : (v.FItems.l.map TValue.sz).sum + 1 = Sl.sz TValue.sz v.FItems := by unfold Sl.sz; omega
  obtain ⟨x, ei, hx⟩ := r05_inner_eq (t := t) (by omega)
  rw [Z69_qn, ei, Option.bind_some]
  have hV : valU d t v = vals d (v.sz - 1 + 1) t v := (vals_eq d t v (by have := v.pos; omega)).symm
  have hitems : ∀ t : TRef, v.FItems.l.flatMap (vals d (v.sz - 1) t) = v.FItems.l.flatMap (valU d t) := fun t => flatMap_eq' fun x hx => vals_eq d t x (by have := item_lt hx; omega)
  have hpairs : (v.FKeys.l.zip v.FItems.l).flatMap (fun p => bif (fndI (inDef d t.FName).FInputs.l p.1).2 then vals d (v.sz - 1) (fndI (inDef d t.FName).FInputs.l p.1).1.FType p.2 else []) =
    (v.FKeys.l.zip v.FItems.l).flatMap (fun p => bif (fndI (inDef d t.FName).FInputs.l p.1).2 then valU d (fndI (inDef d t.FName).FInputs.l p.1).1.FType p.2 else []) := flatMap_eq' fun p hp => by
   have := item_lt (zip_mem hp)
   rw [vals_eq d _ p.2 (by omega)]
  have ih : ∀ t : TRef, t.FWraps.l.length ≤ M → ∀ y ∈ v.FItems.l, Is (Z69_qn n d t y) (valU d t y) := fun t ht y hy => by
   have h1 := item_lt hy
   exact values_is hd M hM n y t (sz_step (by omega) h1 (by omega) hn _ ht) (by omega) ht
  cases h5 : decide (v.FKind = 5)
  ·simp only [cond_false]
   cases hli : liW (barS t.FWraps).l
   ·simp only [cond_false, Ab.on, r10_find_eq]
    have hdef : (bif Z53_q t.FName then (TDef.mk (0 : Int) ([] : Bs) (Sl.nil : Sl Bs) (Sl.nil : Sl TDir) (Sl.nil : Sl TField) (Sl.nil : Sl TMember) (Sl.nil : Sl TInput)) else (fnd d.FDefs.l t.FName).1) = inDef d t.FName := rfl
    rw [hdef, hV, vals, h5, cond_false]
    cases h4 : decide (v.FKind = 4) && decide ((inDef d t.FName).FKind = 4)
    ·rw [cond_false, cond_false]
     cases h6 : decide (v.FKind = 6) && decide ((inDef d t.FName).FKind = 5)
     ·rw [cond_false, q41_none _ h6]; exact ⟨true, rfl⟩
     ·rw [Bool.and_eq_true] at h6
      rw [cond_true, hpairs]
      have hin : ∀ i ∈ (inDef d t.FName).FInputs.l, SOk i.FType.FWraps := by
       unfold inDef
       cases Z75_q t.FName
       ·exact (find_ok hd t.FName).2.2.2
       ·intro i hi; cases hi
      obtain ⟨nl, e⟩ := q41_loop (d := d) (Z69_qn n) h6.1 h6.2 hin (fun t' ht' y hy => ih t' (by have := ht'.2; omega) y hy) v.FKeys.l 0 Sl.nil (by rw [List.drop_zero]; simp only [Sl.nil, List.length_nil]; omega)
      rw [List.drop_zero] at e
      exact ⟨nl, by rw [e]; rfl⟩
    ·rw [cond_true, cond_true]; exact ⟨false, rfl⟩
   ·simp only [cond_true]
    have hx' := hx hli
    have hlt := inner_lt hli
    have hxl : x.FWraps.l.length < t.FWraps.l.length := by rw [← hx'.2]; exact hlt
    obtain ⟨nl, e⟩ := values_is hd M hM n v x (by omega) hb (by omega)
    have hn2 : valU d x v = valU d t v := vals_name d (by rw [← hx'.1]; rfl) h5 _
    exact ⟨nl, by rw [e, hn2]; rfl⟩
  ·simp only [cond_true]
   rw [hV, vals, h5, cond_true, hitems]
   cases hli : liW (barS t.FWraps).l
   ·rw [q12_none]; exact ⟨true, rfl⟩
   ·have hx' := hx hli
    have hlt := inner_lt hli
    have hxl : x.FWraps.l.length < t.FWraps.l.length := by rw [← hx'.2]; exact hlt
    obtain ⟨nl, e⟩ := q12_loop (d := d) (x := x) (Z69_qn n) v.FItems.l Sl.nil (fun y hy => ih x (by omega) y hy) (by simp only [Sl.nil, List.length_nil]; omega)
    refine ⟨nl, ?_⟩
    rw [e]
    simp only [Option.bind_some, Ab.on, Sl.nil, List.nil_append, cond_true]
    rw [flatMap_eq' (f := valU d x) (g := valU d (innerT t)) fun y _ => (vals_ref d hx' _ y).symm]
end Go.Proofs

namespace Go.Proofs
open Go Go.Ab
noncomputable def argsU (d : TDoc) (on_ name : Bs) (defs : List TInput) (l : List TArg) : List TUse :=
 l.flatMap fun a => bif (fndI defs a.FName).2 then useU on_ name a.FName :: valU d (fndI defs a.FName).1.FType a.FValue else []
noncomputable def fieldU (d : TDoc) (on_ : Bs) (s : TSel) : List TUse := useU on_ s.FName [] :: argsU d on_ s.FName (fndF (fnd d.FDefs.l on_).1.FFields.l s.FName).1.FArgs.l s.FArgs.l
noncomputable def selsU (d : TDoc) : Nat → Bs → List TSel → List TUse
 | 0, _, _ => []
 | n + 1, on_, l => l.flatMap fun s =>
  bif decide (s.FKind = 2) then []
  else bif decide (s.FKind = 3) then
   (bif !(s.FOn == []) && Z70_q d s.FOn then [useU s.FOn [] []] else []) ++ selsU d n (bif !(s.FOn == []) then s.FOn else on_) s.FSels.l
  else bif (typeX d on_ s.FName).2 then fieldU d on_ s ++ selsU d n (typeX d on_ s.FName).1.FName s.FSels.l
  else selsU d n [] s.FSels.l
theorem selsU_cons (d : TDoc) (n : Nat) (on_ : Bs) (s : TSel) (l : List TSel) : selsU d (n + 1) on_ (s :: l) =
  (bif decide (s.FKind = 2) then []
  else bif decide (s.FKind = 3) then
   (bif !(s.FOn == []) && Z70_q d s.FOn then [useU s.FOn [] []] else []) ++ selsU d n (bif !(s.FOn == []) then s.FOn else on_) s.FSels.l
  else bif (typeX d on_ s.FName).2 then fieldU d on_ s ++ selsU d n (typeX d on_ s.FName).1.FName s.FSels.l
  else selsU d n [] s.FSels.l) ++ selsU d (n + 1) on_ l := by
 rw [selsU, selsU]; exact List.flatMap_cons
theorem argsU_len (d : TDoc) (a b : Bs) (defs : List TInput) (l : List TArg) : (argsU d a b defs l).length ≤ (l.map TArg.sz).sum := by
 refine flatMap_le' fun x _ => ?_
 have h1 := x.sz_def; have h2 := Bs.sz_pos x.FName
 cases (fndI defs x.FName).2
 ·simp
 ·have := valU_len d (fndI defs x.FName).1.FType x.FValue
  simp only [cond_true, List.length_cons]; omega
theorem sel_parts (s : TSel) : (s.FArgs.l.map TArg.sz).sum + (s.FSels.l.map TSel.sz).sum + 4 ≤ s.sz := by
 have h := s.sz_def; have h1 := Bs.sz_pos s.FAlias; have h2 := Bs.sz_pos s.FName
 have h3 : (s.FArgs.l.map TArg.sz).sum + 1 = Sl.sz TArg.sz s.FArgs := by unfold Sl.sz; omega
 have h4 : (s.FSels.l.map TSel.sz).sum + 1 = Sl.sz TSel.sz s.FSels := by unfold Sl.sz; omega
 omega
theorem fieldU_len (d : TDoc) (a : Bs) (s : TSel) : (fieldU d a s).length ≤ (s.FArgs.l.map TArg.sz).sum + 1 := by
 have := argsU_len d a s.FName (fndF (fnd d.FDefs.l a).1.FFields.l s.FName).1.FArgs.l s.FArgs.l
 unfold fieldU; simp only [List.length_cons]; omega
theorem selsU_len (d : TDoc) : ∀ (n : Nat) (on_ : Bs) (l : List TSel), (selsU d n on_ l).length ≤ (l.map TSel.sz).sum
 | 0, _, _ => by simp [selsU]
 | n + 1, on_, l => by
  rw [selsU]
  refine flatMap_le' fun s _ => ?_
  have h := sel_parts s
  cases decide (s.FKind = 2)
  ·cases decide (s.FKind = 3)
   ·cases (typeX d on_ s.FName).2
    ·have := selsU_len d n [] s.FSels.l
     simp only [cond_false]; omega
    ·have := selsU_len d n (typeX d on_ s.FName).1.FName s.FSels.l
     have := fieldU_len d on_ s
     simp only [cond_false, cond_true, List.length_append]; omega
   ·have := selsU_len d n (bif !(s.FOn == []) then s.FOn else on_) s.FSels.l
    simp only [cond_false, cond_true, List.length_append]
    cases !(s.FOn == []) && Z70_q d s.FOn <;> simp only [cond_true, cond_false, List.length_nil, List.length_cons] <;> omega
  ·simp

theorem value_top {d : TDoc} (hd : DefsOk d) {v : TValue} {t : TRef} {r : Usage_recorder} (hb : v.sz ≤ 1048576) (ht : SOk t.FWraps) (hr : r.Fd = d) (hl : r.Fout.l.length + v.sz ≤ bigU) : Adds (Z99 r v t) r (valU d t v) :=
 value_adds hd F0 v t r (Nat.le_trans hb (by rw [F0_eq]; decide)) hb ht hr hl
theorem cond_adds {d : TDoc} {r : Usage_recorder} (hr : r.Fd = d) (a : Bs) (h : r.Fout.l.length + 1 ≤ bigU) : Adds (Z95_q r a) r (bif Z70_q d a then [useU a [] []] else []) := by
 unfold Z95_q
 simp only [Ab.on, hr]
 cases Z70_q d a
 ·exact Adds.nil r
 ·simp only [cond_true]; rw [← Z98_eq]; exact (use_adds r _ _ _ h).id
theorem args_adds {d : TDoc} (hd : DefsOk d) (s : TSel) (a : Bs) (x : TField × Bool) (hx : ∀ i ∈ x.1.FArgs.l, SOk i.FType.FWraps) : ∀ (l : List TArg) (r : Usage_recorder), (∀ y ∈ l, y.sz ≤ 1048576) → r.Fd = d → r.Fout.l.length + (l.map TArg.sz).sum ≤ bigU →
  Adds (Z96_q19 s a x l r) r (argsU d a s.FName x.1.FArgs.l l)
 | [], r, _, _, _ => by rw [Z96_q19]; exact Adds.nil r
 | y :: l, r, hy, hr, hl => by
  simp only [List.map_cons, List.sum_cons] at hl
  have h1 := y.sz_def; have h2 := Bs.sz_pos y.FName
  have h3 := hy y (by simp)
  rw [Z96_q19]
  simp only [Ab.on, inputOf_eq]
  show Adds _ r ((bif (fndI x.1.FArgs.l y.FName).2 then useU a s.FName y.FName :: valU d (fndI x.1.FArgs.l y.FName).1.FType y.FValue else []) ++ argsU d a s.FName x.1.FArgs.l l)
  have hV := valU_len d (fndI x.1.FArgs.l y.FName).1.FType y.FValue
  cases hf : (fndI x.1.FArgs.l y.FName).2
  ·rw [cond_false, cond_false, Option.bind_some, List.nil_append]
   exact args_adds hd s a x hx l r (fun z hz => hy z (by simp [hz])) hr (by omega)
  ·rw [cond_true, cond_true]
   refine Adds.bind (L := useU a s.FName y.FName :: valU d (fndI x.1.FArgs.l y.FName).1.FType y.FValue) ?_ fun nl => args_adds hd s a x hx l _ (fun z hz => hy z (by simp [hz])) hr (by simp only [List.length_append, List.length_cons]; omega)
   rw [← Z98_eq]
   show Adds _ r ([useU a s.FName y.FName] ++ valU d (fndI x.1.FArgs.l y.FName).1.FType y.FValue)
   refine Adds.bind (use_adds r _ _ _ (by omega)) fun nl => ?_
   have hvs : y.FValue.sz ≤ 1048576 := by omega
   have hll : (r.Fout.l ++ [useU a s.FName y.FName]).length + y.FValue.sz ≤ bigU := by rw [List.length_append, List.length_singleton]; omega
   have hv := value_top (r := ⟨r.Fd, r.Fq, ⟨nl, r.Fout.l ++ [useU a s.FName y.FName]⟩⟩) hd hvs (inputOk hx y.FName) hr hll
   exact hv.id
def AddsN (o : Option (Bs × Usage_recorder)) (r : Usage_recorder) (name : Bs) (L : List TUse) : Prop := ∃ nl, o = some (name, ⟨r.Fd, r.Fq, ⟨nl, r.Fout.l ++ L⟩⟩) ∧ (nl = true → r.Fout.nl = true ∧ L = [])
theorem field_adds {d : TDoc} (hd : DefsOk d) {s : TSel} {a : Bs} {r : Usage_recorder} (hs : s.sz ≤ 1048576) (hr : r.Fd = d) (hl : r.Fout.l.length + s.sz ≤ bigU) :
  AddsN (Z96_q r s a) r (bif (typeX d a s.FName).2 then (typeX d a s.FName).1.FName else []) (bif (typeX d a s.FName).2 then fieldU d a s else []) := by
 have hp := sel_parts s
 unfold Z96_q
 rw [hr, type_eq hd, Option.bind_some]
 cases ht : (typeX d a s.FName).2
 ·exact ⟨r.Fout.nl, by simp only [Bool.not_false, cond_true, cond_false, List.append_nil], fun h => ⟨h, rfl⟩⟩
 ·simp only [Bool.not_true, cond_false, cond_true]
  rw [← Z98_eq]
  obtain ⟨nl, e, g⟩ := use_adds r a s.FName [] (by omega)
  rw [e, Option.bind_some]
  simp only [Ab.on, hr, find_eq, fieldOf_eq]
  obtain ⟨nl2, e2, g2⟩ := args_adds hd s a (fndF (fnd d.FDefs.l a).1.FFields.l s.FName) (fieldOk (find_ok hd a).2.2.1 s.FName).2.2 s.FArgs.l ⟨d, r.Fq, ⟨nl, r.Fout.l ++ [useU a s.FName []]⟩⟩
   (fun y hy => by
    have h5 : (s.FArgs.l.map TArg.sz).sum + 1 = Sl.sz TArg.sz s.FArgs := by unfold Sl.sz; omega
    have := Sl.mem_le (f := TArg.sz) hy; omega) rfl (by simp only [List.length_append, List.length_cons, List.length_nil]; omega)
  rw [e2]
  exact ⟨nl2, by simp [fieldU, hr], fun h => by have := g (g2 h).1; cases this.2⟩
theorem sels_loop {d : TDoc} (hd : DefsOk d) (n : Nat) (on_ : Bs) (ih : ∀ (l : Sl TSel) (o : Bs) (r : Usage_recorder), (l.l.map TSel.sz).sum < n → (l.l.map TSel.sz).sum ≤ 1048576 → r.Fd = d → r.Fout.l.length + (l.l.map TSel.sz).sum ≤ bigU → Adds (Z97_qn n r l o) r (selsU d n o l.l)) :
  ∀ (l : List TSel) (r : Usage_recorder), (∀ s ∈ l, s.sz ≤ n) → (∀ s ∈ l, s.sz ≤ 1048576) → r.Fd = d → r.Fout.l.length + (l.map TSel.sz).sum ≤ bigU → Adds (Z97_q3 on_ (Z97_qn n) l r) r (selsU d (n + 1) on_ l)
 | [], r, _, _, _, _ => by rw [Z97_q3, selsU]; exact Adds.nil r
 | s :: l, r, hn, hb, hr, hl => by
  simp only [List.map_cons, List.sum_cons] at hl
  have hp := sel_parts s
  have hsn := hn s (by simp); have hsb := hb s (by simp)
  have hrest : ∀ r' : Usage_recorder, r'.Fd = d → r'.Fout.l.length + (l.map TSel.sz).sum ≤ bigU → Adds (Z97_q3 on_ (Z97_qn n) l r') r' (selsU d (n + 1) on_ l) := fun r' hr' hl' =>
   sels_loop hd n on_ ih l r' (fun z hz => hn z (by simp [hz])) (fun z hz => hb z (by simp [hz])) hr' hl'
  rw [Z97_q3, selsU_cons]
  simp only [Ab.on]
  cases decide (s.FKind = 2)
  ·rw [cond_false, cond_false]
   cases decide (s.FKind = 3)
   ·rw [cond_false, cond_false]
    obtain ⟨nl, e, g⟩ := field_adds hd (a := on_) hsb hr (by omega)
    have hfl := fieldU_len d on_ s
    rw [e, Option.bind_some]
    cases ht : (typeX d on_ s.FName).2
    ·simp only [cond_false, List.append_nil]
     have h1 := selsU_len d n [] s.FSels.l
     refine Adds.bind (r := r) (L := selsU d n [] s.FSels.l) ?_ fun nl2 => hrest _ hr (by simp only [List.length_append]; omega)
     obtain ⟨nl3, e3, g3⟩ := ih s.FSels [] ⟨r.Fd, r.Fq, ⟨nl, r.Fout.l⟩⟩ (by omega) (by omega) hr (by simp only; omega)
     exact ⟨nl3, by rw [e3]; simp, fun h => ⟨(g (g3 h).1).1, (g3 h).2⟩⟩
    ·simp only [cond_true]
     have h1 := selsU_len d n (typeX d on_ s.FName).1.FName s.FSels.l
     refine Adds.bind (r := r) (L := fieldU d on_ s ++ selsU d n (typeX d on_ s.FName).1.FName s.FSels.l) ?_ fun nl2 => hrest _ hr (by simp only [List.length_append]; omega)
     obtain ⟨nl3, e3, g3⟩ := ih s.FSels (typeX d on_ s.FName).1.FName ⟨r.Fd, r.Fq, ⟨nl, r.Fout.l ++ fieldU d on_ s⟩⟩ (by omega) (by omega) hr (by simp only [List.length_append]; omega)
     rw [ht] at g
     exact ⟨nl3, by rw [e3]; simp, fun h => by obtain ⟨a1, a2⟩ := g3 h; obtain ⟨a3, a4⟩ := g a1; exact ⟨a3, by rw [a2, List.append_nil]; exact a4⟩⟩
   ·rw [cond_true, cond_true]
    have h1 := selsU_len d n (bif !(s.FOn == []) then s.FOn else on_) s.FSels.l
    refine Adds.bind (r := r) (L := (bif !(s.FOn == []) && Z70_q d s.FOn then [useU s.FOn [] []] else []) ++ selsU d n (bif !(s.FOn == []) then s.FOn else on_) s.FSels.l) ?_ fun nl2 => hrest _ hr (by
     simp only [List.length_append]
     cases !(s.FOn == []) && Z70_q d s.FOn <;> simp only [cond_true, cond_false, List.length_nil, List.length_cons] <;> omega)
    cases ho : !(s.FOn == [])
    ·rw [ho] at h1
     simp only [cond_false, Bool.false_and, List.nil_append, Option.bind_some] at h1 ⊢
     exact (ih s.FSels on_ r (by omega) (by omega) hr (by omega)).id
    ·rw [ho] at h1
     simp only [cond_true, Bool.true_and] at h1 ⊢
     obtain ⟨nl, e, g⟩ := cond_adds hr s.FOn (by omega)
     rw [e]
     simp only [Option.bind_some]
     have hcl : (bif Z70_q d s.FOn then [useU s.FOn [] []] else []).length ≤ 1 := by cases Z70_q d s.FOn <;> simp
     obtain ⟨nl3, e3, g3⟩ := ih s.FSels s.FOn ⟨r.Fd, r.Fq, ⟨nl, r.Fout.l ++ bif Z70_q d s.FOn then [useU s.FOn [] []] else []⟩⟩ (by omega) (by omega) hr (by simp only [List.length_append]; omega)
     exact ⟨nl3, by rw [e3]; simp, fun h => by obtain ⟨a1, a2⟩ := g3 h; obtain ⟨a3, a4⟩ := g a1; exact ⟨a3, by rw [a2, List.append_nil]; exact a4⟩⟩
  ·rw [cond_true, cond_true, Option.bind_some, List.nil_append]
   exact hrest r hr (by omega)
theorem sels_adds {d : TDoc} (hd : DefsOk d) : ∀ (n : Nat) (l : Sl TSel) (o : Bs) (r : Usage_recorder), (l.l.map TSel.sz).sum < n → (l.l.map TSel.sz).sum ≤ 1048576 → r.Fd = d → r.Fout.l.length + (l.l.map TSel.sz).sum ≤ bigU → Adds (Z97_qn n r l o) r (selsU d n o l.l)
 | 0, _, _, _, h, _, _, _ => by omega
 | n + 1, l, o, r, hn, hb, hr, hl => by
  rw [Z97_qn]
  exact (sels_loop hd n o (sels_adds hd n) l.l r (fun s hs => by have := sum_mem (f := TSel.sz) hs; omega) (fun s hs => by have := sum_mem (f := TSel.sz) hs; omega) hr hl).id
end Go.Proofs

namespace Go.Proofs
open Go Go.Ab
def kn (d : TDoc) (a : Bs) : Bs := bif Z70_q d a then a else []
theorem known_eq (d : TDoc) (a : Bs) : Z65_q d a = kn d a := by unfold Z65_q kn; simp only [Ab.on, r10_composite_eq]
theorem kn_t {d : TDoc} {a : Bs} (h : Z70_q d a = true) : kn d a = a := by unfold kn; rw [h]; rfl
theorem kn_f {d : TDoc} {a : Bs} (h : Z70_q d a = false) : kn d a = [] := by unfold kn; rw [h]; rfl
theorem kn_nil (d : TDoc) : kn d [] = [] := by unfold kn; cases Z70_q d [] <;> rfl
theorem typeX_none {d : TDoc} {a f : Bs} (h : Z70_q d a = false) : typeX d a f = (⟨[], Sl.nil⟩, false) := by unfold typeX; rw [h]; rfl
theorem typeX_kn {d : TDoc} (h0 : Z70_q d [] = false) (a f : Bs) : typeX d (kn d a) f = typeX d a f := by
 cases h : Z70_q d a
 ·rw [kn_f h, typeX_none h0, typeX_none h]
 ·rw [kn_t h]
theorem typeX_comp {d : TDoc} {a f : Bs} (h : (typeX d a f).2 = true) : Z70_q d a = true := by
 cases hc : Z70_q d a
 ·rw [typeX_none hc] at h; cases h
 ·rfl
theorem r14_is (d : TDoc) (a f : Bs) : ∃ x, Z59_q d a f = some (x, (typeX d a f).2) ∧ ((typeX d a f).2 = true → x.FName = (typeX d a f).1.FName) := by
 unfold Z59_q typeX
 simp only [Ab.on, r10_composite_eq, r10_find_eq, r10_fieldOf_eq]
 have hs : Z25_q (Z24_q [83, 116, 114, 105, 110, 103]) = some ⟨[83, 116, 114, 105, 110, 103], ⟨false, [1]⟩⟩ := by kernel_rfl
 rw [hs]
 cases Z70_q d a with
 | false => exact ⟨_, rfl, fun h => by cases h⟩
 | true =>
  simp only [Bool.not_true, cond_false]
  show ∃ x, (bif f == sTypename then _ else _) = some (x, (bif f == sTypename then _ else _ : TRef × Bool).2) ∧ _
  cases f == sTypename with
  | true => exact ⟨_, rfl, fun _ => rfl⟩
  | false =>
   simp only [cond_false]
   cases h : (fndF (fnd d.FDefs.l a).1.FFields.l f).2 with
   | false => exact ⟨_, rfl, fun h => by cases h⟩
   | true => exact ⟨_, rfl, fun _ => rfl⟩
theorem values_top {d : TDoc} (hd : DefsOk d) {v : TValue} {t : TRef} (hb : v.sz ≤ 1048576) (ht : SOk t.FWraps) : Is (Z69_q d t v) (valU d t v) := by
 have h2 := ht.2
 exact values_is hd 1048576 rfl F0 v t (by rw [F0_eq]; omega) hb (by omega)
theorem rargs_is {d : TDoc} (hd : DefsOk d) (s : TSel) (a : Bs) (x : TField × Bool) (hx : ∀ i ∈ x.1.FArgs.l, SOk i.FType.FWraps) : ∀ (l : List TArg) (o : Sl TUse), (∀ y ∈ l, y.sz ≤ 1048576) → o.l.length + (l.map TArg.sz).sum ≤ bigU →
  Is (Z63_q12 d s a x l o) (o.l ++ argsU d a s.FName x.1.FArgs.l l)
 | [], o, _, _ => ⟨o.nl, by rw [Z63_q12]; simp [argsU]⟩
 | y :: l, o, hy, hl => by
  simp only [List.map_cons, List.sum_cons] at hl
  have h1 := y.sz_def; have h2 := Bs.sz_pos y.FName
  have h3 := hy y (by simp)
  have hc : argsU d a s.FName x.1.FArgs.l (y :: l) = (bif (fndI x.1.FArgs.l y.FName).2 then useU a s.FName y.FName :: valU d (fndI x.1.FArgs.l y.FName).1.FType y.FValue else []) ++ argsU d a s.FName x.1.FArgs.l l := rfl
  rw [Z63_q12, hc]
  simp only [Ab.on, r10_inputOf_eq]
  have hV := valU_len d (fndI x.1.FArgs.l y.FName).1.FType y.FValue
  cases hf : (fndI x.1.FArgs.l y.FName).2
  ·rw [cond_false, cond_false, Option.bind_some, List.nil_append]
   exact rargs_is hd s a x hx l o (fun z hz => hy z (by simp [hz])) (by omega)
  ·rw [cond_true, cond_true]
   obtain ⟨nl, e⟩ := values_top hd (v := y.FValue) (t := (fndI x.1.FArgs.l y.FName).1.FType) (by omega) (inputOk hx y.FName)
   have h7 : o.l.length + 1 ≤ bigU := by omega
   have h8 : (o.l ++ [Z68_q a s.FName y.FName]).length + (valU d (fndI x.1.FArgs.l y.FName).1.FType y.FValue).length ≤ bigU := by rw [List.length_append, List.length_singleton]; omega
   rw [appU h7, Option.bind_some, e, Option.bind_some, appU h8, Option.bind_some, Option.bind_some]
   obtain ⟨nl2, e2⟩ := rargs_is hd s a x hx l ⟨(o.nl && List.isEmpty [Z68_q a s.FName y.FName]) && (valU d (fndI x.1.FArgs.l y.FName).1.FType y.FValue).isEmpty, (o.l ++ [Z68_q a s.FName y.FName]) ++ valU d (fndI x.1.FArgs.l y.FName).1.FType y.FValue⟩ (fun z hz => hy z (by simp [hz])) (by simp only [List.length_append, List.length_singleton]; omega)
   refine ⟨nl2, ?_⟩
   rw [e2]
   have : Z68_q a s.FName y.FName = useU a s.FName y.FName := rfl
   rw [this]
   simp only [List.append_assoc, List.cons_append, List.nil_append]
theorem rfield_is {d : TDoc} (hd : DefsOk d) {s : TSel} {a : Bs} (hs : s.sz ≤ 1048576) : Is (Z63_q d s a) (fieldU d a s) := by
 have hp := sel_parts s
 have hb : 1048577 ≤ bigU := by decide
 unfold Z63_q
 simp only [Ab.on, r10_find_eq, r10_fieldOf_eq]
 obtain ⟨nl2, e2⟩ := rargs_is hd s a (fndF (fnd d.FDefs.l a).1.FFields.l s.FName) (fieldOk (find_ok hd a).2.2.1 s.FName).2.2 s.FArgs.l ⟨false, [Z68_q a s.FName []]⟩
  (fun y hy => by
   have h5 : (s.FArgs.l.map TArg.sz).sum + 1 = Sl.sz TArg.sz s.FArgs := by unfold Sl.sz; omega
   have := Sl.mem_le (f := TArg.sz) hy; omega) (by simp only [List.length_singleton]; omega)
 rw [e2]
 exact ⟨nl2, rfl⟩
theorem rsels_loop {d : TDoc} (hd : DefsOk d) (h0 : Z70_q d [] = false) (n : Nat) (on_ : Bs) (ih : ∀ (l : Sl TSel) (o : Bs), (l.l.map TSel.sz).sum < n → (l.l.map TSel.sz).sum ≤ 1048576 → Is (Z67_qn n d l (kn d o)) (selsU d n o l.l)) :
  ∀ (l : List TSel) (o : Sl TUse), (∀ s ∈ l, s.sz ≤ n) → (∀ s ∈ l, s.sz ≤ 1048576) → o.l.length + (l.map TSel.sz).sum ≤ bigU → Is (Z67_q7 d (kn d on_) (Z67_qn n) l o) (o.l ++ selsU d (n + 1) on_ l)
 | [], o, _, _, _ => ⟨o.nl, by rw [Z67_q7, selsU]; simp⟩
 | s :: l, o, hn, hb, hl => by
  simp only [List.map_cons, List.sum_cons] at hl
  have hp := sel_parts s
  have hsn := hn s (by simp); have hsb := hb s (by simp)
  have hsz : s.sz ≤ bigU := Nat.le_trans hsb (by decide)
  have hrest : ∀ r' : Sl TUse, r'.l.length + (l.map TSel.sz).sum ≤ bigU → Is (Z67_q7 d (kn d on_) (Z67_qn n) l r') (r'.l ++ selsU d (n + 1) on_ l) := fun r' hl' =>
   rsels_loop hd h0 n on_ ih l r' (fun z hz => hn z (by simp [hz])) (fun z hz => hb z (by simp [hz])) hl'
  rw [Z67_q7, selsU_cons]
  simp only [Ab.on]
  -- what follows the uses of the selection itself
  have tail : ∀ (o2 : Sl TUse) (P : List TUse) (t : Bs), o2.l = o.l ++ P → P.length + (s.FSels.l.map TSel.sz).sum ≤ s.sz →
    Is (Option.bind ((Z67_qn n d s.FSels (kn d t)).bind fun x22 => (appC 56 o2 x22).bind fun x23 => some x23) fun s7_15 => Z67_q7 d (kn d on_) (Z67_qn n) l s7_15) (o.l ++ ((P ++ selsU d n t s.FSels.l) ++ selsU d (n + 1) on_ l)) := fun o2 P t ho hP => by
   obtain ⟨nl, e⟩ := ih s.FSels t (by omega) (by omega)
   have h1 := selsU_len d n t s.FSels.l
   have h2 : o2.l.length = o.l.length + P.length := by rw [ho, List.length_append]
   have h3 : o2.l.length + (selsU d n t s.FSels.l).length ≤ bigU := by omega
   rw [e, Option.bind_some, appU h3, Option.bind_some, Option.bind_some]
   obtain ⟨nl2, e2⟩ := hrest ⟨o2.nl && (selsU d n t s.FSels.l).isEmpty, o2.l ++ selsU d n t s.FSels.l⟩ (by rw [List.length_append]; omega)
   exact ⟨nl2, by rw [e2]; simp only [ho, List.append_assoc]⟩
  cases decide (s.FKind = 2)
  ·rw [cond_false, cond_false]
   cases decide (s.FKind = 3)
   ·rw [cond_false, cond_false]
    obtain ⟨x, e, hx⟩ := r14_is d (kn d on_) s.FName
    rw [typeX_kn h0] at e hx
    rw [e, Option.bind_some]
    cases ht : (typeX d on_ s.FName).2
    ·rw [cond_false, cond_false, Option.bind_some]
     have := tail o [] [] (by simp) (by simp only [List.length_nil]; omega)
     rw [kn_nil] at this
     simpa only [List.nil_append] using this
    ·rw [cond_true, cond_true]
     have hcm := typeX_comp ht
     obtain ⟨nl, e3⟩ := rfield_is hd (s := s) (a := kn d on_) hsb
     rw [kn_t hcm] at e3 ⊢
     have hfl := fieldU_len d on_ s
     have h4 : o.l.length + (fieldU d on_ s).length ≤ bigU := by omega
     rw [e3, Option.bind_some, appU h4, Option.bind_some, known_eq, hx ht, Option.bind_some]
     have := tail ⟨o.nl && (fieldU d on_ s).isEmpty, o.l ++ fieldU d on_ s⟩ (fieldU d on_ s) (typeX d on_ s.FName).1.FName rfl (by omega)
     rw [kn_t hcm] at this
     exact this
   ·rw [cond_true, cond_true]
    cases ho : !(s.FOn == [])
    ·simp only [cond_false, Bool.false_and, Option.bind_some]
     exact tail o [] on_ (by simp) (by simp only [List.length_nil]; omega)
    ·simp only [cond_true, Bool.true_and, known_eq]
     cases hcm : Z70_q d s.FOn
     ·have hk := kn_f hcm
      have hb0 : (!(kn d s.FOn == ([] : Bs))) = false := by rw [hk]; rfl
      rw [hb0]
      simp only [cond_false, Option.bind_some]
      exact tail o [] s.FOn (by simp) (by simp only [List.length_nil]; omega)
     ·have hk := kn_t hcm
      have hb0 : (!(kn d s.FOn == ([] : Bs))) = true := by rw [hk]; exact ho
      rw [hb0]
      simp only [cond_true]
      have h4 : o.l.length + 1 ≤ bigU := by omega
      rw [appU h4, Option.bind_some, Option.bind_some]
      have := tail ⟨o.nl && List.isEmpty [Z68_q (kn d s.FOn) [] []], o.l ++ [Z68_q (kn d s.FOn) [] []]⟩ [useU s.FOn [] []] s.FOn (by rw [hk]; rfl) (by simp only [List.length_singleton]; omega)
      exact this
  ·rw [cond_true, cond_true, Option.bind_some, List.nil_append]
   exact hrest o (by omega)
theorem rsels_is {d : TDoc} (hd : DefsOk d) (h0 : Z70_q d [] = false) : ∀ (n : Nat) (l : Sl TSel) (o : Bs), (l.l.map TSel.sz).sum < n → (l.l.map TSel.sz).sum ≤ 1048576 → Is (Z67_qn n d l (kn d o)) (selsU d n o l.l)
 | 0, _, _, h, _ => by omega
 | n + 1, l, o, hn, hb => by
  have hB : 1048576 ≤ bigU := by decide
  rw [Z67_qn]
  obtain ⟨nl, e⟩ := rsels_loop hd h0 n o (rsels_is hd h0 n) l.l Sl.nil (fun s hs => by have := sum_mem (f := TSel.sz) hs; omega) (fun s hs => by have := sum_mem (f := TSel.sz) hs; omega) (by simp only [Sl.nil, List.length_nil]; omega)
  exact ⟨nl, by rw [e]; rfl⟩
end Go.Proofs



namespace Go.Proofs
open Go Go.Ab
attribute [local instance] Classical.propDecidable
abbrev wr (n : Int) : Int := IntKind.wrap .i64 n
theorem wr_eq (n : Int) : wr n = (n + 9223372036854775808) % 18446744073709551616 - 9223372036854775808 := by
 unfold wr
 simp [IntKind.wrap, IntKind.bits, IntKind.signed]
 split <;> omega
theorem wr_add (a b : Int) : wr (wr a + b) = wr (a + b) := by rw [wr_eq, wr_eq a, wr_eq]; omega
theorem wr_add' (a b : Int) : wr (a + wr b) = wr (a + b) := by rw [Int.add_comm, wr_add, Int.add_comm]
theorem wr_id {n : Int} (h : -9223372036854775808 ≤ n ∧ n ≤ 9223372036854775807) : wr n = n := by rw [wr_eq]; omega
theorem less_eq (x y : TUse) : Z66_q x y = decide (ltU x y) := by
 unfold Z66_q ltU
 rw [bytesLess_lt, bytesLess_lt, bytesLess_lt, Bool.eq_iff_iff]
 by_cases h1 : x.FType = y.FType
 ·by_cases h2 : x.FField = y.FField
  ·simp [h1, h2, List.lt_irrefl]
  ·simp [h1, h2, List.lt_irrefl]
 ·simp [h1]
theorem sameU_refl (x : TUse) : sameU x x := ⟨rfl, rfl, rfl⟩
theorem sameU_symm {x y : TUse} (h : sameU x y) : sameU y x := ⟨h.1.symm, h.2.1.symm, h.2.2.symm⟩
theorem sameU_trans {x y z : TUse} (h : sameU x y) (h' : sameU y z) : sameU x z := ⟨h.1.trans h'.1, h.2.1.trans h'.2.1, h.2.2.trans h'.2.2⟩
theorem sameU_not {x y : TUse} (h : sameU x y) : ¬ ltU x y := fun h2 => ltU_irrefl y ((ltU_same h).1.1 h2)
def sameB (x y : TUse) : Bool := x.FType == y.FType && (x.FField == y.FField && x.FArg == y.FArg)
theorem sameB_iff (x y : TUse) : sameB x y = true ↔ sameU x y := by simp [sameB, sameU]
def cnt (l : List TUse) (k : TUse) : Int := ((l.filter (sameB k)).map (·.FCount)).sum
theorem cnt_cons (x : TUse) (l : List TUse) (k : TUse) : cnt (x :: l) k = (if sameU k x then x.FCount else 0) + cnt l k := by
 unfold cnt
 by_cases h : sameU k x
 ·rw [List.filter_cons_of_pos ((sameB_iff _ _).2 h), if_pos h]; simp
 ·rw [List.filter_cons_of_neg (by rw [sameB_iff]; exact h), if_neg h]; simp
theorem cnt_app (l m : List TUse) (k : TUse) : cnt (l ++ m) k = cnt l k + cnt m k := by simp [cnt]
theorem cnt_same {x y : TUse} (h : sameU x y) (l : List TUse) : cnt l x = cnt l y := by
 unfold cnt; congr 2; apply List.filter_congr; intro z _
 rw [Bool.eq_iff_iff, sameB_iff, sameB_iff]; exact ⟨fun g => sameU_trans (sameU_symm h) g, fun g => sameU_trans h g⟩
theorem cnt_perm {l m : List TUse} (h : l.Perm m) (k : TUse) : cnt l k = cnt m k := by
 induction h with
 | nil => rfl
 | cons x _ ih => rw [cnt_cons, cnt_cons, ih]
 | swap x y l => simp only [cnt_cons]; omega
 | trans _ _ ih1 ih2 => rw [ih1, ih2]
theorem cnt_none {l : List TUse} {k : TUse} (h : ∀ x ∈ l, ¬ sameU k x) : cnt l k = 0 := by
 induction l with
 | nil => rfl
 | cons x r ih => rw [cnt_cons, if_neg (h x (by simp)), ih fun y hy => h y (by simp [hy])]; simp

structure Canon (l L : List TUse) : Prop where
 srt : L.Pairwise ltU
 mem : ∀ x, x ∈ L ↔ (∃ y ∈ l, sameU y x) ∧ x.FCount = wr (cnt l x)
theorem strict_ext : ∀ {L M : List TUse}, L.Pairwise ltU → M.Pairwise ltU → (∀ x, x ∈ L ↔ x ∈ M) → L = M
 | [], [], _, _, _ => rfl
 | [], y :: M, _, _, h => by have := (h y).2 (by simp); simp at this
 | x :: L, [], _, _, h => by have := (h x).1 (by simp); simp at this
 | x :: L, y :: M, hL, hM, h => by
  rw [List.pairwise_cons] at hL hM
  have e : x = y := by
   rcases List.mem_cons.1 ((h x).1 (by simp)) with e | hx
   ·exact e
   ·rcases List.mem_cons.1 ((h y).2 (by simp)) with e | hy
    ·exact e.symm
    ·exact absurd (ltU_trans (hL.1 y hy) (hM.1 x hx)) (ltU_irrefl x)
  subst e
  congr 1
  refine strict_ext hL.2 hM.2 fun z => ⟨fun hz => ?_, fun hz => ?_⟩
  ·rcases List.mem_cons.1 ((h z).1 (by simp [hz])) with e | hz'
   ·exact absurd (e ▸ hL.1 z hz) (ltU_irrefl x)
   ·exact hz'
  ·rcases List.mem_cons.1 ((h z).2 (by simp [hz])) with e | hz'
   ·exact absurd (e ▸ hM.1 z hz) (ltU_irrefl x)
   ·exact hz'
theorem Canon.unique {l L M : List TUse} (h : Canon l L) (h' : Canon l M) : L = M := strict_ext h.srt h'.srt fun x => by rw [h.mem, h'.mem]
theorem Canon.perm {l m L : List TUse} (h : Canon l L) (hp : l.Perm m) : Canon m L := by
 refine ⟨h.srt, fun x => ?_⟩
 rw [h.mem, cnt_perm hp]
 constructor
 ·rintro ⟨⟨y, hy, g⟩, e⟩; exact ⟨⟨y, hp.mem_iff.1 hy, g⟩, e⟩
 ·rintro ⟨⟨y, hy, g⟩, e⟩; exact ⟨⟨y, hp.mem_iff.2 hy, g⟩, e⟩
theorem Canon.nil : Canon [] [] := ⟨.nil, fun x => by simp⟩
def addU (u : TUse) (n : Int) : TUse := TUse.mk u.FType u.FField u.FArg n
noncomputable def ins : List TUse → TUse → List TUse
 | [], u => [u]
 | y :: r, u => if ltU y u then y :: ins r u else if ltU u y then u :: y :: r else addU u (wr (u.FCount + y.FCount)) :: r
theorem sameU_add (u : TUse) (n : Int) : sameU (addU u n) u := ⟨rfl, rfl, rfl⟩
theorem ins_mem {L : List TUse} (hL : L.Pairwise ltU) (u : TUse) : ∀ x, x ∈ ins L u ↔ (x ∈ L ∧ ¬ sameU x u) ∨ (x = u ∧ ∀ y ∈ L, ¬ sameU y u) ∨ ∃ y ∈ L, sameU y u ∧ x = addU u (wr (u.FCount + y.FCount)) := by
 induction L with
 | nil => intro x; simp [ins]
 | cons y r ih =>
  intro x
  rw [List.pairwise_cons] at hL
  rw [ins]
  split
  ·rename_i h1
   have hn : ¬ sameU y u := fun g => sameU_not g h1
   rw [List.mem_cons, ih hL.2]
   constructor
   ·rintro (rfl | ⟨h, g⟩ | ⟨h, g⟩ | ⟨z, h, g⟩)
    ·exact .inl ⟨by simp, hn⟩
    ·exact .inl ⟨by simp [h], g⟩
    ·refine .inr (.inl ⟨h, fun z hz => ?_⟩)
     rcases List.mem_cons.1 hz with rfl | hz
     ·exact hn
     ·exact g z hz
    ·exact .inr (.inr ⟨z, by simp [h], g⟩)
   ·rintro (⟨h, g⟩ | ⟨h, g⟩ | ⟨z, h, g⟩)
    ·rcases List.mem_cons.1 h with rfl | h
     ·exact .inl rfl
     ·exact .inr (.inl ⟨h, g⟩)
    ·exact .inr (.inr (.inl ⟨h, fun z hz => g z (by simp [hz])⟩))
    ·rcases List.mem_cons.1 h with rfl | h
     ·exact absurd g.1 hn
     ·exact .inr (.inr (.inr ⟨z, h, g⟩))
  ·split
   ·rename_i h1 h2
    have hall : ∀ z ∈ y :: r, ¬ sameU z u := fun z hz g => by
     rcases List.mem_cons.1 hz with rfl | hz
     ·exact sameU_not (sameU_symm g) h2
     ·exact sameU_not (sameU_symm g) (ltU_trans h2 (hL.1 z hz))
    constructor
    ·intro h
     rcases List.mem_cons.1 h with rfl | h
     ·exact .inr (.inl ⟨rfl, hall⟩)
     ·exact .inl ⟨h, hall x h⟩
    ·rintro (⟨h, _⟩ | ⟨h, _⟩ | ⟨z, h, g, _⟩)
     ·exact List.mem_cons_of_mem _ h
     ·rw [h]; simp
     ·exact absurd g (hall z h)
   ·rename_i h1 h2
    have hs : sameU y u := by rcases ltU_tri y u with g | g | g; exact absurd g h1; exact g; exact absurd g h2
    have hr : ∀ z ∈ r, ¬ sameU z u := fun z hz g => sameU_not (sameU_trans hs (sameU_symm g)) (hL.1 z hz)
    constructor
    ·intro h
     rcases List.mem_cons.1 h with rfl | h
     ·exact .inr (.inr ⟨y, by simp, hs, rfl⟩)
     ·exact .inl ⟨by simp [h], hr x h⟩
    ·rintro (⟨h, g⟩ | ⟨_, h⟩ | ⟨z, h, g, e⟩)
     ·rcases List.mem_cons.1 h with rfl | h
      ·exact absurd hs g
      ·simp [h]
     ·exact absurd hs (h y (by simp))
     ·rcases List.mem_cons.1 h with rfl | h
      ·rw [e]; simp
      ·exact absurd g (hr z h)
theorem ins_lt {L : List TUse} {u x : TUse} (hx : ∀ y ∈ L, ltU x y) (hu : ltU x u) : ∀ y ∈ ins L u, ltU x y := by
 induction L with
 | nil => intro y hy; simp [ins] at hy; rw [hy]; exact hu
 | cons z r ih =>
  intro y hy
  rw [ins] at hy
  split at hy
  ·rcases List.mem_cons.1 hy with rfl | hy
   ·exact hx y (by simp)
   ·exact ih (fun y hy => hx y (by simp [hy])) y hy
  ·split at hy
   ·rcases List.mem_cons.1 hy with rfl | hy
    ·exact hu
    ·exact hx y hy
   ·rcases List.mem_cons.1 hy with rfl | hy
    ·exact (ltU_same (sameU_add u _)).2.2 hu
    ·exact hx y (by simp [hy])
theorem ins_srt {L : List TUse} (hL : L.Pairwise ltU) (u : TUse) : (ins L u).Pairwise ltU := by
 induction L with
 | nil => simp [ins]
 | cons z r ih =>
  have hL' := hL
  rw [List.pairwise_cons] at hL
  rw [ins]
  split
  ·rename_i h1
   exact List.pairwise_cons.2 ⟨ins_lt hL.1 h1, ih hL.2⟩
  ·split
   ·rename_i h1 h2
    refine List.pairwise_cons.2 ⟨fun y hy => ?_, hL'⟩
    rcases List.mem_cons.1 hy with rfl | hy
    ·exact h2
    ·exact ltU_trans h2 (hL.1 y hy)
   ·rename_i h1 h2
    have hs : sameU z u := by rcases ltU_tri z u with g | g | g; exact absurd g h1; exact g; exact absurd g h2
    exact List.pairwise_cons.2 ⟨fun y hy => (ltU_same (sameU_trans (sameU_add u _) (sameU_symm hs))).1.2 (hL.1 y hy), hL.2⟩
theorem ins_len (L : List TUse) (u : TUse) : (ins L u).length ≤ L.length + 1 := by
 induction L with
 | nil => simp [ins]
 | cons z r ih =>
  rw [ins]
  split
  ·simpa using ih
  ·split <;> simp
def inR (u : TUse) : Prop := -9223372036854775808 ≤ u.FCount ∧ u.FCount ≤ 9223372036854775807
theorem Canon.ins {l L : List TUse} (h : Canon l L) {u : TUse} (hu : inR u) : Canon (l ++ [u]) (Go.Proofs.ins L u) := by
 refine ⟨ins_srt h.srt u, fun x => ?_⟩
 rw [ins_mem h.srt]
 have hc : cnt (l ++ [u]) x = cnt l x + (if sameU x u then u.FCount else 0) := by rw [cnt_app, cnt_cons]; simp [cnt]
 rw [hc]
 constructor
 ·rintro (⟨hx, g⟩ | ⟨rfl, g⟩ | ⟨y, hy, g, rfl⟩)
  ·obtain ⟨⟨y, hy, gy⟩, e⟩ := (h.mem x).1 hx
   rw [if_neg g]
   exact ⟨⟨y, by simp [hy], gy⟩, by rw [e, Int.add_zero]⟩
  ·refine ⟨⟨x, by simp, sameU_refl x⟩, ?_⟩
   rw [if_pos (sameU_refl x), cnt_none (l := l), Int.zero_add, wr_id hu]
   intro y hy gy
   exact g (addU x (wr (cnt l x))) ((h.mem _).2 ⟨⟨y, hy, sameU_trans (sameU_symm gy) (sameU_symm (sameU_add x _))⟩, by rw [cnt_same (sameU_add x _)]; rfl⟩) (sameU_add x _)
  ·obtain ⟨⟨z, hz, gz⟩, e⟩ := (h.mem y).1 hy
   refine ⟨⟨u, by simp, sameU_symm (sameU_add u _)⟩, ?_⟩
   rw [if_pos (sameU_add u _), cnt_same (sameU_add u _)]
   show wr (u.FCount + y.FCount) = _
   rw [e, wr_add', cnt_same g, Int.add_comm]
 ·rintro ⟨⟨y, hy, gy⟩, e⟩
  by_cases g : sameU x u
  ·rw [if_pos g] at e
   right
   by_cases hex : ∃ z ∈ L, sameU z u
   ·obtain ⟨z, hz, gz⟩ := hex
    right
    refine ⟨z, hz, gz, ?_⟩
    obtain ⟨_, e2⟩ := (h.mem z).1 hz
    have e3 : x.FCount = wr (u.FCount + z.FCount) := by rw [e, e2, wr_add', cnt_same (sameU_trans gz (sameU_symm g)), Int.add_comm]
    obtain ⟨g1, g2, g3⟩ := g
    cases x; cases u
    simp only [addU, TUse.mk.injEq] at *
    exact ⟨g1, g2, g3, e3⟩
   ·left
    have hno : ∀ z ∈ L, ¬ sameU z u := fun z hz gz => hex ⟨z, hz, gz⟩
    refine ⟨?_, hno⟩
    have hl : ∀ z ∈ l, ¬ sameU x z := fun z hz gz => hno (addU z (wr (cnt l z))) ((h.mem _).2 ⟨⟨z, hz, sameU_symm (sameU_add z _)⟩, by rw [cnt_same (sameU_add z _)]; rfl⟩) (sameU_trans (sameU_add z _) (sameU_trans (sameU_symm gz) g))
    rw [cnt_none hl, Int.zero_add, wr_id hu] at e
    obtain ⟨g1, g2, g3⟩ := g
    cases x; cases u
    simp only [TUse.mk.injEq] at *
    exact ⟨g1, g2, g3, e⟩
  ·rw [if_neg g, Int.add_zero] at e
   left
   refine ⟨(h.mem x).2 ⟨?_, e⟩, g⟩
   rcases List.mem_append.1 hy with hy | hy
   ·exact ⟨y, hy, gy⟩
   ·simp at hy; subst hy; exact absurd (sameU_symm gy) g
noncomputable def sumU (l : List TUse) : List TUse := l.foldl ins []
theorem foldl_canon : ∀ (l p L : List TUse), Canon p L → (∀ u ∈ l, inR u) → Canon (p ++ l) (l.foldl ins L)
 | [], p, L, h, _ => by simpa using h
 | u :: r, p, L, h, hr => by
  have := foldl_canon r (p ++ [u]) (ins L u) (h.ins (hr u (by simp))) fun x hx => hr x (by simp [hx])
  simpa using this
theorem sumU_canon {l : List TUse} (h : ∀ u ∈ l, inR u) : Canon l (sumU l) := by have := foldl_canon l [] [] Canon.nil h; simpa [sumU] using this
end Go.Proofs



namespace Go.Proofs
open Go Go.Ab
attribute [local instance] Classical.propDecidable
theorem insert_done (u : TUse) : ∀ (r : List TUse) (o : Sl TUse), o.l.length + r.length ≤ bigU → ∃ nl, Z64_q15 r o true u = some (⟨nl, o.l ++ r⟩, true, u)
 | [], o, _ => ⟨o.nl, by simp [Z64_q15]⟩
 | h :: r, o, hl => by
  simp only [List.length_cons] at hl
  obtain ⟨nl, e⟩ := insert_done u r ⟨o.nl && List.isEmpty [h], o.l ++ [h]⟩ (by simp; omega)
  refine ⟨nl, ?_⟩
  rw [Z64_q15]
  simp only [Ab.on, Bool.not_true, Bool.false_and, cond_false]
  rw [appU (by simp; omega)]
  simp only [Option.bind_some]
  rw [e]; simp
theorem insert_loop (u : TUse) : ∀ (r : List TUse) (o : Sl TUse), o.l.length + r.length + 1 ≤ bigU → ∃ o' d u', Z64_q15 r o false u = some (o', d, u') ∧ (bif d then o'.l else o'.l ++ [u']) = o.l ++ ins r u ∧ o'.l.length ≤ o.l.length + r.length + 1
 | [], o, _ => ⟨o, false, u, by simp [Z64_q15], by simp [ins], by simp⟩
 | h :: r, o, hl => by
  simp only [List.length_cons] at hl
  rw [Z64_q15]
  simp only [Ab.on, Bool.not_false, cond_true, Bool.true_and, less_eq, ins]
  by_cases h1 : ltU h u
  ·obtain ⟨o', d, u', e, e2, e3⟩ := insert_loop u r ⟨o.nl && List.isEmpty [h], o.l ++ [h]⟩ (by simp; omega)
   refine ⟨o', d, u', ?_, ?_, ?_⟩
   ·simp only [decide_eq_true h1, Bool.not_true, cond_false]
    rw [appU (by simp; omega)]
    simp only [Option.bind_some]
    exact e
   ·rw [e2, if_pos h1]; simp
   ·simp at e3 ⊢; omega
  ·by_cases h2 : ltU u h
   ·obtain ⟨nl, e⟩ := insert_done u r ⟨(o.nl && List.isEmpty [u]) && List.isEmpty [h], o.l ++ [u] ++ [h]⟩ (by simp; omega)
    refine ⟨⟨nl, o.l ++ [u] ++ [h] ++ r⟩, true, u, ?_, ?_, ?_⟩
    ·simp only [decide_eq_false h1, decide_eq_true h2, Bool.not_false, Bool.not_true, cond_false, cond_true]
     rw [appU (by simp; omega)]
     simp only [Option.bind_some]
     rw [appU (by simp; omega)]
     simp only [Option.bind_some]
     exact e
    ·rw [if_neg h1, if_pos h2]; simp
    ·simp; omega
   ·obtain ⟨nl, e⟩ := insert_done (addU u (wr (u.FCount + h.FCount))) r ⟨o.nl && List.isEmpty [addU u (wr (u.FCount + h.FCount))], o.l ++ [addU u (wr (u.FCount + h.FCount))]⟩ (by simp; omega)
    refine ⟨⟨nl, o.l ++ [addU u (wr (u.FCount + h.FCount))] ++ r⟩, true, addU u (wr (u.FCount + h.FCount)), ?_, ?_, ?_⟩
    ·simp only [decide_eq_false h1, decide_eq_false h2, Bool.not_false, cond_true]
     rw [appU (by simp; omega)]
     simp only [Option.bind_some]
     exact e
    ·rw [if_neg h1, if_neg h2]; simp
    ·simp
theorem insert_eq (l : Sl TUse) (u : TUse) (hl : l.l.length + 1 ≤ bigU) : ∃ nl, Z64_q l u = some ⟨nl, ins l.l u⟩ := by
 obtain ⟨o, d, u', e, e2, e3⟩ := insert_loop u l.l Sl.nil (by simp [Sl.nil]; omega)
 simp only [Sl.nil, List.length_nil, List.nil_append] at e2 e3
 unfold Z64_q
 rw [show (Sl.nil : Sl TUse) = ⟨true, []⟩ from rfl] at e ⊢
 rw [e]
 simp only [Ab.on, Option.bind_some]
 cases d with
 | true => simp at e2; exact ⟨o.nl, by rw [← e2]; rfl⟩
 | false =>
  simp only [cond_false] at e2
  simp only [Bool.not_false, cond_true]
  have h9 := ins_len l.l u
  rw [← e2, List.length_append, List.length_singleton] at h9
  rw [appU (by simp; omega)]
  exact ⟨_, by simp [e2]; rfl⟩
theorem rsort_loop : ∀ (l : List TUse) (o : Sl TUse), o.l.length + l.length ≤ bigU → ∃ nl, Z62_q7 l o = some ⟨nl, l.foldl ins o.l⟩
 | [], o, _ => ⟨o.nl, by simp [Z62_q7]⟩
 | u :: r, o, hl => by
  simp only [List.length_cons] at hl
  obtain ⟨nl, e⟩ := insert_eq o u (by omega)
  have := ins_len o.l u
  obtain ⟨nl2, e2⟩ := rsort_loop r ⟨nl, ins o.l u⟩ (by simp only; omega)
  refine ⟨nl2, ?_⟩
  rw [Z62_q7]
  simp only [Ab.on, e, Option.bind_some]
  exact e2
theorem rsort_eq (a : Sl TUse) (hl : a.l.length ≤ bigU) : ∃ nl, Z62_q a = some ⟨nl, sumU a.l⟩ := by
 obtain ⟨nl, e⟩ := rsort_loop a.l Sl.nil (by simp [Sl.nil]; omega)
 refine ⟨nl, ?_⟩
 unfold Z62_q
 rw [e]; simp [Ab.on, sumU, Sl.nil]

theorem ins_last {x u : TUse} : ∀ {p : List TUse}, (∀ y ∈ p, ltU y u) → ins (p ++ [x]) u = p ++ ins [x] u
 | [], _ => rfl
 | y :: p, h => by
  rw [List.cons_append, ins, if_pos (h y (by simp)), ins_last fun z hz => h z (by simp [hz])]; rfl
theorem usort_step (o : Sl TUse) (u : TUse) (r : List TUse) (hs : o.l.Pairwise ltU) (hu : ∀ y ∈ o.l, ¬ ltU u y) (hl : o.l.length + 1 ≤ bigU) : ∃ nl, Z93_q12 (u :: r) o = Z93_q12 r ⟨nl, ins o.l u⟩ := by
 rcases List.eq_nil_or_concat o.l with h0 | ⟨p, x, h0⟩
 ·refine ⟨o.nl && List.isEmpty [u], ?_⟩
  rw [Z93_q12]
  simp only [Ab.on, h0, List.length_nil, guardO]
  simp only [Int.natCast_zero, Int.lt_irrefl, decide_false, Bool.false_and, Bool.false_eq_true, if_false, cond_false]
  rw [appU (by simp [h0]; omega)]
  simp [h0, ins]
 ·rw [List.concat_eq_append] at h0
  have hxm : x ∈ o.l := by rw [h0]; simp
  have hp : ∀ y ∈ p, ltU y u := fun y hy => by
   rw [h0, List.pairwise_append] at hs
   have h1 := hs.2.2 y hy x (by simp)
   rcases ltU_tri x u with g | g | g
   ·exact ltU_trans h1 g
   ·exact (ltU_same g).2.1 h1
   ·exact absurd g (hu x hxm)
  have hins : ins o.l u = p ++ ins [x] u := by rw [h0, ins_last hp]
  have hlen : o.l.length = p.length + 1 := by rw [h0]; simp
  have hbig : bigU = 2400000000000 := rfl
  have hpos : decide ((0 : Int) < (o.l.length : Int)) = true := decide_eq_true (by omega)
  have hsub : subC (o.l.length : Int) 1 = some ((p.length : Nat) : Int) := by rw [subC_ok (by omega)]; congr 1; omega
  have hidx : idxC o.l ((p.length : Nat) : Int) = some x := by
   unfold idxC; rw [if_pos (by omega), Int.toNat_natCast, h0]; simp
  rw [Z93_q12]
  simp only [Ab.on, hpos, Bool.true_and, guardO, if_true, hsub, Option.bind_some, hidx]
  by_cases c1 : x.FType = u.FType
  ·by_cases c2 : x.FField = u.FField
   ·by_cases c3 : x.FArg = u.FArg
    ·have hsm : sameU x u := ⟨c1, c2, c3⟩
     refine ⟨o.nl, ?_⟩
     simp only [c1, c2, c3, beq_self_eq_true, if_true, hsub, Option.bind_some, hidx, Bool.and_true, Bool.true_and, cond_true]
     congr 1
     rw [hins, ins, if_neg (sameU_not hsm), if_neg (sameU_not (sameU_symm hsm))]
     unfold Sl.setL
     rw [Int.toNat_natCast, h0]
     simp [addU, c1, c2, c3, Int.add_comm]
    ·refine ⟨o.nl && List.isEmpty [u], ?_⟩
     have hb : (x.FArg == u.FArg) = false := beq_eq_false_iff_ne.2 c3
     have hnl : ¬ sameU x u := fun g => c3 g.2.2
     have hxu : ltU x u := by rcases ltU_tri x u with g | g | g; exact g; exact absurd g hnl; exact absurd g (hu x hxm)
     simp only [c1, c2, beq_self_eq_true, if_true, hsub, Option.bind_some, hidx, Bool.and_true, Bool.true_and, hb, cond_false]
     rw [appU (by simp; omega)]
     simp only [Option.bind_some]
     rw [hins, ins, if_pos hxu, h0]; simp [ins]
   ·refine ⟨o.nl && List.isEmpty [u], ?_⟩
    have hb : (x.FField == u.FField) = false := beq_eq_false_iff_ne.2 c2
    have hnl : ¬ sameU x u := fun g => c2 g.2.1
    have hxu : ltU x u := by rcases ltU_tri x u with g | g | g; exact g; exact absurd g hnl; exact absurd g (hu x hxm)
    simp only [c1, beq_self_eq_true, if_true, hsub, Option.bind_some, hidx, Bool.and_true, Bool.true_and, hb, Bool.false_eq_true, if_false, Bool.false_and, cond_false]
    rw [appU (by simp; omega)]
    simp only [Option.bind_some]
    rw [hins, ins, if_pos hxu, h0]; simp [ins]
  ·refine ⟨o.nl && List.isEmpty [u], ?_⟩
   have hb : (x.FType == u.FType) = false := beq_eq_false_iff_ne.2 c1
   have hnl : ¬ sameU x u := fun g => c1 g.1
   have hxu : ltU x u := by rcases ltU_tri x u with g | g | g; exact g; exact absurd g hnl; exact absurd g (hu x hxm)
   simp only [hb, Bool.false_eq_true, if_false, Bool.false_and, cond_false]
   rw [appU (by simp; omega)]
   simp only [Option.bind_some]
   rw [hins, ins, if_pos hxu, h0]; simp [ins]
theorem usort_loop : ∀ (r p : List TUse) (o : Sl TUse), (p ++ r).Pairwise (fun x y => ¬ ltU y x) → Canon p o.l → (∀ u ∈ r, inR u) → o.l.length + r.length ≤ bigU → ∃ nl L, Z93_q12 r o = some ⟨nl, L⟩ ∧ Canon (p ++ r) L
 | [], p, o, _, hc, _, _ => ⟨o.nl, o.l, by simp [Z93_q12], by simpa using hc⟩
 | u :: r, p, o, hs, hc, hr, hl => by
  simp only [List.length_cons] at hl
  have hs' := hs
  rw [List.pairwise_append] at hs
  obtain ⟨nl, e⟩ := usort_step o u r hc.srt (fun y hy g => by
   obtain ⟨⟨z, hz, gz⟩, _⟩ := (hc.mem y).1 hy
   exact hs.2.2 z hz u (by simp) ((ltU_same gz).2.2 g)) (by omega)
  have := ins_len o.l u
  obtain ⟨nl2, L, e2, hc2⟩ := usort_loop r (p ++ [u]) ⟨nl, ins o.l u⟩ (by simpa using hs') (hc.ins (hr u (by simp))) (fun x hx => hr x (by simp [hx])) (by simp only; omega)
  exact ⟨nl2, L, by rw [e, e2], by simpa using hc2⟩
def good (l : List TUse) : Prop := ∀ u ∈ l, inR u ∧ okT TUse.c u = true
theorem usort_eq (a : Sl TUse) (hl : a.l.length ≤ bigU) (hnl : a.nl = true → a.l = []) (hg : good a.l) : ∃ nl, Z93_q a = some ⟨nl, sumU a.l⟩ := by
 have hclone : ∃ nl, Z77_q a = some ⟨nl, a.l⟩ := by
  unfold Z77_q
  cases h : a.nl
  ·rw [cond_false, appU (by simp; omega)]; exact ⟨_, by simp; rfl⟩
  ·rw [cond_true, hnl h]; exact ⟨true, rfl⟩
 obtain ⟨nl, e⟩ := hclone
 have hp := sortT_perm TUse.c Z94_swo a.l
 have hst := sortT_sorted TUse.c Z94_swo a.l
 have hgs : good (sortT TUse.c (cmpO Z94) a.l) := fun u hu => hg u (hp.mem_iff.1 hu)
 have hst2 : (sortT TUse.c (cmpO Z94) a.l).Pairwise fun x y => ¬ ltU y x := by
  rw [List.pairwise_iff_getElem] at hst ⊢
  intro i j hi hj hij
  have := hst i j hi hj hij
  unfold cfT at this
  rw [normT_ok _ (hgs _ (List.getElem_mem hj)).2, normT_ok _ (hgs _ (List.getElem_mem hi)).2, Z94_cmp, cmpU_lt] at this
  exact this
 obtain ⟨nl2, L, e2, hc⟩ := usort_loop (sortT TUse.c (cmpO Z94) a.l) [] Sl.nil (by simpa using hst2) Canon.nil (fun u hu => (hgs u hu).1) (by rw [hp.length_eq]; simp [Sl.nil]; omega)
 refine ⟨nl2, ?_⟩
 unfold Z93_q
 rw [e]
 simp only [Option.bind_some, sortL, e2, Ab.on]
 rw [List.nil_append] at hc
 rw [(hc.perm hp).unique (sumU_canon fun u hu => (hg u hu).1)]
theorem same_loop : ∀ (p r : List TUse) (nl : Bool), Z61_q11 ⟨nl, p ++ r⟩ r p.length = some (Sum.inl ())
 | p, [], nl => rfl
 | p, x :: r, nl => by
  rw [Z61_q11]
  have hx : (p ++ x :: r)[p.length]? = some x := by simp
  simp only [Ab.on, hx, Option.bind_some, beq_self_eq_true, decide_true, Bool.and_self, Bool.not_true, cond_false]
  have := same_loop (p ++ [x]) r nl
  simpa using this
theorem same_eq (l : List TUse) (nl nl' : Bool) : Z61_q ⟨nl, l⟩ ⟨nl', l⟩ = some true := by
 unfold Z61_q
 simp only [decide_true, Bool.not_true, cond_false]
 have := same_loop [] l nl'
 simp only [List.nil_append, List.length_nil] at this
 rw [this]; rfl
end Go.Proofs

namespace Go.Proofs
open Go Go.Ab
def fndG (l : List TFrag) (s : Bs) : TFrag × Bool := match l.find? (fun t => t.FName == s) with | some t => (t, true) | none => (TFrag.zero, false)
theorem ffindAux (l : List TFrag) (s : Bs) : Z4_q7 s l = match l.find? (fun t => t.FName == s) with | some t => Sum.inr (t, true) | none => Sum.inl () := by
 induction l with
 | nil => rfl
 | cons a r ih =>
  rw [Z4_q7, List.find?_cons]
  simp only [Ab.on, ih]
  cases a.FName == s <;> rfl
theorem ffind_eq (q : TQuery) (s : Bs) : Z4_q q s = fndG q.FFrags.l s := by
 unfold Z4_q fndG
 simp only [Ab.on]
 rw [ffindAux]
 cases q.FFrags.l.find? (fun t => t.FName == s) <;> rfl
theorem rfindAux (l : List TFrag) (s : Bs) : Z54_q6 s l = Z4_q7 s l := by
 induction l with
 | nil => rfl
 | cons a r ih => rw [Z54_q6, Z4_q7, ih]; rfl
theorem rfind_eq (q : TQuery) (s : Bs) : Z54_q q s = fndG q.FFrags.l s := by
 rw [← ffind_eq]; unfold Z54_q Z4_q; rw [rfindAux]; all_goals rfl
theorem fndG_name {l : List TFrag} {s : Bs} (h : (fndG l s).2 = true) : (fndG l s).1.FName = s ∧ (fndG l s).1 ∈ l := by
 unfold fndG at *
 cases e : l.find? (fun t => t.FName == s) with
 | none => rw [e] at h; cases h
 | some t => exact ⟨by simpa using List.find?_some e, List.mem_of_find?_eq_some e⟩
theorem fndG_none {l : List TFrag} {s : Bs} (h : (fndG l s).2 = false) : (fndG l s).1 = TFrag.zero := by
 unfold fndG at *
 cases e : l.find? (fun t => t.FName == s) with
 | none => rfl
 | some t => rw [e] at h; cases h
theorem hasAux (s : Bs) (l : List Bs) : Z57_q5 s l = bif l.contains s then Sum.inr true else Sum.inl () := by
 induction l with
 | nil => rfl
 | cons a r ih =>
  rw [Z57_q5]
  simp only [Ab.on, ih, List.contains_cons]
  rw [show (s == a) = (a == s) from Bool.beq_comm]
  cases a == s <;> rfl
theorem has_eq (a : Sl Bs) (s : Bs) : Z57_q a s = a.l.contains s := by
 unfold Z57_q; simp only [Ab.on]; rw [hasAux]; cases a.l.contains s <;> rfl
theorem indexAux (s : Bs) (l : List Bs) : ∀ n : Nat, (l.contains s = false → Z82_q6 s l n = Sum.inl ()) ∧ (l.contains s = true → ∃ m : Nat, Z82_q6 s l n = Sum.inr (m : Int)) := by
 induction l with
 | nil => intro n; exact ⟨fun _ => rfl, fun h => by simp at h⟩
 | cons a r ih =>
  intro n
  rw [Z82_q6]
  simp only [Ab.on, List.contains_cons]
  cases s == a
  ·simp only [Bool.false_or, cond_false]; exact ih (n + 1)
  ·simp only [Bool.true_or, cond_true]; exact ⟨fun h => by simp at h, fun _ => ⟨n, rfl⟩⟩
theorem contains_eq (a : Sl Bs) (s : Bs) : Z80_q a s = a.l.contains s := by
 unfold Z80_q Z82_q
 simp only [Ab.on]
 have h := indexAux s a.l 0
 cases hc : a.l.contains s
 ·rw [h.1 hc]; rfl
 ·obtain ⟨m, e⟩ := h.2 hc
  rw [e]; exact decide_eq_true (by simp)
theorem walk_loop (q : TQuery) (k : TQuery → Sl TSel → Sl Bs → Option (Sl Bs × Bool)) : ∀ (l : List TSel) (s : Sl Bs) (b : Bool), Z7_q9 q k l s b = Z58_q8 q k l s b
 | [], _, _ => rfl
 | h :: r, s, b => by
  have ih := walk_loop q k r
  rw [Z7_q9, Z58_q8]
  simp only [Ab.on, ffind_eq, rfind_eq, contains_eq, has_eq, ih]
  cases decide (h.FKind = 2)
  ·rfl
  ·simp only [cond_true]
   cases hf : (fndG q.FFrags.l h.FName).2
   ·simp
   ·rw [(fndG_name hf).1]
    simp
theorem walk_eq (q : TQuery) : ∀ n, Z7_qn n q = Z58_qn n q
 | 0 => rfl
 | n + 1 => by
  funext l s
  rw [Z7_qn, Z58_qn]
  have hk : ∀ l s, Z7_qn n q l s = Z58_qn n q l s := fun l s => by rw [walk_eq q n]
  have key : ∀ (l : List TSel) (s : Sl Bs) (b : Bool), Z7_q9 q (Z7_qn n) l s b = Z7_q9 q (Z58_qn n) l s b := by
   intro l
   induction l with
   | nil => intro s b; rfl
   | cons h r ih =>
    intro s b
    rw [Z7_q9, Z7_q9]
    simp only [Ab.on, hk, ih]
  rw [key, walk_loop]
def unseen (fr : Sl TFrag) (seen : List Bs) : Nat := (fr.l.filter fun f => !seen.contains f.FName).length
theorem filter_le {α : Type} {p q : α → Bool} {l : List α} (h : ∀ x ∈ l, p x = true → q x = true) : (l.filter p).length ≤ (l.filter q).length := by
 induction l with
 | nil => simp
 | cons a r ih =>
  have := ih fun x hx => h x (List.mem_cons_of_mem _ hx)
  have h1 := h a List.mem_cons_self
  simp only [List.filter_cons]
  cases hp : p a <;> cases hq : q a <;> simp_all <;> omega
theorem filter_lt {α : Type} {p q : α → Bool} {l : List α} {y : α} (h : ∀ x ∈ l, p x = true → q x = true) (hy : y ∈ l) (h1 : p y = false) (h2 : q y = true) : (l.filter p).length < (l.filter q).length := by
 induction l with
 | nil => cases hy
 | cons a r ih =>
  have h3 := filter_le (l := r) (p := p) (q := q) fun x hx => h x (List.mem_cons_of_mem _ hx)
  simp only [List.filter_cons]
  rcases List.mem_cons.1 hy with rfl | hy
  ·simp [h1, h2]; omega
  ·have := ih (fun x hx => h x (List.mem_cons_of_mem _ hx)) hy
   have h4 := h a List.mem_cons_self
   cases hp : p a <;> cases hq : q a <;> simp_all <;> omega
theorem unseen_le {fr : Sl TFrag} {a b : List Bs} (h : ∀ s ∈ a, s ∈ b) : unseen fr b ≤ unseen fr a := filter_le fun x _ hp => by
 simp at hp ⊢; exact fun h2 => hp (h _ h2)
theorem unseen_lt {fr : Sl TFrag} {a b : List Bs} (h : ∀ s ∈ a, s ∈ b) {f : TFrag} (hf : f ∈ fr.l) (h1 : f.FName ∉ a) (h2 : f.FName ∈ b) : unseen fr b < unseen fr a :=
 filter_lt (fun x _ hp => by simp at hp ⊢; exact fun h2 => hp (h _ h2)) hf (by simpa using h2) (by simpa using h1)
theorem unseen_all (fr : Sl TFrag) (seen : List Bs) : unseen fr seen ≤ fr.l.length := List.length_filter_le _ _
def Vis (q : TQuery) (o : Option (Sl Bs × Bool)) (s : Sl Bs) : Prop := ∃ s' b, o = some (s', b) ∧ (∀ x ∈ s.l, x ∈ s'.l) ∧ unseen q.FFrags s'.l + s'.l.length ≤ unseen q.FFrags s.l + s.l.length
theorem meas_le {a b T x y n : Nat} (h : a ≤ b) (hx : x ≤ y) (h2 : b * (T + 1) + y ≤ n) : a * (T + 1) + x ≤ n := by
 have : a * (T + 1) ≤ b * (T + 1) := Nat.mul_le_mul_right _ h
 omega
theorem meas_lt {a b T x y n : Nat} (h : a < b) (hx : x ≤ T) (h2 : b * (T + 1) + y ≤ n) : a * (T + 1) + x < n := by
 have : (a + 1) * (T + 1) ≤ b * (T + 1) := Nat.mul_le_mul_right _ h
 rw [Nat.succ_mul] at this
 omega
theorem visit_loop {q : TQuery} {T n : Nat} (hT : ∀ f ∈ q.FFrags.l, (f.FSels.l.map TSel.sz).sum ≤ T)
  (ih : ∀ (l : Sl TSel) (s : Sl Bs), unseen q.FFrags s.l * (T + 1) + (l.l.map TSel.sz).sum < n → (l.l.map TSel.sz).sum ≤ T → unseen q.FFrags s.l + s.l.length ≤ 1048576 → Vis q (Z58_qn n q l s) s) :
  ∀ (l : List TSel) (s : Sl Bs) (b : Bool), unseen q.FFrags s.l * (T + 1) + (l.map TSel.sz).sum ≤ n → (l.map TSel.sz).sum ≤ T → unseen q.FFrags s.l + s.l.length ≤ 1048576 → Vis q (Z58_q8 q (Z58_qn n) l s b) s
 | [], s, b, _, _, _ => ⟨s, b, rfl, fun _ h => h, Nat.le_refl _⟩
 | h :: r, s, b, hn, hl, hb => by
  simp only [List.map_cons, List.sum_cons] at hn hl
  have hp : (h.FSels.l.map TSel.sz).sum + 4 ≤ h.sz := by have := sel_parts h; omega
  -- the rest, from what the selection has seen
  have rest : ∀ (o : Option (Sl Bs × Bool)), Vis q o s → Vis q (Option.bind o fun z16 => Z58_q8 q (Z58_qn n) r z16.1 z16.2) s := fun o ho => by
   obtain ⟨s1, b1, e, hs, hu⟩ := ho
   have hle := unseen_le (fr := q.FFrags) hs
   obtain ⟨s2, b2, e2, hs2, hu2⟩ := visit_loop hT ih r s1 b1 (meas_le hle (by omega) hn) (by omega) (by omega)
   exact ⟨s2, b2, by rw [e, Option.bind_some]; exact e2, fun x hx => hs2 x (hs x hx), by omega⟩
  rw [Z58_q8]
  simp only [Ab.on, rfind_eq, has_eq]
  refine rest _ ?_
  cases decide (h.FKind = 2)
  ·rw [cond_false]
   obtain ⟨s1, b1, e, hs, hu⟩ := ih h.FSels s (by omega) (by omega) hb
   exact ⟨s1, b && b1, by rw [e]; rfl, hs, hu⟩
  ·rw [cond_true]
   cases hf : (fndG q.FFrags.l h.FName).2
   ·exact ⟨s, false, rfl, fun _ h => h, Nat.le_refl _⟩
   ·obtain ⟨hn1, hm⟩ := fndG_name hf
    cases hc : s.l.contains (fndG q.FFrags.l h.FName).1.FName
    ·simp only [Bool.not_true, Bool.not_false, cond_true, cond_false, Bool.or_false]
     have hsub : ∀ x ∈ s.l, x ∈ s.l ++ [(fndG q.FFrags.l h.FName).1.FName] := fun x hx => by simp [hx]
     have hlt := unseen_lt (fr := q.FFrags) hsub hm (by simpa using hc) (by simp)
     rw [appC_ok (by decide) (by simp only [List.length_singleton]; omega), Option.bind_some]
     obtain ⟨s1, b1, e, hs, hu⟩ := ih (fndG q.FFrags.l h.FName).1.FSels ⟨s.nl && List.isEmpty [(fndG q.FFrags.l h.FName).1.FName], s.l ++ [(fndG q.FFrags.l h.FName).1.FName]⟩ (meas_lt hlt (hT _ hm) hn) (hT _ hm) (by simp only [List.length_append, List.length_singleton]; omega)
     refine ⟨s1, b && b1, by rw [e]; rfl, fun x hx => hs x (hsub x hx), ?_⟩
     simp only [List.length_append, List.length_singleton] at hu
     omega
    ·simp only [Bool.not_true, Bool.not_false, cond_true, cond_false, Bool.false_or]
     exact ⟨s, b, rfl, fun _ h => h, Nat.le_refl _⟩
theorem visit_tot {q : TQuery} {T : Nat} (hT : ∀ f ∈ q.FFrags.l, (f.FSels.l.map TSel.sz).sum ≤ T) : ∀ (n : Nat) (l : Sl TSel) (s : Sl Bs), unseen q.FFrags s.l * (T + 1) + (l.l.map TSel.sz).sum < n → (l.l.map TSel.sz).sum ≤ T → unseen q.FFrags s.l + s.l.length ≤ 1048576 → Vis q (Z58_qn n q l s) s
 | 0, _, _, h, _, _ => by omega
 | n + 1, l, s, hn, hl, hb => by
  obtain ⟨s1, b1, e, hs, hu⟩ := visit_loop hT (visit_tot hT n) l.l s true (by omega) hl hb
  exact ⟨s1, b1, by rw [Z58_qn, e]; rfl, hs, hu⟩
def QOk (q : TQuery) : Prop := q.FFrags.l.length ≤ 1048576 ∧ ∀ f ∈ q.FFrags.l, (f.FSels.l.map TSel.sz).sum ≤ 1048576
theorem visit_top {q : TQuery} (hq : QOk q) (l : Sl TSel) (hl : (l.l.map TSel.sz).sum ≤ 1048576) : ∃ s' b, Z58_q q l Sl.nil = some (s', b) ∧ s'.l.length ≤ 1048576 := by
 have hu := unseen_all q.FFrags []
 have h1 := hq.1
 have hm : unseen q.FFrags [] * (1048576 + 1) ≤ 1048576 * (1048576 + 1) := Nat.mul_le_mul_right _ (by omega)
 obtain ⟨s', b, e, _, h2⟩ := visit_tot hq.2 F0 l Sl.nil (by rw [F0_eq]; simp only [Sl.nil]; omega) hl (by simp only [Sl.nil, List.length_nil]; omega)
 refine ⟨s', b, e, ?_⟩
 simp only [Sl.nil, List.length_nil] at h2
 omega
theorem fndG_sum {q : TQuery} (hq : QOk q) (s : Bs) : ((fndG q.FFrags.l s).1.FSels.l.map TSel.sz).sum ≤ 1048576 := by
 cases h : (fndG q.FFrags.l s).2
 ·rw [fndG_none h]; decide
 ·exact hq.2 _ (fndG_name h).2
theorem circ_tot {q : TQuery} (hq : QOk q) (f : TFrag) (hf : (f.FSels.l.map TSel.sz).sum ≤ 1048576) : ∃ b, Z56_q q f = some b ∧ Z6_q q f = some b := by
 obtain ⟨s, b, e, _⟩ := visit_top hq f.FSels hf
 refine ⟨s.l.contains f.FName, ?_, ?_⟩
 ·unfold Z56_q; rw [e]; simp only [Option.bind_some, Ab.on, has_eq]
 ·unfold Z6_q Z7_q
  rw [walk_eq]
  unfold Z58_q at e
  rw [e]; simp only [Option.bind_some, Ab.on, contains_eq]
theorem reach_tot {q : TQuery} (hq : QOk q) (l : Sl TSel) (hl : (l.l.map TSel.sz).sum ≤ 1048576) : ∃ s b b', Z5_q q l = some (s, b) ∧ Z55_q q l = some (s, b') ∧ s.l.length ≤ 1048576 := by
 obtain ⟨s, b, e, hs⟩ := visit_top hq l hl
 have e' : Z7_q q l Sl.nil = some (s, b) := by unfold Z7_q; rw [walk_eq]; exact e
 have l1 : ∀ (r : List Bs) (c : Bool), ∃ c', Z55_q9 q r c = some c' := by
  intro r
  induction r with
  | nil => intro c; exact ⟨c, rfl⟩
  | cons a r ih =>
   intro c
   obtain ⟨x, h1, _⟩ := circ_tot hq (fndG q.FFrags.l a).1 (fndG_sum hq a)
   obtain ⟨c', h2⟩ := ih (bif x then false else c)
   exact ⟨c', by rw [Z55_q9]; simp only [Ab.on, rfind_eq, h1, Option.bind_some]; exact h2⟩
 have l2 : ∀ (r : List Bs) (c : Bool), ∃ c', Z5_q10 q r c = some c' := by
  intro r
  induction r with
  | nil => intro c; exact ⟨c, rfl⟩
  | cons a r ih =>
   intro c
   obtain ⟨x, _, h1⟩ := circ_tot hq (fndG q.FFrags.l a).1 (fndG_sum hq a)
   rw [Z5_q10]
   simp only [Ab.on, ffind_eq, h1]
   cases c
   ·obtain ⟨c', h2⟩ := ih false
    exact ⟨c', by simp [guardO, h2]⟩
   ·obtain ⟨c', h2⟩ := ih (true && !x)
    exact ⟨c', by simp only [guardO, if_true, Option.bind_some]; exact h2⟩
 obtain ⟨c1, h1⟩ := l1 s.l b
 obtain ⟨c2, h2⟩ := l2 s.l b
 refine ⟨s, c2, c1, ?_, ?_, hs⟩
 ·unfold Z5_q; rw [e', Option.bind_some, h2]; rfl
 ·unfold Z55_q; rw [e, Option.bind_some, h1]; rfl
end Go.Proofs

namespace Go.Proofs
open Go Go.Ab
def shortU (u : TUse) : Prop := (u.FType.length ≤ 1048576 ∧ u.FField.length ≤ 1048576 ∧ u.FArg.length ≤ 1048576) ∧ u.FCount = 1
def Short (l : List TUse) : Prop := ∀ u ∈ l, shortU u
theorem Short.nil : Short [] := fun u h => by cases h
theorem Short.app {a b : List TUse} (ha : Short a) (hb : Short b) : Short (a ++ b) := fun u hu => (List.mem_append.1 hu).elim (ha u) (hb u)
theorem Short.use {a b c : Bs} (h1 : a.length ≤ 1048576) (h2 : b.length ≤ 1048576) (h3 : c.length ≤ 1048576) : Short [useU a b c] := fun u hu => by
 rw [List.mem_singleton.1 hu]; exact ⟨⟨h1, h2, h3⟩, rfl⟩
theorem Short.flat {α : Type} {f : α → List TUse} {l : List α} (h : ∀ x ∈ l, Short (f x)) : Short (l.flatMap f) := fun u hu => by
 obtain ⟨x, hx, hu⟩ := List.mem_flatMap.1 hu
 exact h x hx u hu
theorem Short.good {l : List TUse} (h : Short l) : good l := fun u hu => by
 obtain ⟨⟨h1, h2, h3⟩, h4⟩ := h u hu
 refine ⟨by unfold inR; rw [h4]; omega, ?_⟩
 have e1 : Nat.ble u.FType.length maxS = true := by rw [Nat.ble_eq]; unfold maxS; omega
 have e2 : Nat.ble u.FField.length maxS = true := by rw [Nat.ble_eq]; unfold maxS; omega
 have e3 : Nat.ble u.FArg.length maxS = true := by rw [Nat.ble_eq]; unfold maxS; omega
 simp [okT, TUse.c, scalB, e1, e2, e3]
def NameOk (t : TRef) : Prop := t.FName.length ≤ 1048576
theorem nameOk_of {t : TRef} (h : t.sz ≤ 1048576) : NameOk t := by have := t.sz_def; unfold Bs.sz at this; unfold NameOk; omega
theorem nameOk_zero : NameOk TRef.zero := by unfold NameOk; decide
theorem fnd_sz {d : TDoc} (hd : d.sz ≤ 1048576) (s : Bs) : (∀ f ∈ (fnd d.FDefs.l s).1.FFields.l, f.sz ≤ 1048576) ∧ ∀ i ∈ (fnd d.FDefs.l s).1.FInputs.l, i.sz ≤ 1048576 := by
 rcases fnd_mem d.FDefs.l s with e | e
 ·rw [e]; exact ⟨(fun f h => by cases h), (fun f h => by cases h)⟩
 ·have h1 := (fnd d.FDefs.l s).1.sz_def; have h2 := d.sz_def; have h3 := Sl.mem_le (f := TDef.sz) e
  exact ⟨fun f hf => by have := Sl.mem_le (f := TField.sz) hf; omega, fun f hf => by have := Sl.mem_le (f := TInput.sz) hf; omega⟩
theorem input_name {l : List TInput} (h : ∀ i ∈ l, i.sz ≤ 1048576) (s : Bs) : NameOk (fndI l s).1.FType := by
 unfold fndI
 cases e : l.find? (fun t => t.FName == s) with
 | none => exact nameOk_zero
 | some t =>
  have h1 := h _ (List.mem_of_find?_eq_some e); have h2 := t.sz_def
  exact nameOk_of (show t.FType.sz ≤ 1048576 by omega)
theorem field_name {l : List TField} (h : ∀ i ∈ l, i.sz ≤ 1048576) (s : Bs) : NameOk (fndF l s).1.FType ∧ ∀ i ∈ (fndF l s).1.FArgs.l, i.sz ≤ 1048576 := by
 unfold fndF
 cases e : l.find? (fun t => t.FName == s) with
 | none => exact ⟨nameOk_zero, fun i h => by cases h⟩
 | some t =>
  have h1 := h _ (List.mem_of_find?_eq_some e); have h2 := t.sz_def
  exact ⟨nameOk_of (show t.FType.sz ≤ 1048576 by omega), fun i (hi : i ∈ t.FArgs.l) => by have := Sl.mem_le (f := TInput.sz) hi; omega⟩
theorem inDef_sz {d : TDoc} (hd : d.sz ≤ 1048576) (s : Bs) : ∀ i ∈ (inDef d s).FInputs.l, i.sz ≤ 1048576 := by
 unfold inDef
 cases Z75_q s
 ·exact (fnd_sz hd s).2
 ·intro i h; cases h
theorem vals_short {d : TDoc} (hd : d.sz ≤ 1048576) : ∀ (n : Nat) (t : TRef) (v : TValue), NameOk t → v.sz ≤ 1048576 → Short (vals d n t v)
 | 0, _, _, _, _ => Short.nil
 | n + 1, t, v, ht, hv => by
  have h1 := v.sz_def
  have h2 : v.FText.length + 1 = Bs.sz v.FText := rfl
  rw [vals]
  cases decide (v.FKind = 5)
  ·rw [cond_false]
   cases decide (v.FKind = 4) && decide ((inDef d t.FName).FKind = 4)
   ·rw [cond_false]
    cases decide (v.FKind = 6) && decide ((inDef d t.FName).FKind = 5)
    ·exact Short.nil
    ·rw [cond_true]
     refine Short.flat fun p hp => ?_
     have := item_lt (zip_mem hp)
     cases (fndI (inDef d t.FName).FInputs.l p.1).2
     ·exact Short.nil
     ·exact vals_short hd n _ _ (input_name (inDef_sz hd _) _) (by omega)
   ·exact Short.use ht (by omega) (by decide)
  ·rw [cond_true]
   cases liW (barS t.FWraps).l
   ·exact Short.nil
   ·exact Short.flat fun x hx => vals_short hd n _ _ ht (by have := item_lt hx; omega)
theorem valU_short {d : TDoc} (hd : d.sz ≤ 1048576) {t : TRef} {v : TValue} (ht : NameOk t) (hv : v.sz ≤ 1048576) : Short (valU d t v) := vals_short hd _ t v ht hv
theorem argsU_short {d : TDoc} (hd : d.sz ≤ 1048576) {on_ name : Bs} (h1 : on_.length ≤ 1048576) (h2 : name.length ≤ 1048576) {defs : List TInput} (h3 : ∀ i ∈ defs, i.sz ≤ 1048576) {l : List TArg} (h4 : ∀ a ∈ l, a.sz ≤ 1048576) : Short (argsU d on_ name defs l) :=
 Short.flat fun a ha => by
  have h5 := h4 a ha; have h6 := a.sz_def; have h7 : a.FName.length + 1 = Bs.sz a.FName := rfl
  cases (fndI defs a.FName).2
  ·exact Short.nil
  ·exact Short.app (Short.use h1 h2 (by omega)) (valU_short hd (input_name h3 _) (by omega))
theorem fieldU_short {d : TDoc} (hd : d.sz ≤ 1048576) {on_ : Bs} (h1 : on_.length ≤ 1048576) {s : TSel} (hs : s.sz ≤ 1048576) : Short (fieldU d on_ s) := by
 have h2 := s.sz_def; have h3 : s.FName.length + 1 = Bs.sz s.FName := rfl
 exact Short.app (Short.use h1 (by omega) (by decide)) (argsU_short hd h1 (by omega) (field_name (fnd_sz hd on_).1 s.FName).2 fun a ha => by have := Sl.mem_le (f := TArg.sz) ha; omega)
theorem typeX_name {d : TDoc} (hd : d.sz ≤ 1048576) (a f : Bs) : (typeX d a f).1.FName.length ≤ 1048576 := by
 have h := (field_name (fnd_sz hd a).1 f).1
 unfold typeX
 cases Z70_q d a
 ·exact Nat.zero_le _
 ·simp only [Bool.not_true, cond_false]
  cases f == sTypename
  ·simp only [cond_false]
   cases (fndF (fnd d.FDefs.l a).1.FFields.l f).2
   ·exact Nat.zero_le _
   ·exact h
  ·show List.length [83, 116, 114, 105, 110, 103] ≤ 1048576
   decide
theorem selsU_short {d : TDoc} (hd : d.sz ≤ 1048576) : ∀ (n : Nat) (on_ : Bs) (l : List TSel), on_.length ≤ 1048576 → (∀ s ∈ l, s.sz ≤ 1048576) → Short (selsU d n on_ l)
 | 0, _, _, _, _ => Short.nil
 | n + 1, on_, l, h1, h2 => by
  rw [selsU]
  refine Short.flat fun s hs => ?_
  have h3 := h2 s hs; have h4 := s.sz_def; have h5 : s.FOn.length + 1 = Bs.sz s.FOn := rfl
  have hsub : ∀ x ∈ s.FSels.l, x.sz ≤ 1048576 := fun x hx => by have := Sl.mem_le (f := TSel.sz) hx; omega
  cases decide (s.FKind = 2)
  ·rw [cond_false]
   cases decide (s.FKind = 3)
   ·rw [cond_false]
    cases (typeX d on_ s.FName).2
    ·exact selsU_short hd n [] s.FSels.l (by decide) hsub
    ·exact Short.app (fieldU_short hd h1 h3) (selsU_short hd n _ s.FSels.l (typeX_name hd _ _) hsub)
   ·rw [cond_true]
    refine Short.app ?_ (selsU_short hd n _ s.FSels.l ?_ hsub)
    ·cases !(s.FOn == []) && Z70_q d s.FOn
     ·exact Short.nil
     ·exact Short.use (by omega) (by decide) (by decide)
    ·cases !(s.FOn == [])
     ·exact h1
     ·show s.FOn.length ≤ 1048576
      omega
  ·exact Short.nil
end Go.Proofs

namespace Go.Proofs
open Go Go.Ab
set_option maxRecDepth 100000 in
theorem knows48z : Z9 = some true := by kernel_rfl
noncomputable def fragU (d : TDoc) (q : TQuery) (s : Bs) : List TUse :=
 (bif Z70_q d (fndG q.FFrags.l s).1.FOn then [useU (fndG q.FFrags.l s).1.FOn [] []] else []) ++ selsU d F0 (fndG q.FFrags.l s).1.FOn (fndG q.FFrags.l s).1.FSels.l
noncomputable def varU (d : TDoc) (x : TVar) : List TUse := bif x.FHas then valU d x.FType x.FDefault else []
theorem comp_len (d : TDoc) (a : Bs) : (bif Z70_q d a then [useU a [] []] else []).length ≤ 1 := by cases Z70_q d a <;> simp
theorem fragU_len {q : TQuery} (hq : QOk q) (d : TDoc) (s : Bs) : (fragU d q s).length ≤ 1048577 := by
 have h1 := comp_len d (fndG q.FFrags.l s).1.FOn
 have h2 := selsU_len d F0 (fndG q.FFrags.l s).1.FOn (fndG q.FFrags.l s).1.FSels.l
 have h3 := fndG_sum hq s
 unfold fragU
 rw [List.length_append]
 omega
theorem frags_adds {d : TDoc} (hd : DefsOk d) {q : TQuery} (hq : QOk q) : ∀ (l : List Bs) (r : Usage_recorder), r.Fd = d → r.Fout.l.length + l.length * 1048577 ≤ bigU → Adds (Z92_q39 q l r) r (l.flatMap (fragU d q))
 | [], r, _, _ => by rw [Z92_q39]; exact Adds.nil r
 | s :: l, r, hr, hl => by
  rw [List.length_cons, Nat.succ_mul] at hl
  have h3 := fndG_sum hq s
  have hlen := fragU_len hq d s
  rw [Z92_q39, List.flatMap_cons]
  simp only [Ab.on, ffind_eq]
  have hc := comp_len d (fndG q.FFrags.l s).1.FOn
  have e0 : ∀ x : Usage_recorder, Z97_q x (fndG q.FFrags.l s).1.FSels (fndG q.FFrags.l s).1.FOn = Z97_qn F0 x (fndG q.FFrags.l s).1.FSels (fndG q.FFrags.l s).1.FOn := fun _ => rfl
  simp only [e0]
  have ha : Adds ((Z95_q r (fndG q.FFrags.l s).1.FOn).bind fun x51 => Z97_qn F0 x51 (fndG q.FFrags.l s).1.FSels (fndG q.FFrags.l s).1.FOn) r (fragU d q s) :=
   Adds.bind (cond_adds hr _ (by omega)) fun nl => sels_adds hd F0 _ _ _ (by rw [F0_eq]; omega) h3 hr (by simp only [List.length_append]; omega)
  have hb := Adds.bind (k := fun x52 => Z92_q39 q l x52) ha fun nl => frags_adds hd hq l _ hr (by simp only [List.length_append]; omega)
  rw [Option.bind_assoc] at hb
  exact hb
theorem vars_adds {d : TDoc} (hd : DefsOk d) : ∀ (l : List TVar) (r : Usage_recorder), (∀ x ∈ l, x.sz ≤ 1048576 ∧ SOk x.FType.FWraps) → r.Fd = d → r.Fout.l.length + (l.map TVar.sz).sum ≤ bigU → Adds (Z92_q24 l r) r (l.flatMap (varU d))
 | [], r, _, _, _ => by rw [Z92_q24]; exact Adds.nil r
 | x :: l, r, hx, hr, hl => by
  simp only [List.map_cons, List.sum_cons] at hl
  obtain ⟨h1, h2⟩ := hx x (by simp)
  have h3 := x.sz_def
  have hV := valU_len d x.FType x.FDefault
  rw [Z92_q24, List.flatMap_cons]
  simp only [Ab.on]
  unfold varU
  cases hh : x.FHas
  ·rw [cond_false, cond_false, Option.bind_some, List.nil_append]
   exact vars_adds hd l r (fun z hz => hx z (by simp [hz])) hr (by omega)
  ·rw [cond_true, cond_true]
   refine Adds.bind (value_top hd (by omega) h2 hr (by omega)).id fun nl => vars_adds hd l _ (fun z hz => hx z (by simp [hz])) hr (by simp only [List.length_append]; omega)
theorem fragU_none {d : TDoc} (h0 : Z70_q d [] = false) {q : TQuery} {s : Bs} (h : (fndG q.FFrags.l s).2 = false) : fragU d q s = [] := by
 unfold fragU
 rw [fndG_none h]
 show (bif Z70_q d [] then [useU [] [] []] else []) ++ selsU d F0 [] [] = []
 rw [h0, F0_eq, selsU]; rfl
theorem rfrags_is {d : TDoc} (hd : DefsOk d) (h0 : Z70_q d [] = false) {q : TQuery} (hq : QOk q) : ∀ (l : List Bs) (o : Sl TUse), o.l.length + l.length * 1048577 ≤ bigU → Is (Z60_q38 d q l o) (o.l ++ l.flatMap (fragU d q))
 | [], o, _ => ⟨o.nl, by rw [Z60_q38]; simp⟩
 | s :: l, o, hl => by
  rw [List.length_cons, Nat.succ_mul] at hl
  have h3 := fndG_sum hq s
  have hlen := fragU_len hq d s
  rw [Z60_q38, List.flatMap_cons]
  simp only [Ab.on, rfind_eq, known_eq]
  cases hf : (fndG q.FFrags.l s).2
  ·have hX : fragU d q s ++ l.flatMap (fragU d q) = l.flatMap (fragU d q) := by rw [fragU_none h0 hf]; exact List.nil_append _
   rw [hX, Bool.false_and, cond_false, Option.bind_some, cond_false, Option.bind_some]
   exact rfrags_is hd h0 hq l o (Nat.le_trans (Nat.add_le_add_left (Nat.le_add_right _ _) _) hl)
  ·rw [Bool.true_and]
   simp only [cond_true]
   have e0 : ∀ k, Z67_q d (fndG q.FFrags.l s).1.FSels k = Z67_qn F0 d (fndG q.FFrags.l s).1.FSels k := fun _ => rfl
   rw [e0]
   obtain ⟨nl, e⟩ := rsels_is hd h0 F0 (fndG q.FFrags.l s).1.FSels (fndG q.FFrags.l s).1.FOn (by rw [F0_eq]; omega) h3
   have h2 := selsU_len d F0 (fndG q.FFrags.l s).1.FOn (fndG q.FFrags.l s).1.FSels.l
   rw [e]
   cases hc : Z70_q d (fndG q.FFrags.l s).1.FOn
   ·have hb0 : (!(kn d (fndG q.FFrags.l s).1.FOn == ([] : Bs))) = false := by rw [kn_f hc]; rfl
    have hX : fragU d q s = selsU d F0 (fndG q.FFrags.l s).1.FOn (fndG q.FFrags.l s).1.FSels.l := by unfold fragU; rw [hc]; rfl
    have h5 : o.l.length + (selsU d F0 (fndG q.FFrags.l s).1.FOn (fndG q.FFrags.l s).1.FSels.l).length ≤ bigU := by omega
    rw [hb0, cond_false, Option.bind_some, Option.bind_some, appU h5, Option.bind_some, Option.bind_some]
    obtain ⟨nl2, e2⟩ := rfrags_is hd h0 hq l ⟨o.nl && (selsU d F0 (fndG q.FFrags.l s).1.FOn (fndG q.FFrags.l s).1.FSels.l).isEmpty, o.l ++ selsU d F0 (fndG q.FFrags.l s).1.FOn (fndG q.FFrags.l s).1.FSels.l⟩ (by rw [List.length_append]; omega)
    exact ⟨nl2, by rw [e2, hX]; simp only [List.append_assoc]⟩
   ·have hne : (fndG q.FFrags.l s).1.FOn ≠ [] := fun he => by rw [he, h0] at hc; cases hc
    have hb0 : (!(kn d (fndG q.FFrags.l s).1.FOn == ([] : Bs))) = true := by rw [kn_t hc]; simp [hne]
    have hX : fragU d q s = [useU (fndG q.FFrags.l s).1.FOn [] []] ++ selsU d F0 (fndG q.FFrags.l s).1.FOn (fndG q.FFrags.l s).1.FSels.l := by unfold fragU; rw [hc]; rfl
    have hk : Z68_q (kn d (fndG q.FFrags.l s).1.FOn) [] [] = useU (fndG q.FFrags.l s).1.FOn [] [] := by rw [kn_t hc]; rfl
    rw [hX, List.length_append, List.length_singleton] at hlen
    have h4 : o.l.length + [useU (fndG q.FFrags.l s).1.FOn [] []].length ≤ bigU := by rw [List.length_singleton]; omega
    have h5 : (o.l ++ [useU (fndG q.FFrags.l s).1.FOn [] []]).length + (selsU d F0 (fndG q.FFrags.l s).1.FOn (fndG q.FFrags.l s).1.FSels.l).length ≤ bigU := by rw [List.length_append, List.length_singleton]; omega
    rw [hb0, cond_true, hk, appU h4, Option.bind_some, Option.bind_some, Option.bind_some, appU h5, Option.bind_some, Option.bind_some]
    obtain ⟨nl2, e2⟩ := rfrags_is hd h0 hq l ⟨(o.nl && List.isEmpty [useU (fndG q.FFrags.l s).1.FOn [] []]) && (selsU d F0 (fndG q.FFrags.l s).1.FOn (fndG q.FFrags.l s).1.FSels.l).isEmpty, (o.l ++ [useU (fndG q.FFrags.l s).1.FOn [] []]) ++ selsU d F0 (fndG q.FFrags.l s).1.FOn (fndG q.FFrags.l s).1.FSels.l⟩ (by rw [List.length_append, List.length_append, List.length_singleton]; omega)
    exact ⟨nl2, by rw [e2, hX]; simp only [List.append_assoc]⟩
theorem rvars_is {d : TDoc} (hd : DefsOk d) : ∀ (l : List TVar) (o : Sl TUse), (∀ x ∈ l, x.sz ≤ 1048576 ∧ SOk x.FType.FWraps) → o.l.length + (l.map TVar.sz).sum ≤ bigU → Is (Z60_q21 d l o) (o.l ++ l.flatMap (varU d))
 | [], o, _, _ => ⟨o.nl, by rw [Z60_q21]; simp⟩
 | x :: l, o, hx, hl => by
  simp only [List.map_cons, List.sum_cons] at hl
  obtain ⟨h1, h2⟩ := hx x (by simp)
  have h3 := x.sz_def
  have hV := valU_len d x.FType x.FDefault
  rw [Z60_q21, List.flatMap_cons]
  simp only [Ab.on]
  cases hh : x.FHas
  ·have hX : varU d x = [] := by unfold varU; rw [hh]; rfl
   rw [hX, cond_false, Option.bind_some, List.nil_append]
   exact rvars_is hd l o (fun z hz => hx z (by simp [hz])) (by omega)
  ·have hX : varU d x = valU d x.FType x.FDefault := by unfold varU; rw [hh]; rfl
   obtain ⟨nl, e⟩ := values_top hd (v := x.FDefault) (t := x.FType) (by omega) h2
   have h5 : o.l.length + (valU d x.FType x.FDefault).length ≤ bigU := by omega
   rw [hX, cond_true, e, Option.bind_some, appU h5, Option.bind_some, Option.bind_some]
   obtain ⟨nl2, e2⟩ := rvars_is hd l ⟨o.nl && (valU d x.FType x.FDefault).isEmpty, o.l ++ valU d x.FType x.FDefault⟩ (fun z hz => hx z (by simp [hz])) (by rw [List.length_append]; omega)
   exact ⟨nl2, by rw [e2]; simp only [List.append_assoc]⟩
theorem fragU_short {d : TDoc} (hd : d.sz ≤ 1048576) {q : TQuery} (hq : q.sz ≤ 1048576) (s : Bs) : Short (fragU d q s) := by
 have h : (fndG q.FFrags.l s).1.FOn.length ≤ 1048576 ∧ ∀ x ∈ (fndG q.FFrags.l s).1.FSels.l, x.sz ≤ 1048576 := by
  cases hf : (fndG q.FFrags.l s).2
  ·rw [fndG_none hf]; exact ⟨by decide, fun x h => by cases h⟩
  ·have hm := TQuery.frag_le (fndG_name hf).2
   have h1 := (fndG q.FFrags.l s).1.sz_def
   have h2 : (fndG q.FFrags.l s).1.FOn.length + 1 = Bs.sz (fndG q.FFrags.l s).1.FOn := rfl
   exact ⟨by omega, fun x hx => by have := Sl.mem_le (f := TSel.sz) hx; omega⟩
 refine Short.app ?_ (selsU_short hd _ _ _ h.1 h.2)
 cases Z70_q d (fndG q.FFrags.l s).1.FOn
 ·exact Short.nil
 ·exact Short.use h.1 (by decide) (by decide)
theorem varU_short {d : TDoc} (hd : d.sz ≤ 1048576) {x : TVar} (hx : x.sz ≤ 1048576) : Short (varU d x) := by
 have h := x.sz_def
 unfold varU
 cases x.FHas
 ·exact Short.nil
 ·exact valU_short hd (nameOk_of (by omega)) (by omega)
theorem root_len (k : Int) : (Z74_q k).length ≤ 1048576 := by
 unfold Z74_q
 cases decide (k = (1 : Int)) <;> cases decide (k = (2 : Int)) <;> cases decide (k = (3 : Int)) <;> simp
theorem root_eq (k : Int) : Z52_q k = Z74_q k := rfl
noncomputable def ofU (d : TDoc) (q : TQuery) (o : TOp) (s : Sl Bs) : List TUse := (selsU d F0 (Z74_q o.FKind) o.FSels.l ++ s.l.flatMap (fragU d q)) ++ o.FVars.l.flatMap (varU d)
theorem flat_len {α β : Type} {f : α → List β} {n : Nat} (h : ∀ x, (f x).length ≤ n) (l : List α) : (l.flatMap f).length ≤ l.length * n := by
 induction l with
 | nil => simp
 | cons a r ih => have := h a; rw [List.flatMap_cons, List.length_append, List.length_cons, Nat.succ_mul]; omega
theorem of_same {d : TDoc} (hds : d.sz ≤ 1048576) (hdw : d.wf) {q : TQuery} (hqs : q.sz ≤ 1048576) (hqw : q.wf) (h0 : Z70_q d [] = false) (i : Int) : ∃ a n1 n2, Z92_q d q i = some ⟨n1, a⟩ ∧ Z60_q d q i = some ⟨n2, a⟩ := by
 have hd := defsOk hds hdw
 have hl := q.lens
 have hq : QOk q := ⟨by omega, fun f hf => by
  have h1 := TQuery.frag_le hf; have h2 := f.sz_def
  have h3 : (f.FSels.l.map TSel.sz).sum + 1 = Sl.sz TSel.sz f.FSels := by unfold Sl.sz; omega
  omega⟩
 unfold Z92_q Z60_q
 cases hc : (decide (i < (0 : Int))) || (decide (((q.FOps.l.length : Nat) : Int) ≤ i))
 ·simp only [Bool.or_eq_false_iff, decide_eq_false_iff_not] at hc
  obtain ⟨n, rfl⟩ : ∃ n : Nat, i = (n : Int) := ⟨i.toNat, by omega⟩
  have hn : n < q.FOps.l.length := by omega
  have hi : idxC q.FOps.l ((n : Nat) : Int) = some q.FOps.l[n] := by unfold idxC; rw [if_pos (by omega), Int.toNat_natCast, List.getElem?_eq_getElem hn]
  have hm : q.FOps.l[n] ∈ q.FOps.l := List.getElem_mem hn
  generalize q.FOps.l[n] = o at hi hm
  have ho := TQuery.op_le hm; have hos := o.sz_def
  have how : o.wf := (TQuery.FOps_wf hqw).2.2 o hm
  have hsel : (o.FSels.l.map TSel.sz).sum + 1 = Sl.sz TSel.sz o.FSels := by unfold Sl.sz; omega
  have hvar : (o.FVars.l.map TVar.sz).sum + 1 = Sl.sz TVar.sz o.FVars := by unfold Sl.sz; omega
  have hvs : ∀ x ∈ o.FVars.l, x.sz ≤ 1048576 ∧ SOk x.FType.FWraps := fun x hx => by
   have h1 := Sl.mem_le (f := TVar.sz) hx; have h2 := x.sz_def
   exact ⟨by omega, TRef.sok (by omega) (TVar.FType_wf ((TOp.FVars_wf how).2.2 x hx))⟩
  have hB : bigU = 2400000000000 := rfl
  obtain ⟨s, b1, b2, r1, r2, hs⟩ := reach_tot hq o.FSels (by omega)
  have hS := selsU_len d F0 (Z74_q o.FKind) o.FSels.l
  have hF := flat_len (fragU_len hq d) s.l
  have hF2 : s.l.length * 1048577 ≤ 1048576 * 1048577 := Nat.mul_le_mul_right _ hs
  have hV : (o.FVars.l.flatMap (varU d)).length ≤ (o.FVars.l.map TVar.sz).sum := flatMap_le' fun x _ => by
   have h1 := x.sz_def; have h2 := valU_len d x.FType x.FDefault
   unfold varU; cases x.FHas
   ·simp
   ·rw [cond_true]; omega
  obtain ⟨m1, e1, g1⟩ := sels_adds hd F0 o.FSels (Z74_q o.FKind) ⟨d, q, Sl.nil⟩ (by rw [F0_eq]; omega) (by omega) rfl (by simp only [Sl.nil, List.length_nil]; omega)
  obtain ⟨m2, e2, g2⟩ := frags_adds hd hq s.l ⟨d, q, ⟨m1, Sl.nil.l ++ selsU d F0 (Z74_q o.FKind) o.FSels.l⟩⟩ rfl (by simp only [Sl.nil, List.nil_append]; omega)
  obtain ⟨m3, e3, g3⟩ := vars_adds hd o.FVars.l ⟨d, q, ⟨m2, (Sl.nil.l ++ selsU d F0 (Z74_q o.FKind) o.FSels.l) ++ s.l.flatMap (fragU d q)⟩⟩ hvs rfl (by simp only [Sl.nil, List.nil_append, List.length_append]; omega)
  have hX : (Sl.nil.l ++ selsU d F0 (Z74_q o.FKind) o.FSels.l) ++ s.l.flatMap (fragU d q) ++ o.FVars.l.flatMap (varU d) = ofU d q o s := rfl
  have hXl : (ofU d q o s).length ≤ bigU := by unfold ofU; rw [List.length_append, List.length_append]; omega
  have hsh : Short (ofU d q o s) := Short.app (Short.app (selsU_short hds _ _ _ (root_len _) fun x hx => by have := Sl.mem_le (f := TSel.sz) hx; omega) (Short.flat fun x _ => fragU_short hds hqs x)) (Short.flat fun x hx => varU_short hds (hvs x hx).1)
  obtain ⟨n1, u1⟩ := usort_eq ⟨m3, ofU d q o s⟩ hXl (fun h => by
   obtain ⟨a1, a2⟩ := g3 h
   obtain ⟨a3, a4⟩ := g2 a1
   obtain ⟨a5, a6⟩ := g1 a3
   rw [← hX, a2, a4, a6]; rfl) hsh.good
  obtain ⟨k1, f1⟩ := rsels_is hd h0 F0 o.FSels (Z74_q o.FKind) (by rw [F0_eq]; omega) (by omega)
  obtain ⟨k2, f2⟩ := rfrags_is hd h0 hq s.l ⟨k1, selsU d F0 (Z74_q o.FKind) o.FSels.l⟩ (by simp only; omega)
  obtain ⟨k3, f3⟩ := rvars_is hd o.FVars.l ⟨k2, selsU d F0 (Z74_q o.FKind) o.FSels.l ++ s.l.flatMap (fragU d q)⟩ hvs (by simp only [List.length_append]; omega)
  obtain ⟨n2, u2⟩ := rsort_eq ⟨k3, ofU d q o s⟩ hXl
  refine ⟨sumU (ofU d q o s), n1, n2, ?_, ?_⟩
  ·have e1' : Z97_q ⟨d, q, Sl.nil⟩ o.FSels (Z74_q o.FKind) = _ := e1
   rw [cond_false, hi, Option.bind_some]
   simp only [Ab.on]
   rw [e1', Option.bind_some, r1, Option.bind_some, e2, Option.bind_some, e3, Option.bind_some, hX, u1]
   rfl
  ·have f1' : Z67_q d o.FSels (kn d (Z74_q o.FKind)) = _ := f1
   rw [cond_false, hi, Option.bind_some]
   simp only [Ab.on, root_eq, known_eq]
   rw [f1', Option.bind_some, r2, Option.bind_some, f2, Option.bind_some, f3, Option.bind_some]
   have : (⟨k3, (selsU d F0 (Z74_q o.FKind) o.FSels.l ++ s.l.flatMap (fragU d q)) ++ o.FVars.l.flatMap (varU d)⟩ : Sl TUse) = ⟨k3, ofU d q o s⟩ := rfl
   rw [this, u2]
   rfl
 ·exact ⟨[], true, true, rfl, rfl⟩
theorem right48_ok (d : TDoc) (q : TQuery) (hd : d.sz ≤ 1048576) (hq : q.sz ≤ 1048576) : Ok (Z10_q d q) := by
 unfold Z10_q
 have h1 := Z51_ok d hd; have h2 := Z38_ok q hq; have h3 := Z30_ok d hd; have h4 := Z39_ok q hq
 (repeat' (first | exact Tot.some _ | assumption | (with_reducible refine Tot.bind ?_ fun _ _ => ?_) | (with_reducible refine Tot.guard (fun _ => ?_) fun _ _ _ => ?_) | (with_reducible refine Tot.cond (fun _ => ?_) fun _ => ?_) | (with_reducible refine Tot.on fun _ _ => ?_) | split))
theorem usageOf_eq (d : TDoc) (q : TQuery) (i : Int) (hd : d.sz ≤ 1048576) (hw : d.wf) (hq : q.sz ≤ 1048576) (hqw : q.wf) : Z8 d q i = some true := by
 rw [Z8_eq]
 unfold Z8_q
 obtain ⟨b, hb⟩ := right48_ok d q hd hq
 rw [hb, Option.bind_some, knows48z]
 cases b with
 | false => rfl
 | true =>
  simp only [Bool.not_true, cond_false]
  have hr : Z30_q d = some true := by
   unfold Z10_q at hb
   obtain ⟨x3, g3, h⟩ := bindO_some hb
   obtain ⟨x4, g4, h⟩ := guardO_some h
   obtain ⟨x5, g5, h⟩ := guardO_some h
   obtain ⟨x6, g6, h⟩ := guardO_some h
   simp only [Option.some.injEq, Bool.and_eq_true] at h
   have h5 := g5 (by rw [Bool.and_eq_true]; exact h.1.1)
   rw [h.1.2] at h5
   exact h5
  obtain ⟨a, n1, n2, e1, e2⟩ := of_same hd hw hq hqw (empty_not hr) i
  rw [e1, Option.bind_some, e2, Option.bind_some, same_eq, Option.bind_some]
  rfl
end Go.Proofs

namespace Go.Proofs.YtnbbdamkdkhjkaaGreat
open Go Go.Ab Go.RowKit Go.ChangeShapes Go.WideShapes Go.ChangeAt
theorem bulkAll {H : Type} (l : List (DataW H)) : Rows.uptoBulkAll l = (l.map Rows.uptoBulk).sum := by
 induction l with
 | nil => rfl
 | cons x r ih => simp only [Rows.uptoBulkAll, List.map_cons, List.sum_cons, ih]
theorem bulkB {H : Type} : Bulk (H := H) Rows.uptoBulk := by
 refine ⟨fun d => ?_, fun b => by simp [Rows.uptoBulk], fun e s => by simp only [Rows.uptoBulk, bulkAll]; omega, fun l => by simp only [Rows.uptoBulk, bulkAll]; omega⟩
 cases d with
 | lit l => cases l <;> simp [Rows.uptoBulk]
 | nil => simp [Rows.uptoBulk]
 | ptr d => simp [Rows.uptoBulk]
 | slice elems spare => simp [Rows.uptoBulk]
 | agg parts => simp [Rows.uptoBulk]
 | iface t d => simp [Rows.uptoBulk]
 | map entries => simp [Rows.uptoBulk]
 | held h => simp [Rows.uptoBulk]
theorem own : ownKnob Tryz.prog.godebug = none := by kernel_rfl
theorem laid : laidOutB Tryz.prog = true := by kernel_rfl
theorem bound {H : Type} {l : List (DataW H)} (hk : Rows.uptoSmall H l = true) : Rows.uptoBulkAll l ≤ 1048576 := of_decide_eq_true hk
theorem usageOf_call (d : TDoc) (q : TQuery) (i : Int) (hd : d.sz ≤ 1048576) (hw : d.wf) (hq : q.sz ≤ 1048576) (hqw : q.wf) (H : Heap) : ACalls Tryz.prog 3 [.agg d.c, .agg q.c, .d (.int .i64 i)] H fun r h' => r = .a (.d (.bool true)) ∧ h' = H :=
 Z8_walk (usageOf_eq d q i hd hw hq hqw) H
end Go.Proofs.YtnbbdamkdkhjkaaGreat

