import Derived.Test.YtjghdpblmakljaaGreatV12
import Derived.Test.YtjghdpblmakljaaGreatRows
set_option maxRecDepth 100000
set_option maxHeartbeats 2000000
set_option linter.unusedVariables false
set_option linter.unusedSimpArgs false
namespace Go.Proofs
open Go Go.Ab
theorem known_is (d : TDoc) (a : Bs) : Z76_q d a = bif Z82_q d a then a else [] := by
 unfold Z76_q on; rw [r10_composite_eq]
theorem rtype_is {d : TDoc} (hE : Z82_q d [] = false) (on_ f : Bs) : ∃ x, Z69_q d (Z76_q d on_) f = some (x, (typeX d on_ f).2) ∧ ((typeX d on_ f).2 = true → RefEq (typeX d on_ f).1 x) := by
 have hs : Z33_q ⟨[83, 116, 114, 105, 110, 103], Sl.nil⟩ = some ⟨[83, 116, 114, 105, 110, 103], ⟨false, [1]⟩⟩ := by kernel_rfl
 unfold Z69_q typeX
 rw [known_is]
 simp only [on, r10_composite_eq, r10_find_eq, r10_fieldOf_eq, Z32_q]
 cases hc : Z82_q d on_ with
 | false =>
  simp only [cond_false, hE, Bool.not_false, cond_true]
  exact ⟨_, rfl, fun h => by cases h⟩
 | true =>
  simp only [cond_true, hc, Bool.not_true, cond_false]
  rw [show (f == ([95, 95, 116, 121, 112, 101, 110, 97, 109, 101] : Bs)) = (f == sTypename) from rfl]
  cases f == sTypename with
  | true => simp only [cond_true]; rw [hs]; exact ⟨_, rfl, fun _ => ⟨rfl, rfl⟩⟩
  | false =>
   simp only [cond_false]
   cases hf : (fndF (fnd d.FDefs.l on_).1.FFields.l f).2 with
   | false => exact ⟨_, rfl, fun h => by cases h⟩
   | true => exact ⟨_, rfl, fun _ => ⟨rfl, rfl⟩⟩
theorem reserved_is (a : Bs) : Z20_q a = some (Z103_q a) := by
 unfold Z20_q Z103_q Z102_q Z14_q on
 match a with
 | [] => rfl
 | [x] => rfl
 | x :: y :: r =>
  have e : decide ((2 : Int) ≤ (((x :: y :: r).length : Nat) : Int)) = true := by simp; omega
  have e2 : decide (((([95, 95] : Bs).length : Nat) : Int) ≤ (((x :: y :: r).length : Nat) : Int)) = true := by simp; omega
  have c : ∀ z : UInt8, decide (((z.toNat : Nat) : Int) = 95) = (z == 95) := fun z => by
   rw [show (z == 95) = decide (z = 95) from rfl]
   congr 1
   apply propext
   constructor
   ·intro h; apply UInt8.toNat_inj.1; simp at h ⊢; omega
   ·intro h; subst h; rfl
  have hl : (2 : Int) ≤ (r.length : Nat) + 1 + 1 := by omega
  have hx2 : ¬ x = 95 → (x == 95) = false := fun h => by simpa using h
  simp only [guardO, e, e2, if_true, Option.bind_some, List.getElem?_cons_zero, List.getElem?_cons_succ, c, Bool.true_and, cond_true, List.length_cons, List.length_nil, List.take_succ_cons, List.take_zero]
  by_cases hx : x = 95
  ·subst hx
   by_cases hy : y = 95
   ·subst hy; simp [hl]
   ·simp [hl, hy]
  ·simp [hl, hx]
theorem reserved_step {β : Type} (s : TSel) (a : Bs) (K : Sl TFault → Option β) : ∃ nl, (guardO ((!(s.FAlias == ([] : Bs)))) (Z20_q s.FAlias) false fun x42 => Option.bind (bif ((!(s.FAlias == ([] : Bs))) && x42) then ((appC 24 (Sl.nil : Sl TFault) (⟨false, [(TFault.mk (6 : Int) a)]⟩ : Sl TFault)).bind fun x44 => some x44) else (some (Sl.nil : Sl TFault))) K) = K ⟨nl, flt (Z103_q s.FAlias) 6 a⟩ := by
 rw [reserved_is]
 cases h : s.FAlias == [] with
 | true =>
  have e : s.FAlias = [] := eq_of_beq h
  rw [e]
  exact ⟨true, rfl⟩
 | false =>
  simp only [guardO, Bool.not_false, if_true, Option.bind_some, Bool.true_and]
  cases Z103_q s.FAlias with
  | false => exact ⟨true, rfl⟩
  | true =>
   simp only [cond_true]
   rw [appC_ok32 (by omega) (by simp [Sl.nil])]
   exact ⟨_, rfl⟩
theorem flt_app {β : Type} (b : Bool) (e : Int) (a : Bs) (out : Sl TFault) (hb : out.l.length + 1 ≤ 4398046511104) (K : Sl TFault → Option β) : ∃ nl, (Option.bind (bif b then ((appC 24 out (⟨false, [(TFault.mk e a)]⟩ : Sl TFault)).bind fun x => some x) else (some out)) K) = K ⟨nl, out.l ++ flt b e a⟩ := by
 cases b with
 | false => exact ⟨out.nl, by simp [flt]⟩
 | true =>
  simp only [cond_true]
  rw [appC_ok32 (by omega) (by simp only [List.length_cons, List.length_nil]; omega)]
  exact ⟨_, rfl⟩
theorem rfield_is {d : TDoc} (hd : DefsOk d) (hE : Z82_q d [] = false) (s : TSel) (hs : s.sz ≤ 1048576) (hw : ArgsW s.FArgs.l) (hwd : ∀ x ∈ s.FDirs.l, ArgsW x.FArgs.l) (on_ a : Bs) :
  ∃ nl, Z73_q d s (Z76_q d on_) a = some (⟨nl, ownX d s on_ a⟩, Z76_q d (typeX d on_ s.FName).1.FName) := by
 have hle := ownX_le hd s on_ a
 have hsz := s.sz_def
 have hsd : Sl.sz TDir.sz s.FDirs = 1 + (s.FDirs.l.map TDir.sz).sum := rfl
 have hsa := Sl.len_lt (f := TArg.sz) s.FArgs TArg.pos
 have h6 := flt_le (Z103_q s.FAlias) 6 a
 unfold Z73_q
 obtain ⟨nl1, e1⟩ := reserved_step s a (fun s10_4 => (Z69_q d (Z76_q d on_) s.FName).bind fun x6 => bif (!x6.2) then (Option.bind (bif (!(Z76_q d on_ == ([] : Bs))) then ((appC 24 s10_4 (⟨false, [(TFault.mk (20 : Int) a)]⟩ : Sl TFault)).bind fun x17 => some x17) else (some s10_4)) fun s10_11 => (Z72_q d s true a).bind fun x13 => (appC 24 s10_11 x13).bind fun x14 => some (x14, ([] : Bs))) else (on (Z64_q d x6.1.FName) fun x37 => on (bif !(x37 && (decide ((0 : Int) < ((s.FSels.l.length : Nat) : Int)))) then Z57_q d x6.1.FName else false) fun x38 => Option.bind (bif ((x37 && (decide ((0 : Int) < ((s.FSels.l.length : Nat) : Int)))) || (x38 && (decide (((s.FSels.l.length : Nat) : Int) = (0 : Int))))) then ((appC 24 s10_4 (⟨false, [(TFault.mk (21 : Int) a)]⟩ : Sl TFault)).bind fun x40 => some x40) else (some s10_4)) fun s10_19 => on (Z60_q d (Z76_q d on_)) fun x21 => on (Z59_q x21.1 s.FName) fun x23 => on (bif ((s.FName == ([95, 95, 116, 121, 112, 101, 110, 97, 109, 101] : Bs))) then ((TField.mk ([] : Bs) (Sl.nil : Sl TInput) TRef.zero (Sl.nil : Sl TDir))) else (x23.1)) fun y25_l0 => (Z71_q d y25_l0.FArgs s.FArgs false a).bind fun x27 => (appC 24 s10_19 x27).bind fun x28 => (Z30_q x6.1).bind fun x30 => (Z72_q d s x30 a).bind fun x31 => (appC 24 x28 x31).bind fun x32 => on (Z76_q d x6.1.FName) fun x33 => some (x32, x33)))
 rw [e1]
 obtain ⟨x, e2, e3⟩ := rtype_is hE on_ s.FName
 rw [e2, Option.bind_some]
 unfold ownX at hle ⊢
 cases hf : (typeX d on_ s.FName).2 with
 | false =>
  simp only [hf, Bool.not_false, cond_true, cond_false, Bool.true_and, List.nil_append, List.length_append] at hle ⊢
  have hz : (typeX d on_ s.FName).1.FName = [] := by
   unfold typeX at hf ⊢
   cases hc : Z82_q d on_ with
   | false => rfl
   | true =>
    simp only [hc, Bool.not_true, cond_false] at hf ⊢
    cases hg : s.FName == sTypename with
    | true => simp [hg] at hf
    | false =>
     simp only [hg, cond_false] at hf ⊢
     cases hh : (fndF (fnd d.FDefs.l on_).1.FFields.l s.FName).2 with
     | false => rfl
     | true => simp [hh] at hf
  have hc : (!(Z76_q d on_ == ([] : Bs))) = Z82_q d on_ := by
   rw [known_is]
   cases hc : Z82_q d on_ with
   | false => rfl
   | true =>
    have : on_ ≠ [] := fun e => by rw [e, hE] at hc; cases hc
    simp [this]
  rw [hc]
  obtain ⟨nl2, e4⟩ := flt_app (Z82_q d on_) 20 a ⟨nl1, flt (Z103_q s.FAlias) 6 a⟩ (by simp only; omega) (fun s10_11 => (Z72_q d s true a).bind fun x13 => (appC 24 s10_11 x13).bind fun x14 => some (x14, ([] : Bs)))
  rw [e4]
  obtain ⟨nl3, e5⟩ := rdirs_is hd s hs hwd (typeX d on_ s.FName).1 false a
  rw [show (bif false then liW (barS (typeX d on_ s.FName).1.FWraps).l else true) = true from rfl] at e5
  rw [e5, Option.bind_some, appC_ok32 (by omega) (by simp only [List.length_append]; omega), Option.bind_some, hz, known_is, hE]
  exact ⟨_, by simp only [List.append_assoc]; rfl⟩
 | true =>
  have hr := e3 hf
  have hC : Z82_q d on_ = true := by
   cases hc : Z82_q d on_ with
   | true => rfl
   | false => unfold typeX at hf; simp [hc] at hf
  have hk : Z76_q d on_ = on_ := by rw [known_is, hC]; rfl
  have hxl : x.FWraps.l.length ≤ 1048576 := by rw [← hr.2]; exact (typeX_ok hd on_ s.FName).2
  simp only [hf, hk, Bool.not_true, cond_false, cond_true, Bool.false_and, on, r10_leaf_eq, r10_composite_eq, r10_find_eq, r10_fieldOf_eq, ← hr.1, List.length_append] at hle ⊢
  have h21 : (leafX d s (typeX d on_ s.FName).1 a).length ≤ 1 := flt_le _ _ _
  obtain ⟨nl2, e4⟩ := flt_app ((Z87_q d (typeX d on_ s.FName).1.FName && decide ((0 : Int) < ((s.FSels.l.length : Nat) : Int))) || ((bif !(Z87_q d (typeX d on_ s.FName).1.FName && decide ((0 : Int) < ((s.FSels.l.length : Nat) : Int))) then Z82_q d (typeX d on_ s.FName).1.FName else false) && decide (((s.FSels.l.length : Nat) : Int) = 0))) 21 a ⟨nl1, flt (Z103_q s.FAlias) 6 a⟩ (by simp only; omega) (fun s10_19 => (Z71_q d (bif ((s.FName == ([95, 95, 116, 121, 112, 101, 110, 97, 109, 101] : Bs))) then ((TField.mk ([] : Bs) (Sl.nil : Sl TInput) TRef.zero (Sl.nil : Sl TDir))) else (fndF (fnd d.FDefs.l on_).1.FFields.l s.FName).1).FArgs s.FArgs false a).bind fun x27 => (appC 24 s10_19 x27).bind fun x28 => (Z30_q x).bind fun x30 => (Z72_q d s x30 a).bind fun x31 => (appC 24 x28 x31).bind fun x32 => some (x32, Z76_q d (typeX d on_ s.FName).1.FName))
  rw [e4]
  have hDf : (bif ((s.FName == ([95, 95, 116, 121, 112, 101, 110, 97, 109, 101] : Bs))) then ((TField.mk ([] : Bs) (Sl.nil : Sl TInput) TRef.zero (Sl.nil : Sl TDir))) else (fndF (fnd d.FDefs.l on_).1.FFields.l s.FName).1) = defX d s on_ := by
   unfold defX
   rw [show (s.FName == ([95, 95, 116, 121, 112, 101, 110, 97, 109, 101] : Bs)) = (s.FName == sTypename) from rfl]
   cases s.FName == sTypename <;> rfl
  have hdx := defX_ok hd s on_
  have hdir := TSel.dir_le hs
  obtain ⟨nl3, e5⟩ := args_is hd (defX d s on_).FArgs hdx.2 hdx.1 s.FArgs false a hdir.2 (by omega) hw
  obtain ⟨nl4, e6⟩ := rdirs_is hd s hs hwd (typeX d on_ s.FName).1 true a
  rw [show (bif true then liW (barS (typeX d on_ s.FName).1.FWraps).l else true) = liW (barS x.FWraps).l by rw [hr.bar]; rfl] at e6
  rw [hDf, e5, Option.bind_some, appC_ok32 (by omega) (by simp only [List.length_append]; unfold leafX at hle; omega), Option.bind_some, r05_isList_eq hxl, Option.bind_some, e6, Option.bind_some, appC_ok32 (by omega) (by simp only [List.length_append]; unfold leafX at hle; omega), Option.bind_some]
  exact ⟨_, by simp only [List.append_assoc, leafX, flt, List.nil_append]; rfl⟩
end Go.Proofs

namespace Go.Proofs
open Go Go.Ab
theorem key_same (s : TSel) : Z68_q s = keyX s := by
 unfold Z68_q keyX; cases s.FAlias == [] <;> rfl
theorem rsels_loop {d : TDoc} (hd : DefsOk d) (hE : Z82_q d [] = false) (on_ a : Bs) (k : TDoc → Sl TSel → Bs → Bs → Option (Sl TFault)) (X : List TSel → Bs → Bs → List TFault) (l : List TSel) (out : Sl TFault)
  (hs : ∀ s ∈ l, s.sz ≤ 1048576) (hW : ∀ s ∈ l, ArgsW s.FArgs.l ∧ ∀ x ∈ s.FDirs.l, ArgsW x.FArgs.l) (ha : ∀ s ∈ l, a.length + s.sz ≤ 1073741824)
  (hk : ∀ s ∈ l, ∀ on2 a2, a2.length + Sl.sz TSel.sz s.FSels ≤ 1073741824 → Is (k d s.FSels (Z76_q d on2) a2) (X s.FSels.l on2 a2)) (hX : ∀ (l : List TSel) on2 a2, (X l on2 a2).length ≤ (l.map TSel.sz).sum * 2097152) (hb : out.l.length + (l.map TSel.sz).sum * 2097152 ≤ 4398046511104) :
  Is (Z80_q7 d (Z76_q d on_) a k l out) (out.l ++ l.flatMap (selX X d on_ a)) := by
 induction l generalizing out with
 | nil => exact ⟨out.nl, by simp [Z80_q7]⟩
 | cons s r ih =>
  have h1 := hs s List.mem_cons_self; have h2 := hW s List.mem_cons_self; have h3 := ha s List.mem_cons_self; have h4 := hk s List.mem_cons_self
  have ih := fun out => ih out (fun y hy => hs y (List.mem_cons_of_mem _ hy)) (fun y hy => hW y (List.mem_cons_of_mem _ hy)) (fun y hy => ha y (List.mem_cons_of_mem _ hy)) (fun y hy => hk y (List.mem_cons_of_mem _ hy))
  have hle := selX_le hd X on_ a s (hX _)
  simp only [List.map_cons, List.sum_cons] at hb
  have key : Is (bif (decide (s.FKind = (2 : Int))) then ((Z72_q d s true a).bind fun x21 => (appC 24 out x21).bind fun x22 => some x22) else (bif (decide (s.FKind = (3 : Int))) then ((Z72_q d s true a).bind fun x26 => (appC 24 out x26).bind fun x27 => on (bif (!(s.FOn == ([] : Bs))) then (on (Z76_q d s.FOn) fun x35 => x35) else (Z76_q d on_)) fun s12_30 => (k d s.FSels s12_30 a).bind fun x31 => (appC 24 x27 x31).bind fun x32 => some x32) else ((catC a ([47] : Bs)).bind fun x37 => on (Z68_q s) fun x38 => (catC x37 x38).bind fun x39 => (Z73_q d s (Z76_q d on_) x39).bind fun x41 => (appC 24 out x41.1).bind fun x43 => (k d s.FSels x41.2 x39).bind fun x44 => (appC 24 x43 x44).bind fun x45 => some x45))) (out.l ++ selX X d on_ a s) := by
   simp only [Q.some_bind, on]
   unfold selX at hle ⊢
   have hD := rdirs_is hd s h1 h2.2 ⟨[], Sl.nil⟩ false a
   rw [show (bif false then liW (barS (TRef.mk [] Sl.nil).FWraps).l else true) = true from rfl] at hD
   obtain ⟨nl1, e1⟩ := hD
   cases hk2 : decide (s.FKind = 2) with
   | true =>
    simp only [hk2, cond_true] at hle ⊢
    rw [e1, Option.bind_some]
    exact app_is (by simp only; omega)
   | false =>
    cases hk3 : decide (s.FKind = 3) with
    | true =>
     simp only [hk2, hk3, cond_true, cond_false, List.length_append] at hle ⊢
     have eo : (bif (!(s.FOn == ([] : Bs))) then Z76_q d s.FOn else Z76_q d on_) = Z76_q d (bif !(s.FOn == []) then s.FOn else on_) := by cases s.FOn == [] <;> rfl
     obtain ⟨nl2, e2⟩ := h4 (bif !(s.FOn == []) then s.FOn else on_) a (by have := s.sub_lt; omega)
     rw [e1, Option.bind_some, appC_ok32 (by omega) (by simp only; omega), Option.bind_some, eo, e2, Option.bind_some]
     obtain ⟨nl3, e3⟩ := app_is (s := ⟨out.nl && (dirsX d s ⟨[], Sl.nil⟩ false a s.FDirs.l 0).isEmpty, out.l ++ dirsX d s ⟨[], Sl.nil⟩ false a s.FDirs.l 0⟩) (r := ⟨nl2, X s.FSels.l (bif !(s.FOn == []) then s.FOn else on_) a⟩) (by simp only [List.length_append]; omega)
     exact ⟨nl3, by rw [e3]; simp only [List.append_assoc]⟩
    | false =>
     simp only [hk2, hk3, cond_false, List.length_append] at hle ⊢
     have hkl := s.key_le a
     have hpl : (placeX s a).length = a.length + 1 + (keyX s).length := by simp [placeX]; omega
     have hp : (a ++ [47]) ++ keyX s = placeX s a := by simp [placeX]
     have c1 : catC a [47] = some (a ++ [47]) := catC_ok (by simp; omega)
     have c2 : catC (a ++ [47]) (Z68_q s) = some (placeX s a) := by rw [key_same, ← hp]; exact catC_ok (by have := s.sub_lt; simp; omega)
     obtain ⟨nl2, e2⟩ := rfield_is hd hE s h1 h2.1 h2.2 on_ (placeX s a)
     obtain ⟨nl3, e3⟩ := h4 (typeX d on_ s.FName).1.FName (placeX s a) (by omega)
     rw [c1, Option.bind_some, c2, Option.bind_some, e2, Option.bind_some, appC_ok32 (by omega) (by simp only; omega), Option.bind_some, e3, Option.bind_some]
     obtain ⟨nl4, e4⟩ := app_is (s := ⟨out.nl && (ownX d s on_ (placeX s a)).isEmpty, out.l ++ ownX d s on_ (placeX s a)⟩) (r := ⟨nl3, X s.FSels.l (typeX d on_ s.FName).1.FName (placeX s a)⟩) (by simp only [List.length_append]; omega)
     exact ⟨nl4, by rw [e4]; simp only [List.append_assoc]⟩
  obtain ⟨nl, e⟩ := key
  rw [Z80_q7]
  simp only [on] at e ⊢
  rw [e, Option.bind_some]
  obtain ⟨nl2, e2⟩ := ih ⟨nl, out.l ++ selX X d on_ a s⟩ (by simp only [List.length_append]; omega)
  exact ⟨nl2, by rw [e2]; simp⟩
theorem rsels_tot {d : TDoc} (hd : DefsOk d) (hE : Z82_q d [] = false) (n : Nat) : ∀ (l : Sl TSel) (on_ a : Bs) (m : Nat), Sl.sz TSel.sz l ≤ n → Sl.sz TSel.sz l ≤ m → Sl.sz TSel.sz l ≤ 1048576 → a.length + Sl.sz TSel.sz l ≤ 1073741824 → (∀ x ∈ l.l, ∃ k, SelW k x) → Is (Z80_qn n d l (Z76_q d on_) a) (selsX m d l.l on_ a) := by
 induction n with
 | zero => intro l on_ a m h; have : 1 ≤ Sl.sz TSel.sz l := Sl.sz_pos _ _; omega
 | succ n ih =>
  intro l on_ a m h1 h2 h3 h4 hw
  obtain ⟨m, rfl⟩ : ∃ k, m = k + 1 := ⟨m - 1, by have : 1 ≤ Sl.sz TSel.sz l := Sl.sz_pos _ _; omega⟩
  have hsum : Sl.sz TSel.sz l = 1 + (l.l.map TSel.sz).sum := rfl
  have hmem : ∀ s ∈ l.l, s.sz < Sl.sz TSel.sz l := fun s hs => Sl.mem_le (f := TSel.sz) hs
  have hW : ∀ s ∈ l.l, ArgsW s.FArgs.l ∧ (∀ x ∈ s.FDirs.l, ArgsW x.FArgs.l) ∧ ∀ y ∈ s.FSels.l, ∃ k, SelW k y := fun s hs => by
   obtain ⟨k, hk⟩ := hw s hs
   cases k with
   | zero => cases hk
   | succ k => exact ⟨hk.1, hk.2.1, fun y hy => ⟨k, hk.2.2 y hy⟩⟩
  obtain ⟨nl, e⟩ := rsels_loop hd hE on_ a (Z80_qn n) (selsX m d) l.l Sl.nil (fun s hs => by have := hmem s hs; omega) (fun s hs => ⟨(hW s hs).1, (hW s hs).2.1⟩) (fun s hs => by have := hmem s hs; omega)
   (fun s hs on2 a2 h => ih s.FSels on2 a2 m (by have := hmem s hs; have := s.sub_lt; omega) (by have := hmem s hs; have := s.sub_lt; omega) (by have := hmem s hs; have := s.sub_lt; omega) h (hW s hs).2.2)
   (fun l on2 a2 => selsX_le hd m l on2 a2) (by simp only [Sl.nil, List.length_nil]; omega)
  rw [Z80_qn, e]
  exact ⟨nl, by simp [on, Sl.nil, selsX]⟩
theorem rsels_is {d : TDoc} (hd : DefsOk d) (hE : Z82_q d [] = false) (l : Sl TSel) (on_ a : Bs) (h : Sl.sz TSel.sz l ≤ 1048576) (h2 : a.length ≤ 1048576) (hw : ∀ x ∈ l.l, SelW F0 x) : Is (Z80_q d l (Z76_q d on_) a) (selsX M0 d l.l on_ a) :=
 rsels_tot hd hE F0 l on_ a M0 (by rw [F0_eq]; omega) (by unfold M0; omega) h (by omega) fun x hx => ⟨F0, hw x hx⟩
def RootR (fr : Sl TFrag) (f : Fields_checker → Option (List Bs × List Bs)) (g : Option (Sl Bs × Sl Bs)) (keys seen : List Bs) (w : Nat) : Prop :=
 ∃ r, (∀ c : Fields_checker, c.Fq.FFrags = fr → f c = some r) ∧ (∃ n1 n2, g = some (⟨n1, r.1⟩, ⟨n2, r.2⟩)) ∧ (∀ s ∈ seen, s ∈ r.2) ∧ r.1.length + unseen fr r.2 * 1048576 ≤ keys.length + w + unseen fr seen * 1048576 ∧ r.2.length + unseen fr r.2 ≤ seen.length + unseen fr seen
theorem has_same (l : Sl Bs) (s : Bs) : Z75_q l s = l.l.contains s := by
 unfold Z75_q on
 generalize l.l = l
 induction l with
 | nil => rfl
 | cons a r ih =>
  rw [Z75_q5, List.contains_cons]
  simp only [on]
  rw [show (a == s) = (s == a) from BEq.comm]
  cases s == a with
  | true => rfl
  | false => simpa using ih
theorem app16 {s : Sl Bs} {x : Bs} (h : s.l.length ≤ 4398046511103) : ∃ nl, appC 16 s (⟨false, [x]⟩ : Sl Bs) = some ⟨nl, s.l ++ [x]⟩ := ⟨_, appC_ok32 (by omega) (by simp only [List.length_cons, List.length_nil]; omega)⟩
theorem roots_in2 {q : TQuery} (x : TSel) (k : Fields_checker → Sl TSel → List Bs → List Bs → Option (List Bs × List Bs)) (k2 : TQuery → Sl TSel → Sl Bs → Sl Bs → Option (Sl Bs × Sl Bs)) (seen0 : List Bs) (l : List TFrag) (hl : ∀ f ∈ l, f ∈ q.FFrags.l)
  (hfr : ∀ f ∈ q.FFrags.l, Sl.sz TSel.sz f.FSels ≤ 1048576)
  (hk : ∀ (f : TFrag) (keys seen : List Bs) n1 n2, f ∈ q.FFrags.l → unseen q.FFrags seen < unseen q.FFrags seen0 → keys.length + 1048576 + unseen q.FFrags seen * 1048576 ≤ 2199023255552 → seen.length + unseen q.FFrags seen ≤ 2097152 → RootR q.FFrags (fun c => k c f.FSels keys seen) (k2 q f.FSels ⟨n1, keys⟩ ⟨n2, seen⟩) keys seen (Sl.sz TSel.sz f.FSels))
  (keys seen : List Bs) (n1 n2 : Bool) (hs : ∀ s ∈ seen0, s ∈ seen) (hb : keys.length + unseen q.FFrags seen * 1048576 ≤ 2199023255552) (hb2 : seen.length + unseen q.FFrags seen ≤ 2097152) :
  RootR q.FFrags (fun c => Z8_q23 c x k l keys seen) (Z79_q27 q k2 x l ⟨n1, keys⟩ ⟨n2, seen⟩) keys seen 0 := by
 induction l generalizing keys seen n1 n2 with
 | nil => exact ⟨(keys, seen), fun _ _ => rfl, ⟨n1, n2, rfl⟩, fun _ h => h, by simp, by simp⟩
 | cons f r ih =>
  have ih := ih fun y hy => hl y (List.mem_cons_of_mem _ hy)
  have hf := hl f List.mem_cons_self
  have hff := hfr f hf
  have key : RootR q.FFrags (fun c => bif (((f.FName == x.FName)) && (!(seen.contains x.FName))) then ((k c f.FSels keys (insS seen x.FName)).bind fun x38 => some (x38.1, x38.2)) else (some (keys, seen)))
    (bif (((f.FName == x.FName)) && (!(bif ((f.FName == x.FName)) then Z75_q ⟨n2, seen⟩ (bif ((f.FName == x.FName)) then x else TSel.zero).FName else false))) then ((appC 16 (⟨n2, seen⟩ : Sl Bs) (⟨false, [x.FName]⟩ : Sl Bs)).bind fun x46 => (k2 q f.FSels ⟨n1, keys⟩ x46).bind fun x48 => some (x48.1, x48.2)) else (some ((⟨n1, keys⟩ : Sl Bs), (⟨n2, seen⟩ : Sl Bs)))) keys seen 0 := by
   cases hn : f.FName == x.FName with
   | false => exact ⟨(keys, seen), fun _ _ => rfl, ⟨n1, n2, rfl⟩, fun _ h => h, by simp, by simp⟩
   | true =>
    simp only [cond_true, Bool.true_and, has_same]
    have hne := eq_of_beq hn
    cases hc : seen.contains x.FName with
    | true => exact ⟨(keys, seen), fun _ _ => rfl, ⟨n1, n2, rfl⟩, fun _ h => h, by simp, by simp⟩
    | false =>
     have hc2 : x.FName ∉ seen := by simpa using hc
     have hi : insS seen x.FName = seen ++ [x.FName] := by unfold insS; rw [hc]; rfl
     have h1 : unseen q.FFrags (seen ++ [x.FName]) < unseen q.FFrags seen := unseen_lt (fun s h => List.mem_append_left _ h) hf (by rw [hne]; exact hc2) (by rw [hne]; simp)
     have h2 := unseen_le (fr := q.FFrags) hs
     obtain ⟨nl, e⟩ := app16 (s := ⟨n2, seen⟩) (x := x.FName) (by simp only; omega)
     have hlen : (seen ++ [x.FName]).length = seen.length + 1 := by simp
     obtain ⟨r, h3, ⟨m1, m2, h4⟩, h5, h6, h7⟩ := hk f keys (seen ++ [x.FName]) n1 nl hf (by omega) (by omega) (by omega)
     simp only [Bool.not_false, cond_true, hi, e, Option.bind_some]
     exact ⟨r, fun c hcc => by show Option.bind _ _ = _; rw [show k c f.FSels keys (seen ++ [x.FName]) = _ from h3 c hcc]; rfl, ⟨m1, m2, by rw [h4]; rfl⟩, fun s h => h5 s (List.mem_append_left _ h), by omega, by omega⟩
  obtain ⟨z, h1, ⟨m1, m2, h2⟩, h3, h4, h5⟩ := key
  obtain ⟨z2, g1, ⟨m3, m4, g2⟩, g3, g4, g5⟩ := ih z.1 z.2 m1 m2 (fun s h => h3 s (hs s h)) (by omega) (by omega)
  refine ⟨z2, fun c hc => ?_, ⟨m3, m4, ?_⟩, fun s h => g3 s (h3 s h), by omega, by omega⟩
  ·show Z8_q23 c x k (f :: r) keys seen = _
   rw [Z8_q23]
   have := h1 c hc
   simp only [on] at this ⊢
   rw [this]; exact g1 c hc
  ·rw [Z79_q27]
   simp only [on] at h2 ⊢
   rw [h2]; exact g2
theorem roots_loop2 {q : TQuery} (k : Fields_checker → Sl TSel → List Bs → List Bs → Option (List Bs × List Bs)) (k2 : TQuery → Sl TSel → Sl Bs → Sl Bs → Option (Sl Bs × Sl Bs)) (seen0 : List Bs) (l : List TSel)
  (hfr : ∀ f ∈ q.FFrags.l, Sl.sz TSel.sz f.FSels ≤ 1048576)
  (hk : ∀ (f : TFrag) (keys seen : List Bs) n1 n2, f ∈ q.FFrags.l → unseen q.FFrags seen < unseen q.FFrags seen0 → keys.length + 1048576 + unseen q.FFrags seen * 1048576 ≤ 2199023255552 → seen.length + unseen q.FFrags seen ≤ 2097152 → RootR q.FFrags (fun c => k c f.FSels keys seen) (k2 q f.FSels ⟨n1, keys⟩ ⟨n2, seen⟩) keys seen (Sl.sz TSel.sz f.FSels))
  (hk2 : ∀ (s : TSel) (keys seen : List Bs) n1 n2, s ∈ l → (∀ x ∈ seen0, x ∈ seen) → keys.length + Sl.sz TSel.sz s.FSels + unseen q.FFrags seen * 1048576 ≤ 2199023255552 → seen.length + unseen q.FFrags seen ≤ 2097152 → RootR q.FFrags (fun c => k c s.FSels keys seen) (k2 q s.FSels ⟨n1, keys⟩ ⟨n2, seen⟩) keys seen (Sl.sz TSel.sz s.FSels))
  (keys seen : List Bs) (n1 n2 : Bool) (hs : ∀ s ∈ seen0, s ∈ seen) (hb : keys.length + (l.map TSel.sz).sum + unseen q.FFrags seen * 1048576 ≤ 2199023255552) (hb2 : seen.length + unseen q.FFrags seen ≤ 2097152) :
  RootR q.FFrags (fun c => Z8_q3 c k l keys seen) (Z79_q7 q k2 l ⟨n1, keys⟩ ⟨n2, seen⟩) keys seen ((l.map TSel.sz).sum) := by
 induction l generalizing keys seen n1 n2 with
 | nil => exact ⟨(keys, seen), fun _ _ => rfl, ⟨n1, n2, rfl⟩, fun _ h => h, by simp, by simp⟩
 | cons x r ih =>
  have ih := ih fun s ks sn a b h => hk2 s ks sn a b (List.mem_cons_of_mem _ h)
  simp only [List.map_cons, List.sum_cons] at hb ⊢
  have hsub := x.sub_lt
  have hpos := x.pos
  have key : RootR q.FFrags (fun c => bif (decide (x.FKind = (3 : Int))) then ((k c x.FSels keys seen).bind fun x18 => some (x18.1, x18.2)) else (bif (decide (x.FKind = (2 : Int))) then (Option.bind (Z8_q23 c x k c.Fq.FFrags.l keys seen) fun z23 => some (z23.1, z23.2)) else (bif (!(x.FAlias == ([] : Bs))) then (some ((insS keys x.FAlias), seen)) else (some ((insS keys x.FName), seen)))))
    (bif (decide (x.FKind = (3 : Int))) then ((k2 q x.FSels ⟨n1, keys⟩ ⟨n2, seen⟩).bind fun x23 => some (x23.1, x23.2)) else (bif (decide (x.FKind = (2 : Int))) then (Option.bind (Z79_q27 q k2 x q.FFrags.l ⟨n1, keys⟩ ⟨n2, seen⟩) fun z27 => some (z27.1, z27.2)) else (bif (!(Z75_q ⟨n1, keys⟩ (Z68_q x))) then ((appC 16 (⟨n1, keys⟩ : Sl Bs) (⟨false, [Z68_q x]⟩ : Sl Bs)).bind fun x56 => some (x56, (⟨n2, seen⟩ : Sl Bs))) else (some ((⟨n1, keys⟩ : Sl Bs), (⟨n2, seen⟩ : Sl Bs)))))) keys seen x.sz := by
   cases decide (x.FKind = (3 : Int)) with
   | true =>
    obtain ⟨r, h1, ⟨m1, m2, h2⟩, h3, h4, h5⟩ := hk2 x keys seen n1 n2 List.mem_cons_self hs (by omega) hb2
    exact ⟨r, fun c hcc => by show Option.bind _ _ = _; rw [show k c x.FSels keys seen = _ from h1 c hcc]; rfl, ⟨m1, m2, by simp only [cond_true]; rw [h2]; rfl⟩, h3, by omega, h5⟩
   | false =>
    cases decide (x.FKind = (2 : Int)) with
    | true =>
     obtain ⟨r, h1, ⟨m1, m2, h2⟩, h3, h4, h5⟩ := roots_in2 x k k2 seen0 q.FFrags.l (fun f hf => hf) hfr hk keys seen n1 n2 hs (by omega) hb2
     exact ⟨r, fun c hcc => by show Option.bind (Z8_q23 c x k c.Fq.FFrags.l keys seen) _ = _; rw [hcc, show Z8_q23 c x k q.FFrags.l keys seen = _ from h1 c hcc]; rfl, ⟨m1, m2, by simp only [cond_true, cond_false]; rw [h2]; rfl⟩, h3, by omega, h5⟩
    | false =>
     have ek : (fun c : Fields_checker => (bif (!(x.FAlias == ([] : Bs))) then (some ((insS keys x.FAlias), seen)) else (some ((insS keys x.FName), seen)))) = fun _ => some (insS keys (keyX x), seen) := by
      funext c; unfold keyX; cases x.FAlias == [] <;> rfl
     simp only [cond_false, has_same, key_same]
     rw [ek]
     cases hc : keys.contains (keyX x) with
     | true => exact ⟨(keys, seen), fun _ _ => by unfold insS; rw [hc]; rfl, ⟨n1, n2, rfl⟩, fun _ h => h, by simp, by simp⟩
     | false =>
      have hi : insS keys (keyX x) = keys ++ [keyX x] := by unfold insS; rw [hc]; rfl
      obtain ⟨nl, e⟩ := app16 (s := ⟨n1, keys⟩) (x := keyX x) (by simp only; omega)
      simp only [Bool.not_false, cond_true, e, Option.bind_some, hi]
      exact ⟨(keys ++ [keyX x], seen), fun _ _ => rfl, ⟨nl, n2, rfl⟩, fun _ h => h, by simp; omega, by simp⟩
  obtain ⟨z, h1, ⟨m1, m2, h2⟩, h3, h4, h5⟩ := key
  obtain ⟨z2, g1, ⟨m3, m4, g2⟩, g3, g4, g5⟩ := ih z.1 z.2 m1 m2 (fun s h => h3 s (hs s h)) (by omega) (by omega)
  refine ⟨z2, fun c hc => ?_, ⟨m3, m4, ?_⟩, fun s h => g3 s (h3 s h), by omega, by omega⟩
  ·show Z8_q3 c k (x :: r) keys seen = _
   rw [Z8_q3]
   have := h1 c hc
   simp only [on] at this ⊢
   rw [this]; exact g1 c hc
  ·rw [Z79_q7]
   simp only [on] at h2 ⊢
   have e : (bif !(Z75_q ⟨n1, keys⟩ (Z68_q x)) then (appC 16 (⟨n1, keys⟩ : Sl Bs) (⟨false, [Z68_q x]⟩ : Sl Bs)).bind fun x56 => some (x56, (⟨n2, seen⟩ : Sl Bs)) else some ((⟨n1, keys⟩ : Sl Bs), (⟨n2, seen⟩ : Sl Bs))) = (bif !(Z75_q ⟨n1, keys⟩ (Z68_q x)) then (appC 16 (⟨n1, keys⟩ : Sl Bs) (⟨false, [Z68_q x]⟩ : Sl Bs)).bind fun x56 => some (x56, (⟨n2, seen⟩ : Sl Bs)) else some ((⟨n1, keys⟩ : Sl Bs), (⟨n2, seen⟩ : Sl Bs))) := rfl
   rw [h2]; exact g2
theorem roots_tot2 {q : TQuery} (hfr : ∀ f ∈ q.FFrags.l, Sl.sz TSel.sz f.FSels ≤ 1048576) (n : Nat) : ∀ (l : Sl TSel) (keys seen : List Bs) (n1 n2 : Bool), Sl.sz TSel.sz l ≤ 1048576 → Sl.sz TSel.sz l + unseen q.FFrags seen * 2097152 < n → keys.length + Sl.sz TSel.sz l + unseen q.FFrags seen * 1048576 ≤ 2199023255552 → seen.length + unseen q.FFrags seen ≤ 2097152 → RootR q.FFrags (fun c => Z8_qn n c l keys seen) (Z79_qn n q l ⟨n1, keys⟩ ⟨n2, seen⟩) keys seen (Sl.sz TSel.sz l) := by
 induction n with
 | zero => intro l keys seen n1 n2 _ h; omega
 | succ n ih =>
  intro l keys seen n1 n2 h1 h2 h3 h4
  have hsum : Sl.sz TSel.sz l = 1 + (l.l.map TSel.sz).sum := rfl
  obtain ⟨r, g1, ⟨m1, m2, g2⟩, g3, g4, g5⟩ := roots_loop2 (q := q) (Z8_qn n) (Z79_qn n) seen l.l hfr (fun f ks sn a b hf hu h5 h6 => ih _ _ _ a b (hfr f hf) (by have := hfr f hf; omega) (by have := hfr f hf; omega) h6)
   (fun s ks sn a b hs hsn h5 h6 => ih _ _ _ a b (by have := Sl.mem_le (f := TSel.sz) hs; have := s.sub_lt; omega) (by have := Sl.mem_le (f := TSel.sz) hs; have := s.sub_lt; have := unseen_le (fr := q.FFrags) hsn; omega) h5 h6) keys seen n1 n2 (fun _ h => h) (by omega) h4
  refine ⟨r, fun c hc => ?_, ⟨m1, m2, ?_⟩, g3, by omega, g5⟩
  ·show Z8_qn (n + 1) c l keys seen = _
   rw [Z8_qn, show Z8_q3 c (Z8_qn n) l.l keys seen = _ from g1 c hc]; rfl
  ·rw [Z79_qn, g2]; rfl
theorem rroots_is {q : TQuery} (hfr : ∀ f ∈ q.FFrags.l, Sl.sz TSel.sz f.FSels ≤ 1048576) (hl : q.FFrags.l.length ≤ 1048576) (l : Sl TSel) (h : Sl.sz TSel.sz l ≤ 1048576) : ∃ nl y, Z79_q q l Sl.nil Sl.nil = some (⟨nl, keysX q.FFrags l⟩, y) := by
 have hu : unseen q.FFrags [] ≤ 1048576 := Nat.le_trans (List.length_filter_le _ _) hl
 obtain ⟨r, g1, ⟨m1, m2, g2⟩, _⟩ := roots_tot2 hfr F0 l [] [] true true h (by rw [F0_eq]; omega) (by simp only [List.length_nil]; omega) (by simp only [List.length_nil]; omega)
 have e2 : Z8_q (bare q.FFrags) l [] [] = some r := g1 _ rfl
 exact ⟨m1, ⟨m2, r.2⟩, by simp only [keysX, e2, Option.getD_some]; exact g2⟩
end Go.Proofs

namespace Go.Proofs
open Go Go.Ab
theorem seenM_len (l : List Bs) : (seenM l).length = l.length := by simp [seenM]
theorem root_same (k : Int) : Z65_q k = Z88_q k := rfl
theorem rfrags_loop {d : TDoc} (hd : DefsOk d) (hE : Z82_q d [] = false) (l : List TFrag) (out : Sl TFault) (hl : ∀ f ∈ l, f.sz ≤ 1048576) (hw : ∀ f ∈ l, ∀ x ∈ f.FSels.l, SelW F0 x) (hb : out.l.length + (l.flatMap (fragX d)).length ≤ 4398046511104) : Is (Z67_q9 d l out) (out.l ++ l.flatMap (fragX d)) := by
 induction l generalizing out with
 | nil => exact ⟨out.nl, by simp [Z67_q9]⟩
 | cons f r ih =>
  have h1 := hl f List.mem_cons_self
  have h2 := f.sz_def; have h3 : Bs.sz f.FName = f.FName.length + 1 := rfl
  simp only [List.flatMap_cons, List.length_append] at hb ⊢
  obtain ⟨nl, e⟩ := rsels_is hd hE f.FSels f.FOn f.FName (by omega) (by omega) (hw f List.mem_cons_self)
  have e' : Z80_q d f.FSels (Z76_q d f.FOn) f.FName = some ⟨nl, fragX d f⟩ := e
  rw [Z67_q9]
  simp only [on, e', Option.bind_some]
  rw [appC_ok32 (by omega) (by simp only; omega), Option.bind_some]
  obtain ⟨nl2, e2⟩ := ih ⟨out.nl && (fragX d f).isEmpty, out.l ++ fragX d f⟩ (fun y hy => hl y (List.mem_cons_of_mem _ hy)) (fun y hy => hw y (List.mem_cons_of_mem _ hy)) (by simp only [List.length_append]; omega)
  exact ⟨nl2, by rw [e2]; simp⟩
theorem rops_loop {d : TDoc} (hd : DefsOk d) (hE : Z82_q d [] = false) (q : TQuery) (hfr : ∀ f ∈ q.FFrags.l, Sl.sz TSel.sz f.FSels ≤ 1048576) (hfl : q.FFrags.l.length ≤ 1048576) (l : List TOp) (out : Sl TFault) (hl : ∀ f ∈ l, f.sz ≤ 1048576) (hw : ∀ f ∈ l, ∀ x ∈ f.FSels.l, SelW F0 x) (hb : out.l.length + (l.flatMap (opX d q.FFrags)).length ≤ 4398046511104) : Is (Z67_q23 d q l out) (out.l ++ l.flatMap (opX d q.FFrags)) := by
 induction l generalizing out with
 | nil => exact ⟨out.nl, by simp [Z67_q23]⟩
 | cons o r ih =>
  have h1 := hl o List.mem_cons_self
  have h2 := o.sz_def; have h3 : Bs.sz o.FName = o.FName.length + 1 := rfl
  simp only [List.flatMap_cons, List.length_append] at hb ⊢
  obtain ⟨nk, y, e0⟩ := rroots_is hfr hfl o.FSels (by omega)
  obtain ⟨nl, e⟩ := rsels_is hd hE o.FSels (Z88_q o.FKind) o.FName (by omega) (by omega) (hw o List.mem_cons_self)
  rw [Z67_q23]
  simp only [on, root_same, r10_find_eq, e0, Option.bind_some, e]
  have hc : ((!decide ((fnd d.FDefs.l (Z88_q o.FKind)).1.FKind = (1 : Int))) || ((decide (o.FKind = (3 : Int))) && (!decide ((((keysX q.FFrags o.FSels).length : Nat) : Int) = (1 : Int))))) = ((((!(fnd d.FDefs.l (Z88_q o.FKind)).2) || (!decide ((fnd d.FDefs.l (Z88_q o.FKind)).1.FKind = (1 : Int)))) || ((decide (o.FKind = (3 : Int))) && (!decide ((((seenM (keysX q.FFrags o.FSels)).length : Nat) : Int) = (1 : Int)))))) := by
   rw [seenM_len]
   cases hf : (fnd d.FDefs.l (Z88_q o.FKind)).2 with
   | true => simp
   | false => rw [fnd_none _ _ hf]; simp [TDef.zero]
  have hX : opX d q.FFrags o = flt ((!decide ((fnd d.FDefs.l (Z88_q o.FKind)).1.FKind = (1 : Int))) || ((decide (o.FKind = (3 : Int))) && (!decide ((((keysX q.FFrags o.FSels).length : Nat) : Int) = (1 : Int))))) 30 o.FName ++ selsX M0 d o.FSels.l (Z88_q o.FKind) o.FName := by rw [hc]; rfl
  rw [hX] at hb ⊢
  simp only [List.length_append] at hb
  have hf1 := flt_le ((!decide ((fnd d.FDefs.l (Z88_q o.FKind)).1.FKind = (1 : Int))) || ((decide (o.FKind = (3 : Int))) && (!decide ((((keysX q.FFrags o.FSels).length : Nat) : Int) = (1 : Int))))) 30 o.FName
  have hob : out.l.length + 1 ≤ 4398046511104 ∨ out.l.length = 4398046511104 := by omega
  have key : ∀ K : Sl TFault → Option (Sl TFault), ∃ nl2, (Option.bind (bif ((!decide ((fnd d.FDefs.l (Z88_q o.FKind)).1.FKind = (1 : Int))) || ((decide (o.FKind = (3 : Int))) && (!decide ((((keysX q.FFrags o.FSels).length : Nat) : Int) = (1 : Int))))) then ((appC 24 out (⟨false, [(TFault.mk (30 : Int) o.FName)]⟩ : Sl TFault)).bind fun x49 => some x49) else (some out)) K) = K ⟨nl2, out.l ++ flt ((!decide ((fnd d.FDefs.l (Z88_q o.FKind)).1.FKind = (1 : Int))) || ((decide (o.FKind = (3 : Int))) && (!decide ((((keysX q.FFrags o.FSels).length : Nat) : Int) = (1 : Int))))) 30 o.FName⟩ := fun K => by
   rcases hob with hob | hob
   ·exact flt_app _ 30 o.FName out hob K
   ·generalize ((!decide ((fnd d.FDefs.l (Z88_q o.FKind)).1.FKind = (1 : Int))) || ((decide (o.FKind = (3 : Int))) && (!decide ((((keysX q.FFrags o.FSels).length : Nat) : Int) = (1 : Int))))) = b at hb
    cases b with
    | false => exact ⟨out.nl, by simp [flt]⟩
    | true => simp [flt] at hb; omega
  obtain ⟨nl2, e2⟩ := key (fun s5_43 => (appC 24 s5_43 ⟨nl, selsX M0 d o.FSels.l (Z88_q o.FKind) o.FName⟩).bind fun x46 => Z67_q23 d q r x46)
  rw [e2, appC_ok32 (by omega) (by simp only [List.length_append]; omega), Option.bind_some]
  obtain ⟨nl3, e3⟩ := ih ⟨nl2 && (selsX M0 d o.FSels.l (Z88_q o.FKind) o.FName).isEmpty, (out.l ++ flt ((!decide ((fnd d.FDefs.l (Z88_q o.FKind)).1.FKind = (1 : Int))) || ((decide (o.FKind = (3 : Int))) && (!decide ((((keysX q.FFrags o.FSels).length : Nat) : Int) = (1 : Int))))) 30 o.FName) ++ selsX M0 d o.FSels.l (Z88_q o.FKind) o.FName⟩ (fun y hy => hl y (List.mem_cons_of_mem _ hy)) (fun y hy => hw y (List.mem_cons_of_mem _ hy)) (by simp only [List.length_append]; omega)
  exact ⟨nl3, by rw [e3]; simp only [List.append_assoc]⟩
theorem rcheck_is {d : TDoc} (hd : DefsOk d) (hE : Z82_q d [] = false) (q : TQuery) (hq : q.sz ≤ 1048576) (hw : Z49_q q = some true) : Is (Z67_q d q) (checkX d q) := by
 have hl := q.lens
 have hle := checkX_le hd q hq
 obtain ⟨w1, w2⟩ := right_q hw
 unfold Z67_q
 obtain ⟨nl, e⟩ := rops_loop hd hE q (fun f hf => by have := TQuery.frag_le hf; have := f.sz_def; omega) (by omega) q.FOps.l Sl.nil (fun o ho => by have := TQuery.op_le ho; omega) w1 (by simp only [Sl.nil, List.length_nil]; omega)
 rw [e, Option.bind_some]
 simp only [on]
 obtain ⟨nl2, e2⟩ := rfrags_loop hd hE q.FFrags.l ⟨nl, Sl.nil.l ++ q.FOps.l.flatMap (opX d q.FFrags)⟩ (fun o ho => by have := TQuery.frag_le ho; omega) w2 (by simp only [Sl.nil, List.nil_append]; omega)
 rw [e2]
 exact ⟨nl2, by simp [Sl.nil, checkX]⟩
theorem fieldsCheck_eq (d : TDoc) (q : TQuery) (hd : d.sz ≤ 1048576) (hw : d.wf) (hq : q.sz ≤ 1048576) : Z15 d q = some true := by
 have hD := defsOk hd hw
 rw [Z15_eq]
 unfold Z15_q
 obtain ⟨b, hb⟩ := right_ok d q hd hq
 rw [hb, Option.bind_some, knows14]
 cases b with
 | false => rfl
 | true =>
  simp only [Bool.not_true, cond_false]
  have hr : Z40_q d = some true ∧ Z49_q q = some true := by
   unfold Z17_q at hb
   obtain ⟨x3, g3, h⟩ := bindO_some hb
   obtain ⟨x4, g4, h⟩ := guardO_some h
   obtain ⟨x5, g5, h⟩ := guardO_some h
   obtain ⟨x6, g6, h⟩ := guardO_some h
   simp only [Option.some.injEq, Bool.and_eq_true] at h
   have h5 := g5 (by rw [Bool.and_eq_true]; exact h.1.1)
   have h6 := g6 (by rw [Bool.and_eq_true, Bool.and_eq_true]; exact h.1)
   rw [h.1.2] at h5; rw [h.2] at h6
   exact ⟨h5, h6⟩
  obtain ⟨nl, e1⟩ := check_ok hD q hq
  obtain ⟨nl2, e2⟩ := rcheck_is hD (empty_not hr.1) q hq hr.2
  rw [e1, Option.bind_some, e2, Option.bind_some, faults_eq ⟨nl, checkX d q⟩ ⟨nl2, checkX d q⟩ rfl, Option.bind_some]
  rfl
end Go.Proofs

namespace Go.Proofs.YtjghdpblmakljaaGreat
open Go Go.Ab Go.RowKit Go.ChangeShapes Go.WideShapes Go.ChangeAt
theorem bulkAll {H : Type} (l : List (DataW H)) : Rows.uptoBulkAll l = (l.map Rows.uptoBulk).sum := by
 induction l with
 | nil => rfl
 | cons x r ih => simp only [Rows.uptoBulkAll, List.map_cons, List.sum_cons, ih]
theorem bulkB {H : Type} : Bulk (H := H) Rows.uptoBulk := by
 refine ⟨fun d => ?_, fun b => by simp [Rows.uptoBulk], fun e s => by simp only [Rows.uptoBulk, bulkAll]; omega, fun l => by simp only [Rows.uptoBulk, bulkAll]; omega⟩
 cases d with
 | lit l => cases l <;> simp [Rows.uptoBulk]
 | nil => simp [Rows.uptoBulk]
 | ptr d => simp [Rows.uptoBulk]
 | slice elems spare => simp [Rows.uptoBulk]
 | agg parts => simp [Rows.uptoBulk]
 | iface t d => simp [Rows.uptoBulk]
 | map entries => simp [Rows.uptoBulk]
 | held h => simp [Rows.uptoBulk]
theorem own : ownKnob Tryz.prog.godebug = none := by kernel_rfl
theorem laid : laidOutB Tryz.prog = true := by kernel_rfl
theorem bound {H : Type} {l : List (DataW H)} (hk : Rows.uptoSmall H l = true) : Rows.uptoBulkAll l ≤ 1048576 := of_decide_eq_true hk
theorem fieldsCheck_call (d : TDoc) (q : TQuery) (hd : d.sz ≤ 1048576) (hw : d.wf) (hq : q.sz ≤ 1048576) (H : Heap) : ACalls Tryz.prog 3 [.agg d.c, .agg q.c] H fun r h' => r = .a (.d (.bool true)) ∧ h' = H := Z15_walk (fieldsCheck_eq d q hd hw hq) H
end Go.Proofs.YtjghdpblmakljaaGreat

