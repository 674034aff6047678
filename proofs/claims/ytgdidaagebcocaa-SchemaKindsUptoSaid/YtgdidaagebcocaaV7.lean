import Derived.Test.YtgdidaagebcocaaV6
import Derived.Test.YtgdidaagebcocaaRows
set_option linter.unusedVariables false
set_option linter.unusedSimpArgs false
namespace Go.Proofs
open Go Go.Ab Go.Ab.Sch
/-! ### A document with one more type -/
def newField : Ab.Field := ⟨⟨[120], by decide⟩, Slc.empty, ⟨⟨sInt, by decide⟩, Slc.empty⟩, Slc.empty⟩
def newDef (n : Str) : Def := ⟨1, n, Slc.empty, Slc.empty, ⟨false, [newField], by decide, by decide⟩, Slc.empty, Slc.empty⟩
def moreDoc (d : Doc) (n : Str) (h : d.defs.l.length ≤ 2048) : Doc := ⟨⟨false, d.defs.l ++ [newDef n], by rw [List.length_append]; simp only [maxN, List.length_cons, List.length_nil]; omega, by simp⟩⟩
section
variable {d : Doc} {n : Str} (h : d.defs.l.length ≤ 2048)
theorem find_more (m : List UInt8) : find (moreDoc d n h).defs.l m = (find d.defs.l m).or (if n.1 == m then some (newDef n) else none) := by
  show find (d.defs.l ++ [newDef n]) m = _
  unfold find
  rw [List.find?_append]
  congr 1
  rw [List.find?_cons, List.find?_nil]
  show (match n.1 == m with | true => some (newDef n) | false => none) = _
  cases n.1 == m <;> rfl
theorem find_more_some {m : List UInt8} (hf : (find d.defs.l m).isSome = true) : find (moreDoc d n h).defs.l m = find d.defs.l m := by
  rw [find_more]
  cases e : find d.defs.l m with
  | none => rw [e] at hf; cases hf
  | some t => rfl
theorem kind_more {m : List UInt8} (hf : (find d.defs.l m).isSome = true) : kind (moreDoc d n h) m = kind d m := by unfold kind; rw [find_more_some h hf]
theorem known_more {m : List UInt8} (hk : knownB d m = true) : knownB (moreDoc d n h) m = true := by
  unfold knownB at *
  rw [Bool.or_eq_true] at *
  rcases hk with e | e
  · exact .inl e
  · rw [find_more_some h e]; exact .inr e
theorem inputDef_more (m : List UInt8) : inputDef (moreDoc d n h) m = inputDef d m := by
  unfold inputDef
  cases e : find d.defs.l m with
  | some t => rw [find_more_some h (by rw [e]; rfl), kind_more h (by rw [e]; rfl), e]
  | none =>
    have e2 := find_more (n := n) h m
    rw [e] at e2
    rw [Option.none_or] at e2
    unfold kind
    rw [e2]
    split
    · rfl
    · rfl
theorem goes_more (own : List UInt8) (x : Ab.Input) : goes (moreDoc d n h) own x = goes d own x := by unfold goes; rw [inputDef_more]
theorem goes_found {own : List UInt8} {x : Ab.Input} (ho : (find d.defs.l own).isSome = true) (hg : goes d own x = true) : (find d.defs.l x.type.name.1).isSome = true := by
  unfold goes inputDef at hg
  rw [Bool.and_eq_true, Bool.or_eq_true, Bool.and_eq_true] at hg
  rcases hg.2 with e | e
  · have : x.type.name.1 = own := by simpa using e
    rw [this]; exact ho
  · exact e.1
theorem reach_more {own : List UInt8} {t : List Ab.Input} (ho : (find d.defs.l own).isSome = true) {m : List UInt8} (hr : Sch.Reach (moreDoc d n h) own t m) : Sch.Reach d own t m ∧ (find d.defs.l m).isSome = true := by
  induction hr with
  | here hx hg =>
    rw [goes_more] at hg
    exact ⟨.here hx hg, goes_found ho hg⟩
  | @step m' x _ hx hg ih =>
    rw [goes_more] at hg
    have e : defOf (moreDoc d n h) m' = defOf d m' := by unfold defOf; rw [find_more_some h ih.2]
    rw [e] at hx
    exact ⟨.step ih.1 hx hg, goes_found ho hg⟩
theorem circB_more {t : Def} (ho : (find d.defs.l t.name.1).isSome = true) (hc : circB d t = false) : circB (moreDoc d n h) t = false := by
  unfold circB at *
  rw [Bool.and_eq_false_iff] at *
  rcases hc with e | e
  · exact .inl e
  · refine .inr ?_
    rw [decide_eq_false_iff_not] at *
    exact fun hr => e (reach_more h ho hr).1
theorem isInputR_more {m : List UInt8} (hk : isInputR d m = true) : isInputR (moreDoc d n h) m = true := by
  unfold isInputR at *
  cases e : find d.defs.l m with
  | none => rw [e] at hk; simp at hk; simp [hk]
  | some t =>
    have hf : (find d.defs.l m).isSome = true := by rw [e]; rfl
    rw [find_more_some h hf, kind_more h hf]; exact hk
theorem inputsF_more {l : List Ab.Input} {b e : List UInt8} (hn : inputsF d l b e l.length = []) : inputsF (moreDoc d n h) l b e l.length = [] := by
  unfold inputsF at *
  rw [List.flatMap_eq_nil_iff] at *
  intro k hk
  have h1 := hn k hk
  unfold inputF at *
  dsimp only at *
  rw [List.append_eq_nil_iff] at *
  refine ⟨h1.1, ?_⟩
  have h2 := h1.2
  split at h2
  · rename_i hkn
    rw [if_pos (known_more h hkn)]
    have h3 := one_nil h2
    rw [isInputR_more h (by simpa using h3)]; rfl
  · exact absurd (one_nil h2) (by simp)
theorem fieldsF_more {tn : List UInt8} {l : List Ab.Field} (hn : fieldsF d tn l l.length = []) : fieldsF (moreDoc d n h) tn l l.length = [] := by
  unfold fieldsF at *
  rw [List.flatMap_eq_nil_iff] at *
  intro k hk
  have h1 := hn k hk
  unfold fieldF at *
  dsimp only at *
  rw [List.append_eq_nil_iff, List.append_eq_nil_iff] at *
  refine ⟨⟨h1.1.1, ?_⟩, inputsF_more h h1.2⟩
  have h2 := h1.1.2
  split at h2
  · rename_i hkn
    rw [if_pos (known_more h hkn)]
    have h3 := one_nil h2
    cases e : find d.defs.l (l.getD k Field.zero).type.name.1 with
    | none =>
      unfold knownB at hkn
      rw [e] at hkn
      simp only [Option.isSome_none, Bool.or_false] at hkn
      rw [hkn]; rfl
    | some t =>
      have hf : (find d.defs.l (l.getD k Field.zero).type.name.1).isSome = true := by rw [e]; rfl
      rw [find_more_some h hf, kind_more h hf, h3]; rfl
  · exact absurd (one_nil h2) (by simp)
theorem partF_more {t : Def} (hn : partF d t = []) : partF (moreDoc d n h) t = [] := by
  unfold partF at *
  split
  · rename_i h1; rw [if_pos h1] at hn; exact fieldsF_more h hn
  · rename_i h1
    rw [if_neg h1] at hn
    split
    · rename_i h2; rw [if_pos h2] at hn; exact hn
    · rename_i h2
      rw [if_neg h2] at hn
      split
      · rename_i h3; rw [if_pos h3] at hn; exact inputsF_more h hn
      · rfl
theorem new_part : partF (moreDoc d n h) (newDef n) = [] := by
  unfold partF
  rw [if_pos (.inl rfl)]
  have hs : scalar sInt = true := rfl
  have hk : knownB (moreDoc d n h) sInt = true := by unfold knownB; rw [hs]; rfl
  unfold fieldsF
  show fieldF (moreDoc d n h) n.1 [newField] 0 ++ [] = []
  rw [List.append_nil]
  unfold fieldF
  show (names [120] false false (n.1 ++ dot ++ [120]) ++ (if knownB (moreDoc d n h) sInt then one ((!scalar sInt && (find (moreDoc d n h).defs.l sInt).isSome) && decide (kind (moreDoc d n h) sInt = 5)) 10 (n.1 ++ dot ++ [120]) else one true 8 (n.1 ++ dot ++ [120]))) ++ [] = []
  rw [if_pos hk, hs, List.append_nil]
  have ha : allowed [120] = true := by decide
  unfold names
  rw [ha]; rfl
theorem more_small (hs : Small d) (hd : d.defs.l.length ≤ 70) : Small (moreDoc d n h) := by
  have hm : ∀ t, t ∈ (moreDoc d n h).defs.l → t ∈ d.defs.l ∨ t = newDef n := fun t ht => by
    have ht' : t ∈ d.defs.l ++ [newDef n] := ht
    rcases List.mem_append.1 ht' with e | e
    · exact .inl e
    · simp at e; exact .inr e
  refine ⟨by show (d.defs.l ++ [newDef n]).length ≤ 2048; rw [List.length_append]; simp; omega, fun t ht => ?_, fun t ht => ?_, fun t ht => ?_, fun t ht f hf => ?_⟩
  · rcases hm t ht with e | rfl
    · exact hs.fields t e
    · show 1 ≤ 2048; decide
  · rcases hm t ht with e | rfl
    · exact hs.members t e
    · show 0 ≤ 2048; decide
  · rcases hm t ht with e | rfl
    · exact hs.inputs t e
    · show 0 ≤ 2048; decide
  · rcases hm t ht with e | rfl
    · exact hs.args t e f hf
    · have hf' : f ∈ [newField] := hf
      simp at hf'; subst hf'; decide
theorem more_faults (hn : checkAll d true = []) (hp : find d.defs.l n.1 = none) : ∀ f ∈ checkAll (moreDoc d n h) true, f.at_ = n.1 ∧ (f.err = 6 ∨ f.err = 7) := by
  have hok := okd hn
  unfold checkAll checkF at hn
  rw [List.append_eq_nil_iff] at hn
  have hq : (find d.defs.l sQuery).isSome = true := by have := one_nil hn.2; simpa using this
  have hlen : (moreDoc d n h).defs.l.length = d.defs.l.length + 1 := by show (d.defs.l ++ [newDef n]).length = _; simp
  have hold : ∀ i, i < d.defs.l.length → defF (moreDoc d n h) i = [] := by
    intro i hi
    have h1 := flat_nil hn.1 i hi
    unfold defF at *
    have e1 : (moreDoc d n h).defs.l.getD i Def.zero = d.defs.l[i] := by
      rw [getD_eq _ i (by rw [hlen]; omega)]
      exact List.getElem_append_left hi
    rw [e1]
    rw [getD_eq _ i hi, List.append_eq_nil_iff] at h1
    rw [partF_more h h1.2, List.append_nil]
    have h2 := h1.1
    unfold wholeF at *
    simp only [List.append_eq_nil_iff] at h2 ⊢
    have hs : seenB (moreDoc d n h) i d.defs.l[i].name.1 = seenB d i d.defs.l[i].name.1 := by
      unfold seenB
      have : (moreDoc d n h).defs.l.take i = d.defs.l.take i := List.take_append_of_le_length (by omega)
      rw [this]
    rw [hs]
    refine ⟨h2.1, ?_⟩
    have hfo : (find d.defs.l d.defs.l[i].name.1).isSome = true := by
      have hpl := (hok.place i _ (List.getElem?_eq_getElem hi)).1
      rw [place_find, hpl]; simp
    rw [circB_more h hfo (one_nil h2.2)]; rfl
  have hnew : defF (moreDoc d n h) d.defs.l.length = names n.1 false (scalar n.1) n.1 := by
    unfold defF
    have e1 : (moreDoc d n h).defs.l.getD d.defs.l.length Def.zero = newDef n := by
      show (d.defs.l ++ [newDef n]).getD d.defs.l.length Def.zero = newDef n
      simp [List.getD_eq_getElem?_getD]
    rw [e1, new_part, List.append_nil]
    unfold wholeF
    have hs : seenB (moreDoc d n h) d.defs.l.length (newDef n).name.1 = false := by
      unfold seenB
      have : (moreDoc d n h).defs.l.take d.defs.l.length = d.defs.l := by
        show (d.defs.l ++ [newDef n]).take d.defs.l.length = _
        rw [List.take_left' rfl]
      rw [this, List.any_eq_false]
      unfold find at hp
      rw [List.find?_eq_none] at hp
      exact fun t ht => hp t ht
    have hk : kindBad (newDef n) = false := by unfold kindBad; simp [newDef]
    have hc : circB (moreDoc d n h) (newDef n) = false := by unfold circB; simp [newDef]
    have he : emptyB (newDef n) = false := rfl
    rw [hs, hk, hc, he, Bool.or_false]
    simp only [one, Bool.false_eq_true, if_false, List.append_nil]
    rfl
  intro f hf
  unfold checkAll checkF at hf
  rw [find_more_some h hq, hq, hlen, List.range_succ, List.flatMap_append] at hf
  have e1 : (List.range d.defs.l.length).flatMap (defF (moreDoc d n h)) = [] := by
    rw [List.flatMap_eq_nil_iff]; exact fun i hi => hold i (List.mem_range.1 hi)
  rw [e1] at hf
  simp only [List.nil_append, List.flatMap_cons, List.flatMap_nil, List.append_nil, Bool.not_true, Bool.and_false, hnew] at hf
  have hf' : f ∈ names n.1 false (scalar n.1) n.1 := by simpa [one] using hf
  unfold names at hf'
  rw [List.mem_append] at hf'
  rcases hf' with e | e
  · unfold one at e; split at e
    · simp at e; subst e; exact ⟨rfl, .inl rfl⟩
    · simp at e
  · unfold one at e; split at e
    · simp at e; subst e; exact ⟨rfl, .inr rfl⟩
    · simp at e
end
theorem place_none {l : List Def} {n : List UInt8} (h : ¬ 0 ≤ placeI l n) : find l n = none := by
  rcases place_cases l n with ⟨_, h2⟩ | ⟨i, t, h1, _, _⟩
  · exact h2
  · omega
theorem okd_nil {d : Doc} {b : Bool} {x : List Fault} (h : (largeB d || decide ((0 : Int) < ((x.map Fault.c).length : Int)) || b) = false) (_ : largeB d = false) : x = [] := by
  simp only [Bool.or_eq_false_iff] at h
  exact len_nil Fault.c h.1.2
theorem more_rel {d : Doc} {n : Str} (h : d.defs.l.length ≤ 2048) {tk : Option Nat} {nl : Bool} {rows : List (List D)} {j : J} {w : World} {v : Value} (h1 : DRel j w (.slice 7 tk nl rows) v) (hnl : nl = false) (hr : rows = (d.defs.l ++ [newDef n]).map Def.c) :
    DRel j w ((moreDoc d n h).defs.d 7 Def.c) v := by
  subst hnl hr
  exact slice_dropTok j w v h1
set_option maxRecDepth 100000 in
set_option maxHeartbeats 2000000 in
theorem law_SchemaAdds (d : Doc) (hb : Bd d) (n : Str) (H : Heap) : ACalls Try.prog 4 [.agg d.c, .d (.str n.1)] H fun r h' => r = .a (.d (.bool true)) ∧ h' = H := by
  refine ACalls.of_wp (fn := Try.f4) (c := _) Try.tab_ok (fun _ _ => Try.call4 _ _) Try.func4 rfl (n := 71) rfl (rs := [.tmp 4]) rfl rfl ?_
  refine AWp.tok 7 fun tk htk => ?_
  refine AWp.seqK fun K1 hK1 => ?_
  refine AWp.region ?_
  refine AOps.s0 (Cert.boxV rfl) rfl ?_
  refine AOps.s0 (Cert.assign (by conv => lhs; whnf)) rfl ?_
  refine AOps.nil ?_
  refine hK1 _ ?_
  clear hK1 K1
  refine AWp.seqK fun K2 hK2 => ?_
  refine AWp.seqK fun K3 hK3 => ?_
  refine AWp.region ?_
  refine AOps.s0 (Cert.loadV (Try.tab_ok _ _ rfl) rfl rfl rfl) rfl ?_
  refine AOps.s0 (Cert.callP rfl rfl (ref_Large d hb)) rfl ?_
  refine AOps.s0 (Cert.move (by conv => lhs; whnf)) rfl ?_
  refine AOps.gC rfl rfl (fun hC => Cert.loadV (Try.tab_ok _ _ rfl) rfl rfl rfl) rfl ?_
  refine AOps.gC rfl rfl (fun hC => Cert.ungd (k := 11) rfl (by first | exact hC | exact andL hC | exact andL (andL hC) | exact andL (andL (andL hC)) | exact andR hC | simp_all) (Cert.callP rfl rfl (sch_Check d (largeB_small (by simpa using hC)) true))) rfl ?_
  refine AOps.gC rfl rfl (fun hC => Cert.ungd (k := 12) rfl (by first | exact hC | exact andL hC | exact andL (andL hC) | exact andL (andL (andL hC)) | exact andR hC | simp_all) (Cert.lenA (Try.tab_ok _ _ rfl) rfl rfl rfl)) rfl ?_
  refine AOps.gC rfl rfl (fun hC => Cert.ungd (k := 13) rfl (by first | exact hC | exact andL hC | exact andL (andL hC) | exact andL (andL (andL hC)) | exact andR hC | simp_all) (Cert.binI rfl rfl rfl)) rfl ?_
  refine AOps.s0 (Cert.pickOr rfl rfl rfl (fun h => by first | exact h | exact notT h | exact andI hC h | exact andI hC (notT h) | simp_all)) rfl ?_
  refine AOps.s0 (Cert.move (by conv => lhs; whnf)) rfl ?_
  refine AOps.gC rfl rfl (fun hC => Cert.loadV (Try.tab_ok _ _ rfl) rfl rfl rfl) rfl ?_
  refine AOps.gC rfl rfl (fun hC => Cert.move (by conv => lhs; whnf)) rfl ?_
  refine AOps.gC rfl rfl (fun hC => Cert.ungd (k := 17) rfl (by first | exact hC | exact andL hC | exact andL (andL hC) | exact andL (andL (andL hC)) | exact andR hC | simp_all) (Cert.ungd (k := 18) rfl (by first | exact hC | exact andL hC | exact andL (andL hC) | exact andL (andL (andL hC)) | exact andR hC | simp_all) (Cert.callP rfl rfl (law_place d n.1)))) rfl ?_
  refine AOps.gC rfl rfl (fun hC => Cert.ungd (k := 19) rfl (by first | exact hC | exact andL hC | exact andL (andL hC) | exact andL (andL (andL hC)) | exact andR hC | simp_all) (Cert.binI rfl rfl rfl)) rfl ?_
  refine AOps.s0 (Cert.pickOr rfl rfl rfl (fun h => by first | exact h | exact notT h | exact andI hC h | exact andI hC (notT h) | simp_all)) rfl ?_
  refine AOps.nil ?_
  refine hK3 _ ?_
  clear hK3 K3
  refine AWp.cond rfl (fun hc0 => ?_) (fun hc0 => ?_)
  · first
    | (cases hc0; done)
    | skip
    refine AWp.seqK fun K4 hK4 => ?_
    refine AWp.region ?_
    refine AOps.s0 (Cert.callP rfl rfl law_example) rfl ?_
    refine AOps.s0 (Cert.assign (by conv => lhs; whnf)) rfl ?_
    refine AOps.nil ?_
    refine hK4 _ ?_
    clear hK4 K4
    refine AWp.ret ?_
    repeat (first | refine xBlock_ret ?_ | refine xThen_ret ?_)
    first
    | exact retQ.retF H rfl ⟨rfl, rfl⟩ (by simp only [Heap.set_set]; exact Heap.sub_set htk)
    | exact retQ.retF H rfl ⟨rfl, rfl⟩ (Heap.sub_set htk)
    | (exfalso
       have hf := more_faults hd20 (okd_nil hc0 hnl) (place_none (by have := hc0; simp only [Bool.or_eq_false_iff, decide_eq_false_iff_not] at this; exact this.2)) _ (List.getElem_mem hi3)
       have h1 : (!((checkAll (moreDoc d n hd20) true)[i].at_ == n.1) || (!decide ((checkAll (moreDoc d n hd20) true)[i].err = 6) && !decide ((checkAll (moreDoc d n hd20) true)[i].err = 7))) = true := hc2
       rcases hf with ⟨e1, e2 | e2⟩
       · rw [e1, e2] at h1; simp at h1
       · rw [e1, e2] at h1; simp at h1)
  · first
    | (cases hc0; done)
    | skip
    refine AWp.skip ?_
    refine hK2 _ ?_
    clear hK2 K2
    refine AWp.seqK fun K5 hK5 => ?_
    refine AWp.region ?_
    refine AOps.sL (Cert.allocL (Try.tab_ok _ _ rfl) rfl (by repeat (first | exact Snoc.nil | apply Snoc.cons))) rfl ?_
    refine AOps.nil ?_
    refine hK5 _ ?_
    clear hK5 K5
    have hnl : largeB d = false := by cases h : largeB d <;> simp_all
    have hs := largeB_small hnl
    have hle : d.defs.l.length ≤ 70 := by
      unfold largeB at hnl
      simp only [Bool.or_eq_false_iff, decide_eq_false_iff_not] at hnl
      omega
    refine AWp.relocal 0 [D.slice 7 (some tk) true []] rfl (fun j w cs hh hx => ?_) ?_
    · cases hx with
      | cons h1 h2 => exact .cons ((AsArg.nil (k := 7) (k' := 7) (Heap.set_same _ _ _)).rel hh h1) h2
    refine AWp.seqK fun K6 hK6 => ?_
    refine AWp.region ?_
    refine AOps.s0 (Cert.fieldL (Try.tab_ok _ _ rfl) rfl rfl (Try.tab_ok _ _ rfl) rfl rfl) rfl ?_
    refine AOps.s0 (Cert.loadL (Try.tab_ok _ _ rfl) rfl rfl rfl rfl) rfl ?_
    refine AOps.s0 (Cert.fieldV (Try.tab_ok _ _ rfl) rfl rfl (Try.tab_ok _ _ rfl) rfl rfl (by conv => lhs; whnf)) rfl ?_
    refine AOps.s0 (Cert.loadV (Try.tab_ok _ _ rfl) rfl rfl rfl) rfl ?_
    refine AOps.sH (Cert.append (Try.tab_ok _ _ rfl) rfl (Try.tab_ok _ _ rfl) (Try.tab_ok _ _ rfl) (.inl ⟨_, rfl⟩) rfl rfl (by decide) rfl rfl (by first | exact .inl rfl | exact .inr rfl) (by first | exact .inl rfl | exact .inr rfl) (by (first | assumption | exact Heap.set_same _ _ _ | ((repeat (refine (Heap.set_other _ _ (by first | assumption | (apply Ne.symm; assumption))).trans ?_)); first | assumption | exact Heap.set_same _ _ _) | (simp only [Heap.set_set, Heap.set_same]; done) | (simp [Heap.set, *]; done))) (by first | rfl | (simp; done)) (by (first | assumption | (simp [maxN]; done) | (simp [maxN]; omega) | (simp [maxN, Nat.add_mul] at *; omega))) (by (first | assumption | (simp [maxN]; done) | (simp [maxN]; omega) | (simp [maxN, Nat.add_mul] at *; omega)))) rfl ?_
    refine AOps.s0 (Cert.fieldL (Try.tab_ok _ _ rfl) rfl rfl (Try.tab_ok _ _ rfl) rfl rfl) rfl ?_
    refine AOps.sLn (Cert.storeL1 (Try.tab_ok _ _ rfl) rfl rfl rfl rfl (by repeat (first | exact SetAt.zero | apply SetAt.succ)) (by repeat (first | exact SetAt.zero | apply SetAt.succ))) ?_
    refine AOps.nil ?_
    refine hK6 _ ?_
    clear hK6 K6
    refine AWp.seqK fun K7 hK7 => ?_
    refine AWp.region ?_
    refine AOps.s0 (Cert.fieldL (Try.tab_ok _ _ rfl) rfl rfl (Try.tab_ok _ _ rfl) rfl rfl) rfl ?_
    refine AOps.s0 (Cert.loadL (Try.tab_ok _ _ rfl) rfl rfl rfl rfl) rfl ?_
    refine AOps.s0 (Cert.move (by conv => lhs; whnf)) rfl ?_
    refine AOps.s0 (Cert.build Try.tab_ok rfl rfl rfl rfl rfl rfl) rfl ?_
    refine AOps.s0 (Cert.build Try.tab_ok rfl rfl rfl rfl rfl rfl) rfl ?_
    refine AOps.s0 (Cert.buildSlice (Try.tab_ok _ _ rfl) rfl (Try.tab_ok _ _ rfl) rfl rfl rfl rfl rfl rfl) rfl ?_
    refine AOps.s0 (Cert.build Try.tab_ok rfl rfl rfl rfl rfl rfl) rfl ?_
    refine AOps.s0 (Cert.buildSlice (Try.tab_ok _ _ rfl) rfl (Try.tab_ok _ _ rfl) rfl rfl rfl rfl rfl rfl) rfl ?_
    refine AOps.sH (Cert.append (Try.tab_ok _ _ rfl) rfl (Try.tab_ok _ _ rfl) (Try.tab_ok _ _ rfl) (.inl ⟨_, rfl⟩) rfl rfl (by decide) rfl rfl (by first | exact .inl rfl | exact .inr rfl) (by first | exact .inl rfl | exact .inr rfl) (by (first | assumption | exact Heap.set_same _ _ _ | ((repeat (refine (Heap.set_other _ _ (by first | assumption | (apply Ne.symm; assumption))).trans ?_)); first | assumption | exact Heap.set_same _ _ _) | (simp only [Heap.set_set, Heap.set_same]; done) | (simp [Heap.set, *]; done))) (by first | rfl | (simp; done)) (by (first | assumption | (simp [maxN]; done) | (simp [maxN]; omega) | (simp [maxN, Nat.add_mul] at *; omega))) (by (first | assumption | (simp [maxN]; done) | (simp [maxN]; omega) | (simp [maxN, Nat.add_mul] at *; omega)))) rfl ?_
    refine AOps.s0 (Cert.fieldL (Try.tab_ok _ _ rfl) rfl rfl (Try.tab_ok _ _ rfl) rfl rfl) rfl ?_
    refine AOps.sLn (Cert.storeL1 (Try.tab_ok _ _ rfl) rfl rfl rfl rfl (by repeat (first | exact SetAt.zero | apply SetAt.succ)) (by repeat (first | exact SetAt.zero | apply SetAt.succ))) ?_
    refine AOps.nil ?_
    refine hK7 _ ?_
    clear hK7 K7
    have hd20 : d.defs.l.length ≤ 2048 := by omega
    refine AWp.relocal 0 (moreDoc d n hd20).c rfl (fun j w cs hh hx => ?_) ?_
    · cases hx with
      | cons h1 h2 => exact .cons (more_rel hd20 h1 (by simp) (by rw [List.map_append]; rfl)) h2
    refine AWp.seqK fun K8 hK8 => ?_
    refine AWp.region ?_
    refine AOps.s0 (Cert.loadL (Try.tab_ok _ _ rfl) rfl rfl rfl rfl) rfl ?_
    refine AOps.s0 (Cert.callP rfl rfl (sch_Check (moreDoc d n hd20) (more_small hd20 hs hle) true)) rfl ?_
    refine AOps.s0 (Cert.assign (by conv => lhs; whnf)) rfl ?_
    refine AOps.nil ?_
    refine hK8 _ ?_
    clear hK8 K8
    refine AWp.seqK fun K9 hK9 => ?_
    refine AWp.seqK fun K10 hK10 => ?_
    refine AWp.region ?_
    refine AOps.s0 (Cert.assign (by conv => lhs; whnf)) rfl ?_
    refine AOps.nil ?_
    refine hK10 _ ?_
    clear hK10 K10
    refine AWp.block ?_
    refine AWp.loopC (KeepsT.cons (k := 1) (by conv => lhs; whnf) (KeepsT.cons (k := 6) (by conv => lhs; whnf) KeepsT.nil)) (fun i : Nat => [(7, .a (.d (.int .i64 i)))]) (fun i => (checkAll (moreDoc d n hd20) true).length - i) (fun i => i ≤ (checkAll (moreDoc d n hd20) true).length) 0 (Nat.zero_le _) (Weak.to (by repeat (first | exact Keeps.nil | refine Keeps.c rfl rfl ?_ | refine Keeps.c (by (first | (first | rfl | ((conv => lhs; whnf); first | (simp [cellsA, faultsT, faultsD, namesD, Fault.mk_c, Nat.add_assoc, empty_append, Bool.and_assoc]; done) | (simp [cellsA, faultsT, faultsD, namesD, Nat.add_assoc, empty_append, Bool.and_assoc]; repeat (first | rfl | constructor)))) | rfl | (simp only [get_same, ev]; done) | (simp [*, cellsA]; done) | (show V.a (A.d (D.slice _ _ _ _)) = V.a (A.d (D.slice _ _ _ _)); simp [*, cellsA]; done))) rfl ?_)) (by repeat (first | exact Pfx.nil | apply Pfx.cons)) (by first | rfl | (first | rfl | (simp only [Heap.set_set, List.length_append, List.length_nil, List.length_cons, List.length_map, List.length_singleton, Nat.zero_add]; done) | (simp [Heap.set_set, Nat.add_assoc]; done)) | (((funext n; simp only [Heap.set]; (repeat' split) <;> simp_all)) <;> first | rfl | exact ⟨rfl, rfl⟩))) ?_
    intro i hi K11 hK11
    have hmax := checkAll_len (moreDoc d n hd20) (more_small hd20 hs hle) true
    refine AWp.seqK fun K12 hK12 => ?_
    refine AWp.seqK fun K13 hK13 => ?_
    refine AWp.region ?_
    refine AOps.s0 (Cert.move (by conv => lhs; whnf)) rfl ?_
    refine AOps.s0 (Cert.move (by conv => lhs; whnf)) rfl ?_
    refine AOps.s0 (Cert.lenA (Try.tab_ok _ _ rfl) rfl rfl rfl) rfl ?_
    refine AOps.s0 (Cert.binI rfl rfl rfl) rfl ?_
    refine AOps.nil ?_
    refine hK13 _ ?_
    clear hK13 K13
    refine AWp.cond rfl (fun hc1 => ?_) (fun hc1 => ?_)
    · first
      | (cases hc1; done)
      | skip
      refine AWp.skip ?_
      refine hK12 _ ?_
      clear hK12 K12
      refine AWp.seqK fun K14 hK14 => ?_
      refine AWp.block ?_
      refine AWp.seqK fun K15 hK15 => ?_
      refine AWp.region ?_
      have hi3 : i < (checkAll (moreDoc d n hd20) true).length := map_lt hc1
      refine AOps.s0 (Cert.move (by conv => lhs; whnf)) rfl ?_
      refine AOps.s0 (Cert.move (by conv => lhs; whnf)) rfl ?_
      refine AOps.s0 (Cert.indexA (Try.tab_ok _ _ rfl) rfl (Try.tab_ok _ _ rfl) rfl rfl rfl (by omega) (map_get (by assumption))) rfl ?_
      refine AOps.s0 (Cert.fieldV (Try.tab_ok _ _ rfl) rfl rfl (Try.tab_ok _ _ rfl) rfl rfl (by conv => lhs; whnf)) rfl ?_
      refine AOps.s0 (Cert.loadV (Try.tab_ok _ _ rfl) rfl rfl rfl) rfl ?_
      refine AOps.s0 (Cert.move (by conv => lhs; whnf)) rfl ?_
      refine AOps.s0 (Cert.binS rfl rfl rfl) rfl ?_
      refine AOps.s0 (Cert.move (by conv => lhs; whnf)) rfl ?_
      refine AOps.gC rfl rfl (fun hC => Cert.move (by conv => lhs; whnf)) rfl ?_
      refine AOps.gC rfl rfl (fun hC => Cert.move (by conv => lhs; whnf)) rfl ?_
      refine AOps.gC rfl rfl (fun hC => Cert.ungd (k := 55) rfl (by first | exact hC | exact andL hC | exact andL (andL hC) | exact andL (andL (andL hC)) | exact andR hC | simp_all) (Cert.ungd (k := 56) rfl (by first | exact hC | exact andL hC | exact andL (andL hC) | exact andL (andL (andL hC)) | exact andR hC | simp_all) (Cert.indexA (Try.tab_ok _ _ rfl) rfl (Try.tab_ok _ _ rfl) rfl rfl rfl (by omega) (map_get (by assumption))))) rfl ?_
      refine AOps.gC rfl rfl (fun hC => Cert.ungd (k := 57) rfl (by first | exact hC | exact andL hC | exact andL (andL hC) | exact andL (andL (andL hC)) | exact andR hC | simp_all) (Cert.fieldV (Try.tab_ok _ _ rfl) rfl rfl (Try.tab_ok _ _ rfl) rfl rfl (by conv => lhs; whnf))) rfl ?_
      refine AOps.gC rfl rfl (fun hC => Cert.ungd (k := 58) rfl (by first | exact hC | exact andL hC | exact andL (andL hC) | exact andL (andL (andL hC)) | exact andR hC | simp_all) (Cert.loadV (Try.tab_ok _ _ rfl) rfl rfl rfl)) rfl ?_
      refine AOps.gC rfl rfl (fun hC => Cert.ungd (k := 59) rfl (by first | exact hC | exact andL hC | exact andL (andL hC) | exact andL (andL (andL hC)) | exact andR hC | simp_all) (Cert.binI rfl rfl rfl)) rfl ?_
      refine AOps.gC rfl rfl (fun hC => Cert.ungd (k := 60) rfl (by first | exact hC | exact andL hC | exact andL (andL hC) | exact andL (andL (andL hC)) | exact andR hC | simp_all) (Cert.move (by conv => lhs; whnf))) rfl ?_
      refine AOps.gC rfl rfl (fun hC => Cert.move (by conv => lhs; whnf)) rfl ?_
      refine AOps.gC rfl rfl (fun hC => Cert.move (by conv => lhs; whnf)) rfl ?_
      refine AOps.gC rfl rfl (fun hC => Cert.ungd (k := 62) rfl (by first | exact hC | exact andL hC | exact andL (andL hC) | exact andL (andL (andL hC)) | exact andR hC | simp_all) (Cert.ungd (k := 63) rfl (by first | exact hC | exact andL hC | exact andL (andL hC) | exact andL (andL (andL hC)) | exact andR hC | simp_all) (Cert.indexA (Try.tab_ok _ _ rfl) rfl (Try.tab_ok _ _ rfl) rfl rfl rfl (by omega) (map_get (by assumption))))) rfl ?_
      refine AOps.gC rfl rfl (fun hC => Cert.ungd (k := 64) rfl (by first | exact hC | exact andL hC | exact andL (andL hC) | exact andL (andL (andL hC)) | exact andR hC | simp_all) (Cert.fieldV (Try.tab_ok _ _ rfl) rfl rfl (Try.tab_ok _ _ rfl) rfl rfl (by conv => lhs; whnf))) rfl ?_
      refine AOps.gC rfl rfl (fun hC => Cert.ungd (k := 65) rfl (by first | exact hC | exact andL hC | exact andL (andL hC) | exact andL (andL (andL hC)) | exact andR hC | simp_all) (Cert.loadV (Try.tab_ok _ _ rfl) rfl rfl rfl)) rfl ?_
      refine AOps.gC rfl rfl (fun hC => Cert.ungd (k := 66) rfl (by first | exact hC | exact andL hC | exact andL (andL hC) | exact andL (andL (andL hC)) | exact andR hC | simp_all) (Cert.binI rfl rfl rfl)) rfl ?_
      refine AOps.gC rfl rfl (fun hC => Cert.ungd (k := 61) rfl (by first | exact hC | exact andL hC | exact andL (andL hC) | exact andL (andL (andL hC)) | exact andR hC | simp_all) (Cert.pickAnd rfl rfl (fun h => by first | exact h | exact notT h | exact andI hC h | exact andI hC (notT h) | simp_all) rfl)) rfl ?_
      refine AOps.s0 (Cert.pickOr rfl rfl rfl (fun h => by first | exact h | exact notT h | exact andI hC h | exact andI hC (notT h) | simp_all)) rfl ?_
      refine AOps.nil ?_
      refine hK15 _ ?_
      clear hK15 K15
      refine AWp.cond rfl (fun hc2 => ?_) (fun hc2 => ?_)
      · first
        | (cases hc2; done)
        | skip
        refine AWp.seqK fun K16 hK16 => ?_
        refine AWp.region ?_
        refine AOps.s0 (Cert.assign (by conv => lhs; whnf)) rfl ?_
        refine AOps.nil ?_
        refine hK16 _ ?_
        clear hK16 K16
        refine AWp.ret ?_
        repeat (first | refine xBlock_ret ?_ | refine xThen_ret ?_)
        first
        | exact retQ.retF H rfl ⟨rfl, rfl⟩ (by simp only [Heap.set_set]; exact Heap.sub_set htk)
        | exact retQ.retF H rfl ⟨rfl, rfl⟩ (Heap.sub_set htk)
        | (exfalso
           have hf := more_faults hd20 (okd_nil hc0 hnl) (place_none (by have := hc0; simp only [Bool.or_eq_false_iff, decide_eq_false_iff_not] at this; exact this.2)) _ (List.getElem_mem hi3)
           have h1 : (!((checkAll (moreDoc d n hd20) true)[i].at_ == n.1) || (!decide ((checkAll (moreDoc d n hd20) true)[i].err = 6) && !decide ((checkAll (moreDoc d n hd20) true)[i].err = 7))) = true := hc2
           rcases hf with ⟨e1, e2 | e2⟩
           · rw [e1, e2] at h1; simp at h1
           · rw [e1, e2] at h1; simp at h1)
      · first
        | (cases hc2; done)
        | skip
        refine AWp.skip ?_
        refine hK14 _ ?_
        clear hK14 K14
        refine AWp.region ?_
        refine AOps.s0 (Cert.move (by conv => lhs; whnf)) rfl ?_
        refine AOps.s0 (Cert.addI rfl rfl (by first | omega | (dsimp only; omega)) (by first | omega | (dsimp only; omega))) rfl ?_
        refine AOps.s0 (Cert.assign (by conv => lhs; whnf)) rfl ?_
        refine AOps.nil ?_
        exact hK11 _ (i + 1) (Weak.to (by repeat (first | exact Keeps.nil | refine Keeps.c rfl rfl ?_ | refine Keeps.c (by (first | (first | rfl | ((conv => lhs; whnf); first | (simp [cellsA, faultsT, faultsD, namesD, Fault.mk_c, Nat.add_assoc, empty_append, Bool.and_assoc]; done) | (simp [cellsA, faultsT, faultsD, namesD, Nat.add_assoc, empty_append, Bool.and_assoc]; repeat (first | rfl | constructor)))) | rfl | (simp only [get_same, ev]; done) | (simp [*, cellsA]; done) | (show V.a (A.d (D.slice _ _ _ _)) = V.a (A.d (D.slice _ _ _ _)); simp [*, cellsA]; done))) rfl ?_)) (by repeat (first | exact Pfx.nil | apply Pfx.cons)) (by first | rfl | (first | rfl | (simp only [Heap.set_set, List.length_append, List.length_nil, List.length_cons, List.length_map, List.length_singleton, Nat.zero_add]; done) | (simp [Heap.set_set, Nat.add_assoc]; done)) | (((funext n; simp only [Heap.set]; (repeat' split) <;> simp_all)) <;> first | rfl | exact ⟨rfl, rfl⟩))) hi3 (by omega)
    · first
      | (cases hc1; done)
      | skip
      refine AWp.exit ?_
      refine hK9 _ ?_
      clear hK12 K12 hK11 K11 hK9 K9
      refine AWp.seqK fun K17 hK17 => ?_
      refine AWp.region ?_
      refine AOps.s0 (Cert.callP rfl rfl law_example) rfl ?_
      refine AOps.s0 (Cert.assign (by conv => lhs; whnf)) rfl ?_
      refine AOps.nil ?_
      refine hK17 _ ?_
      clear hK17 K17
      refine AWp.ret ?_
      repeat (first | refine xBlock_ret ?_ | refine xThen_ret ?_)
      first
      | exact retQ.retF H rfl ⟨rfl, rfl⟩ (by simp only [Heap.set_set]; exact Heap.sub_set htk)
      | exact retQ.retF H rfl ⟨rfl, rfl⟩ (Heap.sub_set htk)
      | (exfalso
         have hf := more_faults hd20 (okd_nil hc0 hnl) (place_none (by have := hc0; simp only [Bool.or_eq_false_iff, decide_eq_false_iff_not] at this; exact this.2)) _ (List.getElem_mem hi3)
         have h1 : (!((checkAll (moreDoc d n hd20) true)[i].at_ == n.1) || (!decide ((checkAll (moreDoc d n hd20) true)[i].err = 6) && !decide ((checkAll (moreDoc d n hd20) true)[i].err = 7))) = true := hc2
         rcases hf with ⟨e1, e2 | e2⟩
         · rw [e1, e2] at h1; simp at h1
         · rw [e1, e2] at h1; simp at h1)
end Go.Proofs


namespace Go.Proofs.Ytgdidaagebcocaa
open Go Go.Ab Go.Ab.Sch Go.RowKit Go.ChangeShapes Go.WideShapes Go.ChangeAt
theorem bulkAll {H : Type} (l : List (DataW H)) : Rows.uptoBulkAll l = (l.map Rows.uptoBulk).sum := by
  induction l with
  | nil => rfl
  | cons x r ih => simp only [Rows.uptoBulkAll, List.map_cons, List.sum_cons, ih]
theorem bulkB {H : Type} : Bulk (H := H) Rows.uptoBulk := by
  refine ⟨fun d => ?_, fun b => by simp [Rows.uptoBulk], fun e s => by simp only [Rows.uptoBulk, bulkAll]; omega, fun l => by simp only [Rows.uptoBulk, bulkAll]; omega⟩
  cases d with
  | lit l => cases l <;> simp [Rows.uptoBulk]
  | nil => simp [Rows.uptoBulk]
  | ptr d => simp [Rows.uptoBulk]
  | slice elems spare => simp [Rows.uptoBulk]
  | agg parts => simp [Rows.uptoBulk]
  | iface t d => simp [Rows.uptoBulk]
  | map entries => simp [Rows.uptoBulk]
  | held h => simp [Rows.uptoBulk]
abbrev rdN {H : Type} (t : TypeId) {α : Type} (R : α → List D) (sz : α → Nat) (wf : α → Prop) : Prop := ∀ N, RdN (H := H) Try.prog Rows.uptoBulk N t R sz wf
theorem rd_str {H : Type} : rdN (H := H) 9 strC Str.sz fun _ => True := fun _ => RdN.str bulkB (Try.tab_ok _ _ rfl) rfl
theorem rd_int {H : Type} : rdN (H := H) 3 intC (fun _ => 1) i64 := fun _ => RdN.int bulkB (Try.tab_ok _ _ rfl) rfl
theorem rd_bool {H : Type} : rdN (H := H) 4 (fun b : Bool => [.bool b]) (fun _ => 1) fun _ => True := fun _ => RdN.bool bulkB (Try.tab_ok _ _ rfl) rfl
theorem rd_strs {H : Type} : rdN (H := H) 39 (fun s : Slc Str => [s.d 1 strC]) (Slc.sz Str.sz) (Slc.wf fun _ => True) := RdA.slice bulkB (Try.tab_ok _ _ rfl) rfl (Try.tab_ok _ _ rfl) rfl (by decide) (fun _ => rfl) rd_str
theorem rd_ints {H : Type} : rdN (H := H) 31 (fun s : Slc Int => [s.d 1 intC]) (Slc.sz fun _ => 1) (Slc.wf i64) := RdA.slice bulkB (Try.tab_ok _ _ rfl) rfl (Try.tab_ok _ _ rfl) rfl (by decide) (fun _ => rfl) rd_int
theorem rd_val {H : Type} : rdN (H := H) 52 Val.c (fun _ => 1) fun _ => True := RdA.val bulkB (Try.tab_ok _ _ rfl) rfl rfl (Try.tab_ok _ _ rfl) rfl rfl (Try.tab_ok _ _ rfl) rfl rfl (Try.tab_ok _ _ rfl) rfl rfl (Try.tab_ok _ _ rfl) rfl rfl
theorem rd_ref {H : Type} : rdN (H := H) 33 Ref.c Ref.sz fun _ => True :=
  RdA.struct bulkB (Try.tab_ok _ _ rfl) rfl (fun N => .cons (Try.tab_ok _ _ rfl) rfl (rd_str N) (.cons (Try.tab_ok _ _ rfl) rfl (rd_ints N) .nil)) (fun a => ⟨a.1, a.2.1⟩) (fun _ => rfl) (fun _ => Nat.le_refl _) (fun _ _ => trivial)
theorem rd_arg {H : Type} : rdN (H := H) 107 Arg.c Arg.sz fun _ => True :=
  RdA.struct bulkB (Try.tab_ok _ _ rfl) rfl (fun N => .cons (Try.tab_ok _ _ rfl) rfl (rd_str N) (.cons (Try.tab_ok _ _ rfl) rfl (rd_val N) .nil)) (fun a => ⟨a.1, a.2.1⟩) (fun _ => rfl) (fun _ => Nat.le_refl _) (fun _ _ => trivial)
theorem rd_args {H : Type} : rdN (H := H) 102 (fun s : Slc Arg => [s.d 6 Arg.c]) (Slc.sz Arg.sz) (Slc.wf fun _ => True) := RdA.slice bulkB (Try.tab_ok _ _ rfl) rfl (Try.tab_ok _ _ rfl) rfl (by decide) (fun _ => rfl) rd_arg
theorem rd_dir {H : Type} : rdN (H := H) 104 Dir.c Dir.sz fun _ => True :=
  RdA.struct bulkB (Try.tab_ok _ _ rfl) rfl (fun N => .cons (Try.tab_ok _ _ rfl) rfl (rd_str N) (.cons (Try.tab_ok _ _ rfl) rfl (rd_args N) .nil)) (fun a => ⟨a.1, a.2.1⟩) (fun _ => rfl) (fun _ => Nat.le_refl _) (fun _ _ => trivial)
theorem rd_dirs {H : Type} : rdN (H := H) 35 (fun s : Slc Dir => [s.d 2 Dir.c]) (Slc.sz Dir.sz) (Slc.wf fun _ => True) := RdA.slice bulkB (Try.tab_ok _ _ rfl) rfl (Try.tab_ok _ _ rfl) rfl (by decide) (fun _ => rfl) rd_dir
theorem rd_input {H : Type} : rdN (H := H) 54 Input.c Input.sz fun _ => True :=
  RdA.struct bulkB (Try.tab_ok _ _ rfl) rfl (fun N => .cons (Try.tab_ok _ _ rfl) rfl (rd_str N) (.cons (Try.tab_ok _ _ rfl) rfl (rd_ref N) (.cons (Try.tab_ok _ _ rfl) rfl (rd_bool N) (.cons (Try.tab_ok _ _ rfl) rfl (rd_val N) (.cons (Try.tab_ok _ _ rfl) rfl (rd_dirs N) .nil)))))
    (fun a => ⟨a.1, a.2.1, a.2.2.1, a.2.2.2.1, a.2.2.2.2.1⟩) (fun _ => rfl) (fun _ => Nat.le_refl _) (fun _ _ => trivial)
theorem rd_inputs {H : Type} : rdN (H := H) 34 (fun s : Slc Ab.Input => [s.d 10 Input.c]) (Slc.sz Input.sz) (Slc.wf fun _ => True) := RdA.slice bulkB (Try.tab_ok _ _ rfl) rfl (Try.tab_ok _ _ rfl) rfl (by decide) (fun _ => rfl) rd_input
theorem rd_field {H : Type} : rdN (H := H) 37 Field.c Field.sz fun _ => True :=
  RdA.struct bulkB (Try.tab_ok _ _ rfl) rfl (fun N => .cons (Try.tab_ok _ _ rfl) rfl (rd_str N) (.cons (Try.tab_ok _ _ rfl) rfl (rd_inputs N) (.cons (Try.tab_ok _ _ rfl) rfl (rd_ref N) (.cons (Try.tab_ok _ _ rfl) rfl (rd_dirs N) .nil))))
    (fun a => ⟨a.1, a.2.1, a.2.2.1, a.2.2.2.1⟩) (fun _ => rfl) (fun _ => Nat.le_refl _) (fun _ _ => trivial)
theorem rd_fields {H : Type} : rdN (H := H) 38 (fun s : Slc Ab.Field => [s.d 5 Field.c]) (Slc.sz Field.sz) (Slc.wf fun _ => True) := RdA.slice bulkB (Try.tab_ok _ _ rfl) rfl (Try.tab_ok _ _ rfl) rfl (by decide) (fun _ => rfl) rd_field
theorem rd_member {H : Type} : rdN (H := H) 78 Member.c Member.sz fun _ => True :=
  RdA.struct bulkB (Try.tab_ok _ _ rfl) rfl (fun N => .cons (Try.tab_ok _ _ rfl) rfl (rd_str N) (.cons (Try.tab_ok _ _ rfl) rfl (rd_dirs N) .nil)) (fun a => ⟨a.1, a.2.1⟩) (fun _ => rfl) (fun _ => Nat.le_refl _) (fun _ _ => trivial)
theorem rd_members {H : Type} : rdN (H := H) 40 (fun s : Slc Member => [s.d 2 Member.c]) (Slc.sz Member.sz) (Slc.wf fun _ => True) := RdA.slice bulkB (Try.tab_ok _ _ rfl) rfl (Try.tab_ok _ _ rfl) rfl (by decide) (fun _ => rfl) rd_member
theorem rd_def {H : Type} : rdN (H := H) 42 Def.c Def.sz fun _ => True :=
  RdA.struct bulkB (Try.tab_ok _ _ rfl) rfl (fun N => .cons (Try.tab_ok _ _ rfl) rfl (rd_int N) (.cons (Try.tab_ok _ _ rfl) rfl (rd_str N) (.cons (Try.tab_ok _ _ rfl) rfl (rd_strs N) (.cons (Try.tab_ok _ _ rfl) rfl (rd_dirs N) (.cons (Try.tab_ok _ _ rfl) rfl (rd_fields N)
    (.cons (Try.tab_ok _ _ rfl) rfl (rd_members N) (.cons (Try.tab_ok _ _ rfl) rfl (rd_inputs N) .nil))))))) (fun a => ⟨a.1, a.2.1, a.2.2.1, a.2.2.2.1, a.2.2.2.2.1, a.2.2.2.2.2.1, a.2.2.2.2.2.2.1⟩) (fun _ => rfl) (fun _ => Nat.le_refl _) (fun _ _ => trivial)
theorem rd_defs {H : Type} : rdN (H := H) 22 (fun s : Slc Def => [s.d 7 Def.c]) (Slc.sz Def.sz) (Slc.wf fun _ => True) := RdA.slice bulkB (Try.tab_ok _ _ rfl) rfl (Try.tab_ok _ _ rfl) rfl (by decide) (fun _ => rfl) rd_def
theorem rd_doc {H : Type} : rdN (H := H) 24 Doc.c Doc.sz fun _ => True :=
  RdA.struct bulkB (Try.tab_ok _ _ rfl) rfl (fun N => .cons (Try.tab_ok _ _ rfl) rfl (rd_defs N) .nil) (fun a => ⟨a.1⟩) (fun _ => rfl) (fun _ => Nat.le_refl _) (fun _ _ => trivial)
theorem bd_of {d : Doc} (h : d.sz ≤ 1048576) : Bd d := by
  have hd : ∀ x : Def, 1 ≤ x.sz := fun x => by unfold Def.sz; omega
  have hdir : ∀ x : Dir, 1 ≤ x.sz := fun x => by have := x.name.sz_pos; unfold Dir.sz; omega
  have hin : ∀ x : Ab.Input, 1 ≤ x.sz := fun x => by have := x.name.sz_pos; unfold Input.sz; omega
  have hfi : ∀ x : Ab.Field, 1 ≤ x.sz := fun x => by have := x.name.sz_pos; unfold Field.sz; omega
  have hme : ∀ x : Member, 1 ≤ x.sz := fun x => by have := x.name.sz_pos; unfold Member.sz; omega
  unfold Doc.sz at h
  have h1 := d.defs.len_le hd
  refine ⟨by omega, fun t ht => ?_⟩
  have h2 : t.sz ≤ 1048576 := Nat.le_trans (Slc.mem_le (f := Def.sz) ht) h
  have e1 := t.fields.len_le hfi
  have e2 := t.members.len_le hme
  have e3 := t.inputs.len_le hin
  have e4 := t.dirs.len_le hdir
  have e5 := t.impls.len_le Str.sz_pos
  unfold Def.sz at h2
  refine ⟨by omega, by omega, by omega, by omega, by omega, fun f hf => ?_⟩
  have h3 : f.sz ≤ 1048576 := Nat.le_trans (Slc.mem_le (f := Field.sz) hf) (by omega)
  have e6 := f.args.len_le hin
  have e7 := f.dirs.len_le hdir
  unfold Field.sz at h3
  exact ⟨by omega, by omega⟩
theorem own : ownKnob Try.prog.godebug = none := by kernel_rfl
theorem laid : laidOutB Try.prog = true := by kernel_rfl
theorem bound {H : Type} {l : List (DataW H)} (hk : Rows.uptoSmall H l = true) : Rows.uptoBulkAll l ≤ 1048576 := of_decide_eq_true hk
end Go.Proofs.Ytgdidaagebcocaa

