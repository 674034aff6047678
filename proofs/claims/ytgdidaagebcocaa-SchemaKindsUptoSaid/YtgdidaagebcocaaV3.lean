import Derived.Test.YtgdidaagebcocaaV2
set_option linter.unusedVariables false
set_option linter.unusedSimpArgs false
namespace Go.Proofs
open Go Go.Ab Go.Ab.Sch
theorem ref_FieldOf_part (l : List Ab.Field) (hl : l.length ≤ 2048) (c0 c1 c2 c3 c5 c6 : D) (i : Nat) (name : List UInt8) (H : Heap) : ACalls Try.prog 26 [.agg [c0, c1, c2, c3, .slice 5 none false (((l.map Field.c).take (i : Int).toNat).drop 0), c5, c6], .d (.str name)] H fun r h' => r = fieldV (fieldOf (l.take i) name) ∧ h' = H := by
  rw [part_map]; exact ref_FieldOf c0 c1 c2 c3 c5 c6 none false (l.take i) (by simp; omega) name H
theorem fieldF_len (d : Doc) (tn : List UInt8) (l : List Ab.Field) (k : Nat) (h : (l.getD k Field.zero).args.l.length ≤ 2048) : (fieldF d tn l k).length ≤ 8192 := by
  unfold fieldF
  simp only [List.length_append]
  have h1 := names_len (l.getD k Field.zero).name.1 false (fieldOf (l.take k) (l.getD k Field.zero).name.1).isSome (tn ++ dot ++ (l.getD k Field.zero).name.1)
  have h2 := inputsF_len d (l.getD k Field.zero).args.l (tn ++ dot ++ (l.getD k Field.zero).name.1 ++ [40]) [41] (l.getD k Field.zero).args.l.length
  split
  · have := one_len ((!scalar (l.getD k Field.zero).type.name.1 && (find d.defs.l (l.getD k Field.zero).type.name.1).isSome) && decide (kind d (l.getD k Field.zero).type.name.1 = 5)) 10 (tn ++ dot ++ (l.getD k Field.zero).name.1)
    omega
  · have := one_len true 8 (tn ++ dot ++ (l.getD k Field.zero).name.1); omega
theorem fieldsF_len (d : Doc) (tn : List UInt8) (l : List Ab.Field) (ha : ∀ f ∈ l, f.args.l.length ≤ 2048) (n : Nat) : (fieldsF d tn l n).length ≤ 8192 * n := by
  induction n with
  | zero => simp [fieldsF]
  | succ n ih =>
    rw [fieldsF_succ, List.length_append]
    have := fieldF_len d tn l n (by
      rw [List.getD_eq_getElem?_getD]
      cases e : l[n]? with
      | none => exact Nat.zero_le _
      | some f => exact ha f (List.mem_of_getElem? e))
    omega
set_option maxRecDepth 100000 in
set_option maxHeartbeats 2000000 in
theorem ref_fields (d : Doc) (t : Def) (hl : t.fields.l.length ≤ 2048) (ha : ∀ f ∈ t.fields.l, f.args.l.length ≤ 2048) (H : Heap) :
    ACalls Try.prog 32 [.agg d.c, .agg t.c] H fun r h' => r = .a (.d (faultsD (fieldsF d t.name.1 t.fields.l t.fields.l.length))) ∧ h' = H := by
  refine ACalls.of_wp (fn := Try.f32) (c := _) Try.tab_ok (fun _ _ => Try.call32 _ _) Try.func32 rfl (n := 95) rfl (rs := [.tmp 4]) rfl rfl ?_
  refine AWp.tok 2 fun tk htk => ?_
  refine AWp.seqK fun K1 hK1 => ?_
  refine AWp.region ?_
  refine AOps.s0 (Cert.boxV rfl) rfl ?_
  refine AOps.s0 (Cert.boxV rfl) rfl ?_
  refine AOps.s0 (Cert.assign (by conv => lhs; whnf)) rfl ?_
  refine AOps.nil ?_
  refine hK1 _ ?_
  clear hK1 K1
  refine AWp.seqK fun K2 hK2 => ?_
  refine AWp.region ?_
  refine AOps.s0 (Cert.assign (by conv => lhs; whnf)) rfl ?_
  refine AOps.nil ?_
  refine hK2 _ ?_
  clear hK2 K2
  refine AWp.seqK fun K3 hK3 => ?_
  refine AWp.nilTok 5 2 tk rfl (Heap.set_same _ _ _) ?_
  refine AWp.seqK fun K4 hK4 => ?_
  refine AWp.region ?_
  refine AOps.s0 (Cert.assign (by conv => lhs; whnf)) rfl ?_
  refine AOps.nil ?_
  refine hK4 _ ?_
  clear hK4 K4
  refine AWp.block ?_
  refine AWp.loopH (KeepsT.cons (k := 2) (by conv => lhs; whnf) (KeepsT.cons (k := 3) (by conv => lhs; whnf) KeepsT.nil)) (fun (x : Nat × List Fault) => [(6, .a (.d (.int .i64 x.1))), (5, .a (.d (faultsT tk x.2)))]) (fun x => H.set tk (some (.tok 2 x.2.length)))
    (fun x => t.fields.l.length - x.1) (fun x => x.1 ≤ t.fields.l.length ∧ x.2 = fieldsF d t.name.1 t.fields.l x.1 ∧ x.2.length ≤ 8192 * x.1) (0, []) ⟨Nat.zero_le _, rfl, Nat.le_refl _⟩ (Weak.to (by repeat (first | exact Keeps.nil | refine Keeps.c rfl rfl ?_ | refine Keeps.c (by (first | (first | rfl | ((conv => lhs; whnf); first | (simp [cellsA, faultsT, faultsD, namesD, Fault.mk_c, Nat.add_assoc, empty_append, Bool.and_assoc]; done) | (simp [cellsA, faultsT, faultsD, namesD, Nat.add_assoc, empty_append, Bool.and_assoc]; repeat (first | rfl | constructor)))) | rfl | (simp only [get_same, ev]; done) | (simp [*, cellsA]; done) | (show V.a (A.d (D.slice _ _ _ _)) = V.a (A.d (D.slice _ _ _ _)); simp [*, cellsA]; done))) rfl ?_)) (by repeat (first | exact Pfx.nil | apply Pfx.cons)) (by first | rfl | (first | rfl | (simp only [Heap.set_set, List.length_append, List.length_nil, List.length_cons, List.length_map, List.length_singleton, Nat.zero_add]; done) | (simp [Heap.set_set, Nat.add_assoc]; done)) | (((funext n; simp only [Heap.set]; (repeat' split) <;> simp_all)) <;> first | rfl | exact ⟨rfl, rfl⟩))) ?_
  rintro ⟨i, F⟩ ⟨hi, hF, hF2⟩ K5 hK5
  dsimp only at hi hF hF2
  refine AWp.seqK fun K6 hK6 => ?_
  refine AWp.seqK fun K7 hK7 => ?_
  refine AWp.region ?_
  refine AOps.s0 (Cert.move (by conv => lhs; whnf)) rfl ?_
  refine AOps.s0 (Cert.fieldV (Try.tab_ok _ _ rfl) rfl rfl (Try.tab_ok _ _ rfl) rfl rfl (by conv => lhs; whnf)) rfl ?_
  refine AOps.s0 (Cert.loadV (Try.tab_ok _ _ rfl) rfl rfl rfl) rfl ?_
  refine AOps.s0 (Cert.lenA (Try.tab_ok _ _ rfl) rfl rfl rfl) rfl ?_
  refine AOps.s0 (Cert.binI rfl rfl rfl) rfl ?_
  refine AOps.nil ?_
  refine hK7 _ ?_
  clear hK7 K7
  refine AWp.cond rfl (fun hc0 => ?_) (fun hc0 => ?_)
  · first
    | (cases hc0; done)
    | skip
    refine AWp.skip ?_
    refine hK6 _ ?_
    clear hK6 K6
    refine AWp.seqK fun K8 hK8 => ?_
    refine AWp.block ?_
    refine AWp.seqK fun K9 hK9 => ?_
    refine AWp.region ?_
    have hi3 : i < t.fields.l.length := map_lt hc0
    have hx : (t.fields.l[i]'hi3).name.1.length ≤ 140737488355328 := (t.fields.l[i]'hi3).name.2
    have hx2 : t.name.1.length ≤ 140737488355328 := t.name.2
    have hn := names_len (t.fields.l[i]'hi3).name.1 false (fieldOf (t.fields.l.take i) (t.fields.l[i]'hi3).name.1).isSome (t.name.1 ++ dot ++ (t.fields.l[i]'hi3).name.1)
    have hil := inputsF_len d (t.fields.l[i]'hi3).args.l (t.name.1 ++ dot ++ (t.fields.l[i]'hi3).name.1 ++ [40]) [41] (t.fields.l[i]'hi3).args.l.length
    have hal := ha _ (List.getElem_mem hi3)
    refine AOps.s0 (Cert.fieldV (Try.tab_ok _ _ rfl) rfl rfl (Try.tab_ok _ _ rfl) rfl rfl (by conv => lhs; whnf)) rfl ?_
    refine AOps.s0 (Cert.loadV (Try.tab_ok _ _ rfl) rfl rfl rfl) rfl ?_
    refine AOps.s0 (Cert.move (by conv => lhs; whnf)) rfl ?_
    refine AOps.s0 (Cert.indexA (Try.tab_ok _ _ rfl) rfl (Try.tab_ok _ _ rfl) rfl rfl rfl (by omega) (map_get (by assumption))) rfl ?_
    refine AOps.s0 (Cert.loadV (Try.tab_ok _ _ rfl) rfl rfl rfl) rfl ?_
    refine AOps.sL (Cert.allocL (Try.tab_ok _ _ rfl) rfl (by repeat (first | exact Snoc.nil | apply Snoc.cons))) rfl ?_
    refine AOps.sLn (Cert.storeLF (Try.tab_ok _ _ rfl) rfl rfl rfl rfl rfl (by repeat (first | exact SetAt.zero | apply SetAt.succ))) ?_
    refine AOps.nil ?_
    refine hK9 _ ?_
    clear hK9 K9
    refine AWp.freeze 7 _ rfl (by repeat (first | exact Snoc.nil | apply Snoc.cons)) (Keeps.c (k := 2) (by conv => lhs; whnf) (by rfl) (Keeps.c (k := 3) (by conv => lhs; whnf) (by rfl) (Keeps.c (k := 5) (by conv => lhs; whnf) (by rfl) (Keeps.c (k := 6) (by conv => lhs; whnf) (by rfl) Keeps.nil)))) ?_
    refine AWp.seqK fun K10 hK10 => ?_
    refine AWp.region ?_
    refine AOps.s0 (Cert.fieldV (Try.tab_ok _ _ rfl) rfl rfl (Try.tab_ok _ _ rfl) rfl rfl (by conv => lhs; whnf)) rfl ?_
    refine AOps.s0 (Cert.loadV (Try.tab_ok _ _ rfl) rfl rfl rfl) rfl ?_
    refine AOps.s0 (Cert.concat rfl rfl (by first | omega | (show _ ≤ 4611686018427387904; simp only [List.length_append, List.length_cons, List.length_nil]; omega))) rfl ?_
    refine AOps.s0 (Cert.fieldV (Try.tab_ok _ _ rfl) rfl rfl (Try.tab_ok _ _ rfl) rfl rfl (by conv => lhs; whnf)) rfl ?_
    refine AOps.s0 (Cert.loadV (Try.tab_ok _ _ rfl) rfl rfl rfl) rfl ?_
    refine AOps.s0 (Cert.concat rfl rfl (by first | omega | (show _ ≤ 4611686018427387904; simp only [List.length_append, List.length_cons, List.length_nil]; omega))) rfl ?_
    refine AOps.s0 (Cert.assign (by conv => lhs; whnf)) rfl ?_
    refine AOps.nil ?_
    refine hK10 _ ?_
    clear hK10 K10
    refine AWp.seqK fun K11 hK11 => ?_
    refine AWp.draw rfl ?_
    refine DOps.s0 (Cert.fieldV (Try.tab_ok _ _ rfl) rfl rfl (Try.tab_ok _ _ rfl) rfl rfl (by conv => lhs; whnf)) rfl ?_
    refine DOps.s0 (Cert.loadV (Try.tab_ok _ _ rfl) rfl rfl rfl) rfl ?_
    refine DOps.s0 (Cert.move (by conv => lhs; whnf)) rfl ?_
    refine DOps.s0 (Cert.partN (Try.tab_ok _ _ rfl) rfl (Try.tab_ok _ _ rfl) rfl rfl (by first | omega | (simp; omega)) rfl ⟨_, _, rfl, by omega, rfl⟩ (by first | exact Nat.zero_le _ | omega) (by first | exact Nat.le_refl _ | omega | (simp; omega))) rfl ?_
    refine DOps.s0 (Cert.build Try.tab_ok rfl rfl rfl rfl rfl rfl) rfl ?_
    refine DOps.s0 (Cert.fieldV (Try.tab_ok _ _ rfl) rfl rfl (Try.tab_ok _ _ rfl) rfl rfl (by conv => lhs; whnf)) rfl ?_
    refine DOps.s0 (Cert.loadV (Try.tab_ok _ _ rfl) rfl rfl rfl) rfl ?_
    refine DOps.s0 (Cert.callP rfl rfl (ref_FieldOf_part t.fields.l hl _ _ _ _ _ _ i (t.fields.l[i]'hi3).name.1)) rfl ?_
    refine DOps.s0 (Cert.move (by conv => lhs; whnf)) rfl ?_
    refine DOps.s0 (Cert.extract rfl rfl) rfl ?_
    refine DOps.s0 (Cert.extract rfl rfl) rfl ?_
    refine DOps.sL (Cert.allocL (Try.tab_ok _ _ rfl) rfl (by repeat (first | exact Snoc.nil | apply Snoc.cons))) rfl ?_
    refine DOps.sLn (Cert.storeLF (Try.tab_ok _ _ rfl) rfl rfl rfl rfl rfl (by repeat (first | exact SetAt.zero | apply SetAt.succ))) ?_
    refine DOps.s0 (Cert.assign (by conv => lhs; whnf)) rfl ?_
    refine DOps.nil (by decide +kernel) ?_
    refine hK11 _ ?_
    clear hK11 K11
    refine AWp.freeze 9 _ rfl (by repeat (first | exact Snoc.nil | apply Snoc.cons)) (Keeps.c (k := 2) (by conv => lhs; whnf) (by rfl) (Keeps.c (k := 3) (by conv => lhs; whnf) (by rfl) (Keeps.c (k := 5) (by conv => lhs; whnf) (by rfl) (Keeps.c (k := 6) (by conv => lhs; whnf) (by rfl) (Keeps.c (k := 7) (by conv => lhs; whnf) (by rfl) (Keeps.c (k := 8) (by conv => lhs; whnf) (by rfl) (Keeps.c (k := 10) (by conv => lhs; whnf) (by rfl) Keeps.nil))))))) ?_
    refine AWp.seqK fun K12 hK12 => ?_
    refine AWp.region ?_
    refine AOps.s0 (Cert.move (by conv => lhs; whnf)) rfl ?_
    refine AOps.s0 (Cert.fieldV (Try.tab_ok _ _ rfl) rfl rfl (Try.tab_ok _ _ rfl) rfl rfl (by conv => lhs; whnf)) rfl ?_
    refine AOps.s0 (Cert.loadV (Try.tab_ok _ _ rfl) rfl rfl rfl) rfl ?_
    refine AOps.s0 (Cert.move (by conv => lhs; whnf)) rfl ?_
    refine AOps.s0 (Cert.move (by conv => lhs; whnf)) rfl ?_
    refine AOps.s0 (Cert.callP rfl rfl (ref_names (t.fields.l[i]'hi3).name.1 false (fieldOf (t.fields.l.take i) (t.fields.l[i]'hi3).name.1).isSome (t.name.1 ++ dot ++ (t.fields.l[i]'hi3).name.1))) rfl ?_
    refine AOps.sH (Cert.append (Try.tab_ok _ _ rfl) rfl (Try.tab_ok _ _ rfl) (Try.tab_ok _ _ rfl) (.inl ⟨_, rfl⟩) rfl rfl (by decide) rfl rfl (by first | exact .inl rfl | exact .inr rfl) (by first | exact .inl rfl | exact .inr rfl) (by (first | assumption | exact Heap.set_same _ _ _ | ((repeat (refine (Heap.set_other _ _ (by first | assumption | (apply Ne.symm; assumption))).trans ?_)); first | assumption | exact Heap.set_same _ _ _) | (simp only [Heap.set_set, Heap.set_same]; done) | (simp [Heap.set, *]; done))) (by first | rfl | (simp; done)) (by (first | assumption | (simp [maxN]; done) | (simp [maxN]; omega) | (simp [maxN, Nat.add_mul] at *; omega))) (by (first | assumption | (simp [maxN]; done) | (simp [maxN]; omega) | (simp [maxN, Nat.add_mul] at *; omega)))) rfl ?_
    refine AOps.s0 (Cert.assign (by conv => lhs; whnf)) rfl ?_
    refine AOps.nil ?_
    refine hK12 _ ?_
    clear hK12 K12
    refine AWp.seqK fun K13 hK13 => ?_
    refine AWp.region ?_
    refine AOps.s0 (Cert.loadV (Try.tab_ok _ _ rfl) rfl rfl rfl) rfl ?_
    refine AOps.s0 (Cert.fieldV (Try.tab_ok _ _ rfl) rfl rfl (Try.tab_ok _ _ rfl) rfl rfl (by conv => lhs; whnf)) rfl ?_
    refine AOps.s0 (Cert.fieldV (Try.tab_ok _ _ rfl) rfl rfl (Try.tab_ok _ _ rfl) rfl rfl (by conv => lhs; whnf)) rfl ?_
    refine AOps.s0 (Cert.loadV (Try.tab_ok _ _ rfl) rfl rfl rfl) rfl ?_
    refine AOps.s0 (Cert.callP rfl rfl (ref_Find d _)) rfl ?_
    refine AOps.s0 (Cert.move (by conv => lhs; whnf)) rfl ?_
    refine AOps.s0 (Cert.extract rfl rfl) rfl ?_
    refine AOps.s0 (Cert.extract rfl rfl) rfl ?_
    refine AOps.sL (Cert.allocL (Try.tab_ok _ _ rfl) rfl (by repeat (first | exact Snoc.nil | apply Snoc.cons))) rfl ?_
    refine AOps.sLn (Cert.storeLF (Try.tab_ok _ _ rfl) rfl rfl rfl rfl rfl (by repeat (first | exact SetAt.zero | apply SetAt.succ))) ?_
    refine AOps.s0 (Cert.assign (by conv => lhs; whnf)) rfl ?_
    refine AOps.nil ?_
    refine hK13 _ ?_
    clear hK13 K13
    refine AWp.freeze 11 _ rfl (by repeat (first | exact Snoc.nil | apply Snoc.cons)) (Keeps.c (k := 2) (by conv => lhs; whnf) (by rfl) (Keeps.c (k := 3) (by conv => lhs; whnf) (by rfl) (Keeps.c (k := 5) (by conv => lhs; whnf) (by rfl) (Keeps.c (k := 6) (by conv => lhs; whnf) (by rfl) (Keeps.c (k := 7) (by conv => lhs; whnf) (by rfl) (Keeps.c (k := 8) (by conv => lhs; whnf) (by rfl) (Keeps.c (k := 12) (by conv => lhs; whnf) (by rfl) Keeps.nil))))))) ?_
    refine AWp.seqJH (KeepsT.cons (k := 2) (by conv => lhs; whnf) (KeepsT.cons (k := 3) (by conv => lhs; whnf) (KeepsT.cons (k := 6) (by conv => lhs; whnf) (KeepsT.cons (k := 7) (by conv => lhs; whnf) (KeepsT.cons (k := 8) (by conv => lhs; whnf) (KeepsT.cons (k := 11) (by conv => lhs; whnf) (KeepsT.cons (k := 12) (by conv => lhs; whnf) KeepsT.nil))))))) (fun (F : List Fault) => [(5, .a (.d (faultsT tk F)))]) (fun F => H.set tk (some (.tok 2 F.length))) (fun F1 => F1 = F ++ (names (t.fields.l[i]'hi3).name.1 false (fieldOf (t.fields.l.take i) (t.fields.l[i]'hi3).name.1).isSome (t.name.1 ++ dot ++ (t.fields.l[i]'hi3).name.1) ++ (if knownB d (t.fields.l[i]'hi3).type.name.1 then one ((!scalar (t.fields.l[i]'hi3).type.name.1 && (find d.defs.l (t.fields.l[i]'hi3).type.name.1).isSome) && decide (kind d (t.fields.l[i]'hi3).type.name.1 = 5)) 10 (t.name.1 ++ dot ++ (t.fields.l[i]'hi3).name.1) else one true 8 (t.name.1 ++ dot ++ (t.fields.l[i]'hi3).name.1)))) ?_ ?_
    · intro K14 hK14
      refine AWp.seqK fun K15 hK15 => ?_
      refine AWp.region ?_
      refine AOps.s0 (Cert.loadV (Try.tab_ok _ _ rfl) rfl rfl rfl) rfl ?_
      refine AOps.s0 (Cert.fieldV (Try.tab_ok _ _ rfl) rfl rfl (Try.tab_ok _ _ rfl) rfl rfl (by conv => lhs; whnf)) rfl ?_
      refine AOps.s0 (Cert.fieldV (Try.tab_ok _ _ rfl) rfl rfl (Try.tab_ok _ _ rfl) rfl rfl (by conv => lhs; whnf)) rfl ?_
      refine AOps.s0 (Cert.loadV (Try.tab_ok _ _ rfl) rfl rfl rfl) rfl ?_
      refine AOps.s0 (Cert.callP rfl rfl (ref_known d _)) rfl ?_
      refine AOps.s0 (Cert.notB rfl) rfl ?_
      refine AOps.nil ?_
      refine hK15 _ ?_
      clear hK15 K15
      refine AWp.cond rfl (fun hc1 => ?_) (fun hc1 => ?_)
      · first
        | (cases hc1; done)
        | skip
        refine AWp.region ?_
        refine AOps.s0 (Cert.move (by conv => lhs; whnf)) rfl ?_
        refine AOps.s0 (Cert.move (by conv => lhs; whnf)) rfl ?_
        refine AOps.s0 (Cert.build Try.tab_ok rfl rfl rfl rfl rfl rfl) rfl ?_
        refine AOps.s0 (Cert.buildSlice (Try.tab_ok _ _ rfl) rfl (Try.tab_ok _ _ rfl) rfl rfl rfl rfl rfl rfl) rfl ?_
        refine AOps.sH (Cert.append (Try.tab_ok _ _ rfl) rfl (Try.tab_ok _ _ rfl) (Try.tab_ok _ _ rfl) (.inl ⟨_, rfl⟩) rfl rfl (by decide) rfl rfl (by first | exact .inl rfl | exact .inr rfl) (by first | exact .inl rfl | exact .inr rfl) (by (first | assumption | exact Heap.set_same _ _ _ | ((repeat (refine (Heap.set_other _ _ (by first | assumption | (apply Ne.symm; assumption))).trans ?_)); first | assumption | exact Heap.set_same _ _ _) | (simp only [Heap.set_set, Heap.set_same]; done) | (simp [Heap.set, *]; done))) (by first | rfl | (simp; done)) (by (first | assumption | (simp [maxN]; done) | (simp [maxN]; omega) | (simp [maxN, Nat.add_mul] at *; omega))) (by (first | assumption | (simp [maxN]; done) | (simp [maxN]; omega) | (simp [maxN, Nat.add_mul] at *; omega)))) rfl ?_
        refine AOps.s0 (Cert.assign (by conv => lhs; whnf)) rfl ?_
        refine AOps.nil ?_
        first
        | (refine hK14 _ (F ++ names (t.fields.l[i]'hi3).name.1 false (fieldOf (t.fields.l.take i) (t.fields.l[i]'hi3).name.1).isSome (t.name.1 ++ dot ++ (t.fields.l[i]'hi3).name.1) ++ [⟨8, t.name.1 ++ dot ++ (t.fields.l[i]'hi3).name.1⟩]) (Weak.to (by repeat (first | exact Keeps.nil | refine Keeps.c rfl rfl ?_ | refine Keeps.c (by (first | (first | rfl | ((conv => lhs; whnf); first | (simp [cellsA, faultsT, faultsD, namesD, Fault.mk_c, Nat.add_assoc, empty_append, Bool.and_assoc]; done) | (simp [cellsA, faultsT, faultsD, namesD, Nat.add_assoc, empty_append, Bool.and_assoc]; repeat (first | rfl | constructor)))) | rfl | (simp only [get_same, ev]; done) | (simp [*, cellsA]; done) | (show V.a (A.d (D.slice _ _ _ _)) = V.a (A.d (D.slice _ _ _ _)); simp [*, cellsA]; done))) rfl ?_)) (by repeat (first | exact Pfx.nil | apply Pfx.cons)) (by first | rfl | (first | rfl | (simp only [Heap.set_set, List.length_append, List.length_nil, List.length_cons, List.length_map, List.length_singleton, Nat.zero_add]; done) | (simp [Heap.set_set, Nat.add_assoc]; done)) | (((funext n; simp only [Heap.set]; (repeat' split) <;> simp_all)) <;> first | rfl | exact ⟨rfl, rfl⟩))) ?_
           have h1 : (!knownB d (t.fields.l[i]'hi3).type.name.1) = true := hc1
           have h2 : knownB d (t.fields.l[i]'hi3).type.name.1 = false := by simpa using h1
           rw [h2]; simp [one])
        | (refine hK14 _ (F ++ names (t.fields.l[i]'hi3).name.1 false (fieldOf (t.fields.l.take i) (t.fields.l[i]'hi3).name.1).isSome (t.name.1 ++ dot ++ (t.fields.l[i]'hi3).name.1) ++ [⟨10, t.name.1 ++ dot ++ (t.fields.l[i]'hi3).name.1⟩]) (Weak.to (by repeat (first | exact Keeps.nil | refine Keeps.c rfl rfl ?_ | refine Keeps.c (by (first | (first | rfl | ((conv => lhs; whnf); first | (simp [cellsA, faultsT, faultsD, namesD, Fault.mk_c, Nat.add_assoc, empty_append, Bool.and_assoc]; done) | (simp [cellsA, faultsT, faultsD, namesD, Nat.add_assoc, empty_append, Bool.and_assoc]; repeat (first | rfl | constructor)))) | rfl | (simp only [get_same, ev]; done) | (simp [*, cellsA]; done) | (show V.a (A.d (D.slice _ _ _ _)) = V.a (A.d (D.slice _ _ _ _)); simp [*, cellsA]; done))) rfl ?_)) (by repeat (first | exact Pfx.nil | apply Pfx.cons)) (by first | rfl | (first | rfl | (simp only [Heap.set_set, List.length_append, List.length_nil, List.length_cons, List.length_map, List.length_singleton, Nat.zero_add]; done) | (simp [Heap.set_set, Nat.add_assoc]; done)) | (((funext n; simp only [Heap.set]; (repeat' split) <;> simp_all)) <;> first | rfl | exact ⟨rfl, rfl⟩))) ?_
           have h1 : (!knownB d (t.fields.l[i]'hi3).type.name.1) = false := hc1
           have h2 : knownB d (t.fields.l[i]'hi3).type.name.1 = true := by simpa using h1
           have h3 : ((!scalar (t.fields.l[i]'hi3).type.name.1 && (find d.defs.l (t.fields.l[i]'hi3).type.name.1).isSome) && decide (kind d (t.fields.l[i]'hi3).type.name.1 = 5)) = true := hc2
           rw [h2, h3]; simp [one])
        | (refine hK14 _ (F ++ names (t.fields.l[i]'hi3).name.1 false (fieldOf (t.fields.l.take i) (t.fields.l[i]'hi3).name.1).isSome (t.name.1 ++ dot ++ (t.fields.l[i]'hi3).name.1)) (Weak.to (by repeat (first | exact Keeps.nil | refine Keeps.c rfl rfl ?_ | refine Keeps.c (by (first | (first | rfl | ((conv => lhs; whnf); first | (simp [cellsA, faultsT, faultsD, namesD, Fault.mk_c, Nat.add_assoc, empty_append, Bool.and_assoc]; done) | (simp [cellsA, faultsT, faultsD, namesD, Nat.add_assoc, empty_append, Bool.and_assoc]; repeat (first | rfl | constructor)))) | rfl | (simp only [get_same, ev]; done) | (simp [*, cellsA]; done) | (show V.a (A.d (D.slice _ _ _ _)) = V.a (A.d (D.slice _ _ _ _)); simp [*, cellsA]; done))) rfl ?_)) (by repeat (first | exact Pfx.nil | apply Pfx.cons)) (by first | rfl | (first | rfl | (simp only [Heap.set_set, List.length_append, List.length_nil, List.length_cons, List.length_map, List.length_singleton, Nat.zero_add]; done) | (simp [Heap.set_set, Nat.add_assoc]; done)) | (((funext n; simp only [Heap.set]; (repeat' split) <;> simp_all)) <;> first | rfl | exact ⟨rfl, rfl⟩))) ?_
           have h1 : (!knownB d (t.fields.l[i]'hi3).type.name.1) = false := hc1
           have h2 : knownB d (t.fields.l[i]'hi3).type.name.1 = true := by simpa using h1
           have h3 : ((!scalar (t.fields.l[i]'hi3).type.name.1 && (find d.defs.l (t.fields.l[i]'hi3).type.name.1).isSome) && decide (kind d (t.fields.l[i]'hi3).type.name.1 = 5)) = false := hc2
           rw [h2, h3]; simp [one])
      · first
        | (cases hc1; done)
        | skip
        refine AWp.seqK fun K16 hK16 => ?_
        refine AWp.region ?_
        refine AOps.s0 (Cert.fieldV (Try.tab_ok _ _ rfl) rfl rfl (Try.tab_ok _ _ rfl) rfl rfl (by conv => lhs; whnf)) rfl ?_
        refine AOps.s0 (Cert.fieldV (Try.tab_ok _ _ rfl) rfl rfl (Try.tab_ok _ _ rfl) rfl rfl (by conv => lhs; whnf)) rfl ?_
        refine AOps.s0 (Cert.loadV (Try.tab_ok _ _ rfl) rfl rfl rfl) rfl ?_
        refine AOps.s0 (Cert.callP rfl rfl (ref_Scalar _)) rfl ?_
        refine AOps.s0 (Cert.notB rfl) rfl ?_
        refine AOps.s0 (Cert.move (by conv => lhs; whnf)) rfl ?_
        refine AOps.gC rfl rfl (fun hC => Cert.move (by conv => lhs; whnf)) rfl ?_
        refine AOps.s0 (Cert.pickAnd rfl rfl (fun h => by first | exact h | exact notT h | exact andI hC h | exact andI hC (notT h) | simp_all) rfl) rfl ?_
        refine AOps.s0 (Cert.move (by conv => lhs; whnf)) rfl ?_
        refine AOps.gC rfl rfl (fun hC => Cert.fieldV (Try.tab_ok _ _ rfl) rfl rfl (Try.tab_ok _ _ rfl) rfl rfl (by conv => lhs; whnf)) rfl ?_
        refine AOps.gC rfl rfl (fun hC => Cert.ungd (k := 77) rfl (by first | exact hC | exact andL hC | exact andL (andL hC) | exact andL (andL (andL hC)) | exact andR hC | simp_all) (Cert.loadV (Try.tab_ok _ _ rfl) rfl rfl rfl)) rfl ?_
        refine AOps.gC rfl rfl (fun hC => Cert.ungd (k := 78) rfl (by first | exact hC | exact andL hC | exact andL (andL hC) | exact andL (andL (andL hC)) | exact andR hC | simp_all) (Cert.binI rfl rfl rfl)) rfl ?_
        refine AOps.s0 (Cert.pickAnd rfl rfl (fun h => by first | exact h | exact notT h | exact andI hC h | exact andI hC (notT h) | simp_all) rfl) rfl ?_
        refine AOps.nil ?_
        refine hK16 _ ?_
        clear hK16 K16
        refine AWp.cond rfl (fun hc2 => ?_) (fun hc2 => ?_)
        · first
          | (cases hc2; done)
          | skip
          refine AWp.region ?_
          refine AOps.s0 (Cert.move (by conv => lhs; whnf)) rfl ?_
          refine AOps.s0 (Cert.move (by conv => lhs; whnf)) rfl ?_
          refine AOps.s0 (Cert.build Try.tab_ok rfl rfl rfl rfl rfl rfl) rfl ?_
          refine AOps.s0 (Cert.buildSlice (Try.tab_ok _ _ rfl) rfl (Try.tab_ok _ _ rfl) rfl rfl rfl rfl rfl rfl) rfl ?_
          refine AOps.sH (Cert.append (Try.tab_ok _ _ rfl) rfl (Try.tab_ok _ _ rfl) (Try.tab_ok _ _ rfl) (.inl ⟨_, rfl⟩) rfl rfl (by decide) rfl rfl (by first | exact .inl rfl | exact .inr rfl) (by first | exact .inl rfl | exact .inr rfl) (by (first | assumption | exact Heap.set_same _ _ _ | ((repeat (refine (Heap.set_other _ _ (by first | assumption | (apply Ne.symm; assumption))).trans ?_)); first | assumption | exact Heap.set_same _ _ _) | (simp only [Heap.set_set, Heap.set_same]; done) | (simp [Heap.set, *]; done))) (by first | rfl | (simp; done)) (by (first | assumption | (simp [maxN]; done) | (simp [maxN]; omega) | (simp [maxN, Nat.add_mul] at *; omega))) (by (first | assumption | (simp [maxN]; done) | (simp [maxN]; omega) | (simp [maxN, Nat.add_mul] at *; omega)))) rfl ?_
          refine AOps.s0 (Cert.assign (by conv => lhs; whnf)) rfl ?_
          refine AOps.nil ?_
          first
          | (refine hK14 _ (F ++ names (t.fields.l[i]'hi3).name.1 false (fieldOf (t.fields.l.take i) (t.fields.l[i]'hi3).name.1).isSome (t.name.1 ++ dot ++ (t.fields.l[i]'hi3).name.1) ++ [⟨8, t.name.1 ++ dot ++ (t.fields.l[i]'hi3).name.1⟩]) (Weak.to (by repeat (first | exact Keeps.nil | refine Keeps.c rfl rfl ?_ | refine Keeps.c (by (first | (first | rfl | ((conv => lhs; whnf); first | (simp [cellsA, faultsT, faultsD, namesD, Fault.mk_c, Nat.add_assoc, empty_append, Bool.and_assoc]; done) | (simp [cellsA, faultsT, faultsD, namesD, Nat.add_assoc, empty_append, Bool.and_assoc]; repeat (first | rfl | constructor)))) | rfl | (simp only [get_same, ev]; done) | (simp [*, cellsA]; done) | (show V.a (A.d (D.slice _ _ _ _)) = V.a (A.d (D.slice _ _ _ _)); simp [*, cellsA]; done))) rfl ?_)) (by repeat (first | exact Pfx.nil | apply Pfx.cons)) (by first | rfl | (first | rfl | (simp only [Heap.set_set, List.length_append, List.length_nil, List.length_cons, List.length_map, List.length_singleton, Nat.zero_add]; done) | (simp [Heap.set_set, Nat.add_assoc]; done)) | (((funext n; simp only [Heap.set]; (repeat' split) <;> simp_all)) <;> first | rfl | exact ⟨rfl, rfl⟩))) ?_
             have h1 : (!knownB d (t.fields.l[i]'hi3).type.name.1) = true := hc1
             have h2 : knownB d (t.fields.l[i]'hi3).type.name.1 = false := by simpa using h1
             rw [h2]; simp [one])
          | (refine hK14 _ (F ++ names (t.fields.l[i]'hi3).name.1 false (fieldOf (t.fields.l.take i) (t.fields.l[i]'hi3).name.1).isSome (t.name.1 ++ dot ++ (t.fields.l[i]'hi3).name.1) ++ [⟨10, t.name.1 ++ dot ++ (t.fields.l[i]'hi3).name.1⟩]) (Weak.to (by repeat (first | exact Keeps.nil | refine Keeps.c rfl rfl ?_ | refine Keeps.c (by (first | (first | rfl | ((conv => lhs; whnf); first | (simp [cellsA, faultsT, faultsD, namesD, Fault.mk_c, Nat.add_assoc, empty_append, Bool.and_assoc]; done) | (simp [cellsA, faultsT, faultsD, namesD, Nat.add_assoc, empty_append, Bool.and_assoc]; repeat (first | rfl | constructor)))) | rfl | (simp only [get_same, ev]; done) | (simp [*, cellsA]; done) | (show V.a (A.d (D.slice _ _ _ _)) = V.a (A.d (D.slice _ _ _ _)); simp [*, cellsA]; done))) rfl ?_)) (by repeat (first | exact Pfx.nil | apply Pfx.cons)) (by first | rfl | (first | rfl | (simp only [Heap.set_set, List.length_append, List.length_nil, List.length_cons, List.length_map, List.length_singleton, Nat.zero_add]; done) | (simp [Heap.set_set, Nat.add_assoc]; done)) | (((funext n; simp only [Heap.set]; (repeat' split) <;> simp_all)) <;> first | rfl | exact ⟨rfl, rfl⟩))) ?_
             have h1 : (!knownB d (t.fields.l[i]'hi3).type.name.1) = false := hc1
             have h2 : knownB d (t.fields.l[i]'hi3).type.name.1 = true := by simpa using h1
             have h3 : ((!scalar (t.fields.l[i]'hi3).type.name.1 && (find d.defs.l (t.fields.l[i]'hi3).type.name.1).isSome) && decide (kind d (t.fields.l[i]'hi3).type.name.1 = 5)) = true := hc2
             rw [h2, h3]; simp [one])
          | (refine hK14 _ (F ++ names (t.fields.l[i]'hi3).name.1 false (fieldOf (t.fields.l.take i) (t.fields.l[i]'hi3).name.1).isSome (t.name.1 ++ dot ++ (t.fields.l[i]'hi3).name.1)) (Weak.to (by repeat (first | exact Keeps.nil | refine Keeps.c rfl rfl ?_ | refine Keeps.c (by (first | (first | rfl | ((conv => lhs; whnf); first | (simp [cellsA, faultsT, faultsD, namesD, Fault.mk_c, Nat.add_assoc, empty_append, Bool.and_assoc]; done) | (simp [cellsA, faultsT, faultsD, namesD, Nat.add_assoc, empty_append, Bool.and_assoc]; repeat (first | rfl | constructor)))) | rfl | (simp only [get_same, ev]; done) | (simp [*, cellsA]; done) | (show V.a (A.d (D.slice _ _ _ _)) = V.a (A.d (D.slice _ _ _ _)); simp [*, cellsA]; done))) rfl ?_)) (by repeat (first | exact Pfx.nil | apply Pfx.cons)) (by first | rfl | (first | rfl | (simp only [Heap.set_set, List.length_append, List.length_nil, List.length_cons, List.length_map, List.length_singleton, Nat.zero_add]; done) | (simp [Heap.set_set, Nat.add_assoc]; done)) | (((funext n; simp only [Heap.set]; (repeat' split) <;> simp_all)) <;> first | rfl | exact ⟨rfl, rfl⟩))) ?_
             have h1 : (!knownB d (t.fields.l[i]'hi3).type.name.1) = false := hc1
             have h2 : knownB d (t.fields.l[i]'hi3).type.name.1 = true := by simpa using h1
             have h3 : ((!scalar (t.fields.l[i]'hi3).type.name.1 && (find d.defs.l (t.fields.l[i]'hi3).type.name.1).isSome) && decide (kind d (t.fields.l[i]'hi3).type.name.1 = 5)) = false := hc2
             rw [h2, h3]; simp [one])
        · first
          | (cases hc2; done)
          | skip
          refine AWp.skip ?_
          first
          | (refine hK14 _ (F ++ names (t.fields.l[i]'hi3).name.1 false (fieldOf (t.fields.l.take i) (t.fields.l[i]'hi3).name.1).isSome (t.name.1 ++ dot ++ (t.fields.l[i]'hi3).name.1) ++ [⟨8, t.name.1 ++ dot ++ (t.fields.l[i]'hi3).name.1⟩]) (Weak.to (by repeat (first | exact Keeps.nil | refine Keeps.c rfl rfl ?_ | refine Keeps.c (by (first | (first | rfl | ((conv => lhs; whnf); first | (simp [cellsA, faultsT, faultsD, namesD, Fault.mk_c, Nat.add_assoc, empty_append, Bool.and_assoc]; done) | (simp [cellsA, faultsT, faultsD, namesD, Nat.add_assoc, empty_append, Bool.and_assoc]; repeat (first | rfl | constructor)))) | rfl | (simp only [get_same, ev]; done) | (simp [*, cellsA]; done) | (show V.a (A.d (D.slice _ _ _ _)) = V.a (A.d (D.slice _ _ _ _)); simp [*, cellsA]; done))) rfl ?_)) (by repeat (first | exact Pfx.nil | apply Pfx.cons)) (by first | rfl | (first | rfl | (simp only [Heap.set_set, List.length_append, List.length_nil, List.length_cons, List.length_map, List.length_singleton, Nat.zero_add]; done) | (simp [Heap.set_set, Nat.add_assoc]; done)) | (((funext n; simp only [Heap.set]; (repeat' split) <;> simp_all)) <;> first | rfl | exact ⟨rfl, rfl⟩))) ?_
             have h1 : (!knownB d (t.fields.l[i]'hi3).type.name.1) = true := hc1
             have h2 : knownB d (t.fields.l[i]'hi3).type.name.1 = false := by simpa using h1
             rw [h2]; simp [one])
          | (refine hK14 _ (F ++ names (t.fields.l[i]'hi3).name.1 false (fieldOf (t.fields.l.take i) (t.fields.l[i]'hi3).name.1).isSome (t.name.1 ++ dot ++ (t.fields.l[i]'hi3).name.1) ++ [⟨10, t.name.1 ++ dot ++ (t.fields.l[i]'hi3).name.1⟩]) (Weak.to (by repeat (first | exact Keeps.nil | refine Keeps.c rfl rfl ?_ | refine Keeps.c (by (first | (first | rfl | ((conv => lhs; whnf); first | (simp [cellsA, faultsT, faultsD, namesD, Fault.mk_c, Nat.add_assoc, empty_append, Bool.and_assoc]; done) | (simp [cellsA, faultsT, faultsD, namesD, Nat.add_assoc, empty_append, Bool.and_assoc]; repeat (first | rfl | constructor)))) | rfl | (simp only [get_same, ev]; done) | (simp [*, cellsA]; done) | (show V.a (A.d (D.slice _ _ _ _)) = V.a (A.d (D.slice _ _ _ _)); simp [*, cellsA]; done))) rfl ?_)) (by repeat (first | exact Pfx.nil | apply Pfx.cons)) (by first | rfl | (first | rfl | (simp only [Heap.set_set, List.length_append, List.length_nil, List.length_cons, List.length_map, List.length_singleton, Nat.zero_add]; done) | (simp [Heap.set_set, Nat.add_assoc]; done)) | (((funext n; simp only [Heap.set]; (repeat' split) <;> simp_all)) <;> first | rfl | exact ⟨rfl, rfl⟩))) ?_
             have h1 : (!knownB d (t.fields.l[i]'hi3).type.name.1) = false := hc1
             have h2 : knownB d (t.fields.l[i]'hi3).type.name.1 = true := by simpa using h1
             have h3 : ((!scalar (t.fields.l[i]'hi3).type.name.1 && (find d.defs.l (t.fields.l[i]'hi3).type.name.1).isSome) && decide (kind d (t.fields.l[i]'hi3).type.name.1 = 5)) = true := hc2
             rw [h2, h3]; simp [one])
          | (refine hK14 _ (F ++ names (t.fields.l[i]'hi3).name.1 false (fieldOf (t.fields.l.take i) (t.fields.l[i]'hi3).name.1).isSome (t.name.1 ++ dot ++ (t.fields.l[i]'hi3).name.1)) (Weak.to (by repeat (first | exact Keeps.nil | refine Keeps.c rfl rfl ?_ | refine Keeps.c (by (first | (first | rfl | ((conv => lhs; whnf); first | (simp [cellsA, faultsT, faultsD, namesD, Fault.mk_c, Nat.add_assoc, empty_append, Bool.and_assoc]; done) | (simp [cellsA, faultsT, faultsD, namesD, Nat.add_assoc, empty_append, Bool.and_assoc]; repeat (first | rfl | constructor)))) | rfl | (simp only [get_same, ev]; done) | (simp [*, cellsA]; done) | (show V.a (A.d (D.slice _ _ _ _)) = V.a (A.d (D.slice _ _ _ _)); simp [*, cellsA]; done))) rfl ?_)) (by repeat (first | exact Pfx.nil | apply Pfx.cons)) (by first | rfl | (first | rfl | (simp only [Heap.set_set, List.length_append, List.length_nil, List.length_cons, List.length_map, List.length_singleton, Nat.zero_add]; done) | (simp [Heap.set_set, Nat.add_assoc]; done)) | (((funext n; simp only [Heap.set]; (repeat' split) <;> simp_all)) <;> first | rfl | exact ⟨rfl, rfl⟩))) ?_
             have h1 : (!knownB d (t.fields.l[i]'hi3).type.name.1) = false := hc1
             have h2 : knownB d (t.fields.l[i]'hi3).type.name.1 = true := by simpa using h1
             have h3 : ((!scalar (t.fields.l[i]'hi3).type.name.1 && (find d.defs.l (t.fields.l[i]'hi3).type.name.1).isSome) && decide (kind d (t.fields.l[i]'hi3).type.name.1 = 5)) = false := hc2
             rw [h2, h3]; simp [one])
    · intro F1 hF1
      have hl1 : F1.length ≤ F.length + 3 := by
        rw [hF1, List.length_append, List.length_append]
        split
        · have := one_len ((!scalar (t.fields.l[i]'hi3).type.name.1 && (find d.defs.l (t.fields.l[i]'hi3).type.name.1).isSome) && decide (kind d (t.fields.l[i]'hi3).type.name.1 = 5)) 10 (t.name.1 ++ dot ++ (t.fields.l[i]'hi3).name.1); omega
        · have := one_len true 8 (t.name.1 ++ dot ++ (t.fields.l[i]'hi3).name.1); omega
      refine AWp.region ?_
      refine AOps.s0 (Cert.move (by conv => lhs; whnf)) rfl ?_
      refine AOps.s0 (Cert.loadV (Try.tab_ok _ _ rfl) rfl rfl rfl) rfl ?_
      refine AOps.s0 (Cert.fieldV (Try.tab_ok _ _ rfl) rfl rfl (Try.tab_ok _ _ rfl) rfl rfl (by conv => lhs; whnf)) rfl ?_
      refine AOps.s0 (Cert.loadV (Try.tab_ok _ _ rfl) rfl rfl rfl) rfl ?_
      refine AOps.s0 (Cert.move (by conv => lhs; whnf)) rfl ?_
      refine AOps.s0 (Cert.concat rfl rfl (by first | omega | (show _ ≤ 4611686018427387904; simp only [List.length_append, List.length_cons, List.length_nil]; omega))) rfl ?_
      refine AOps.s0 (Cert.callP rfl rfl (ref_inputs d _ (t.fields.l[i]'hi3).args.l (ha _ (List.getElem_mem hi3)) (t.name.1 ++ dot ++ (t.fields.l[i]'hi3).name.1 ++ [40]) [41] (by simp [dot]; omega) (by decide) )) rfl ?_
      refine AOps.sH (Cert.append (Try.tab_ok _ _ rfl) rfl (Try.tab_ok _ _ rfl) (Try.tab_ok _ _ rfl) (.inl ⟨_, rfl⟩) rfl rfl (by decide) rfl rfl (by first | exact .inl rfl | exact .inr rfl) (by first | exact .inl rfl | exact .inr rfl) (by (first | assumption | exact Heap.set_same _ _ _ | ((repeat (refine (Heap.set_other _ _ (by first | assumption | (apply Ne.symm; assumption))).trans ?_)); first | assumption | exact Heap.set_same _ _ _) | (simp only [Heap.set_set, Heap.set_same]; done) | (simp [Heap.set, *]; done))) (by first | rfl | (simp; done)) (by (first | assumption | (simp [maxN]; done) | (simp [maxN]; omega) | (simp [maxN, Nat.add_mul] at *; omega))) (by (first | assumption | (simp [maxN]; done) | (simp [maxN]; omega) | (simp [maxN, Nat.add_mul] at *; omega)))) rfl ?_
      refine AOps.s0 (Cert.assign (by conv => lhs; whnf)) rfl ?_
      refine AOps.nil ?_
      refine hK8 _ ?_
      clear hK8 K8
      refine AWp.region ?_
      refine AOps.s0 (Cert.move (by conv => lhs; whnf)) rfl ?_
      refine AOps.s0 (Cert.addI rfl rfl (by first | omega | (dsimp only; omega)) (by first | omega | (dsimp only; omega))) rfl ?_
      refine AOps.s0 (Cert.assign (by conv => lhs; whnf)) rfl ?_
      refine AOps.nil ?_
      have hm : fieldsF d t.name.1 t.fields.l (i + 1) = F1 ++ inputsF d (t.fields.l[i]'hi3).args.l (t.name.1 ++ dot ++ (t.fields.l[i]'hi3).name.1 ++ [40]) [41] (t.fields.l[i]'hi3).args.l.length := by
        rw [fieldsF_succ, hF1, hF]; unfold fieldF; rw [getD_eq _ i hi3]; simp only [List.append_assoc]
      refine hK5 _ (i + 1, F1 ++ inputsF d (t.fields.l[i]'hi3).args.l (t.name.1 ++ dot ++ (t.fields.l[i]'hi3).name.1 ++ [40]) [41] (t.fields.l[i]'hi3).args.l.length) (Weak.to (by repeat (first | exact Keeps.nil | refine Keeps.c rfl rfl ?_ | refine Keeps.c (by (first | (first | rfl | ((conv => lhs; whnf); first | (simp [cellsA, faultsT, faultsD, namesD, Fault.mk_c, Nat.add_assoc, empty_append, Bool.and_assoc]; done) | (simp [cellsA, faultsT, faultsD, namesD, Nat.add_assoc, empty_append, Bool.and_assoc]; repeat (first | rfl | constructor)))) | rfl | (simp only [get_same, ev]; done) | (simp [*, cellsA]; done) | (show V.a (A.d (D.slice _ _ _ _)) = V.a (A.d (D.slice _ _ _ _)); simp [*, cellsA]; done))) rfl ?_)) (by repeat (first | exact Pfx.nil | apply Pfx.cons)) (by first | rfl | (first | rfl | (simp only [Heap.set_set, List.length_append, List.length_nil, List.length_cons, List.length_map, List.length_singleton, Nat.zero_add]; done) | (simp [Heap.set_set, Nat.add_assoc]; done)) | (((funext n; simp only [Heap.set]; (repeat' split) <;> simp_all)) <;> first | rfl | exact ⟨rfl, rfl⟩))) ⟨hi3, hm.symm, ?_⟩ (by dsimp only; omega)
      have := fieldsF_len d t.name.1 t.fields.l ha (i + 1)
      rw [hm] at this; exact this
  · first
    | (cases hc0; done)
    | skip
    refine AWp.exit ?_
    refine hK3 _ ?_
    clear hK6 K6 hK5 K5 hK3 K3
    refine AWp.dropTok 5 rfl ?_
    refine AWp.seqK fun K17 hK17 => ?_
    refine AWp.region ?_
    refine AOps.s0 (Cert.move (by conv => lhs; whnf)) rfl ?_
    refine AOps.s0 (Cert.assign (by conv => lhs; whnf)) rfl ?_
    refine AOps.nil ?_
    refine hK17 _ ?_
    clear hK17 K17
    refine AWp.ret ?_
    repeat (first | refine xBlock_ret ?_ | refine xThen_ret ?_)
    have h1 := map_ge hc0
    have h2 : i = t.fields.l.length := Nat.le_antisymm hi h1
    subst h2
    rw [hF]
    exact retQ.retF H rfl ⟨rfl, rfl⟩ (Heap.sub_set htk)
end Go.Proofs


namespace Go.Proofs
open Go Go.Ab Go.Ab.Sch
theorem partF_len (d : Doc) (hs : Small d) (t : Def) (ht : t ∈ d.defs.l) : (partF d t).length ≤ 16777216 := by
  unfold partF
  have h1 := fieldsF_len d t.name.1 t.fields.l (hs.args t ht) t.fields.l.length
  have h2 := membersF_len t.name.1 t.members.l t.members.l.length
  have h3 := inputsF_len d t.inputs.l (t.name.1 ++ dot) [] t.inputs.l.length
  have h4 := hs.fields t ht
  have h5 := hs.members t ht
  have h6 := hs.inputs t ht
  split
  · omega
  · split
    · omega
    · split
      · omega
      · simp
theorem checkF_len (d : Doc) (hs : Small d) (n : Nat) (hn : n ≤ d.defs.l.length) : (checkF d n).length ≤ 16777221 * n := by
  induction n with
  | zero => simp [checkF]
  | succ n ih =>
    rw [checkF_succ, List.length_append]
    have := ih (by omega)
    have hlt : n < d.defs.l.length := by omega
    have h1 := wholeF_len d n (d.defs.l.getD n Def.zero)
    have h2 := partF_len d hs (d.defs.l.getD n Def.zero) (by rw [getD_eq _ n hlt]; exact List.getElem_mem hlt)
    unfold defF
    rw [List.length_append]; omega
set_option maxRecDepth 100000 in
set_option maxHeartbeats 2000000 in
theorem ref_Check (d : Doc) (hs : Small d) (need : Bool) (H : Heap) :
    ACalls Try.prog 12 [.agg d.c, .d (.bool need)] H fun r h' => r = .a (.d (faultsD (checkAll d need))) ∧ h' = H := by
  refine ACalls.of_wp (fn := Try.f12) (c := _) Try.tab_ok (fun _ _ => Try.call12 _ _) Try.func12 rfl (n := 69) rfl (rs := [.tmp 4]) rfl rfl ?_
  refine AWp.tok 2 fun tk htk => ?_
  refine AWp.seqK fun K1 hK1 => ?_
  refine AWp.region ?_
  refine AOps.s0 (Cert.boxV rfl) rfl ?_
  refine AOps.s0 (Cert.assign (by conv => lhs; whnf)) rfl ?_
  refine AOps.nil ?_
  refine hK1 _ ?_
  clear hK1 K1
  refine AWp.seqK fun K2 hK2 => ?_
  refine AWp.region ?_
  refine AOps.s0 (Cert.assign (by conv => lhs; whnf)) rfl ?_
  refine AOps.nil ?_
  refine hK2 _ ?_
  clear hK2 K2
  refine AWp.seqK fun K3 hK3 => ?_
  refine AWp.nilTok 5 2 tk rfl (Heap.set_same _ _ _) ?_
  refine AWp.seqK fun K4 hK4 => ?_
  refine AWp.region ?_
  refine AOps.s0 (Cert.assign (by conv => lhs; whnf)) rfl ?_
  refine AOps.nil ?_
  refine hK4 _ ?_
  clear hK4 K4
  refine AWp.block ?_
  refine AWp.loopH (KeepsT.cons (k := 1) (by conv => lhs; whnf) (KeepsT.cons (k := 2) (by conv => lhs; whnf) KeepsT.nil)) (fun (x : Nat × List Fault) => [(6, .a (.d (.int .i64 x.1))), (5, .a (.d (faultsT tk x.2)))]) (fun x => H.set tk (some (.tok 2 x.2.length)))
    (fun x => d.defs.l.length - x.1) (fun x => x.1 ≤ d.defs.l.length ∧ x.2 = checkF d x.1 ∧ x.2.length ≤ 16777221 * x.1) (0, []) ⟨Nat.zero_le _, rfl, Nat.le_refl _⟩ (Weak.to (by repeat (first | exact Keeps.nil | refine Keeps.c rfl rfl ?_ | refine Keeps.c (by (first | (first | rfl | ((conv => lhs; whnf); first | (simp [cellsA, faultsT, faultsD, namesD, Fault.mk_c, Nat.add_assoc, empty_append, Bool.and_assoc]; done) | (simp [cellsA, faultsT, faultsD, namesD, Nat.add_assoc, empty_append, Bool.and_assoc]; repeat (first | rfl | constructor)))) | rfl | (simp only [get_same, ev]; done) | (simp [*, cellsA]; done) | (show V.a (A.d (D.slice _ _ _ _)) = V.a (A.d (D.slice _ _ _ _)); simp [*, cellsA]; done))) rfl ?_)) (by repeat (first | exact Pfx.nil | apply Pfx.cons)) (by first | rfl | (first | rfl | (simp only [Heap.set_set, List.length_append, List.length_nil, List.length_cons, List.length_map, List.length_singleton, Nat.zero_add]; done) | (simp [Heap.set_set, Nat.add_assoc]; done)) | (((funext n; simp only [Heap.set]; (repeat' split) <;> simp_all)) <;> first | rfl | exact ⟨rfl, rfl⟩))) ?_
  rintro ⟨i, F⟩ ⟨hi, hF, hF2⟩ K5 hK5
  dsimp only at hi hF hF2
  refine AWp.seqK fun K6 hK6 => ?_
  refine AWp.seqK fun K7 hK7 => ?_
  refine AWp.region ?_
  refine AOps.s0 (Cert.move (by conv => lhs; whnf)) rfl ?_
  refine AOps.s0 (Cert.fieldV (Try.tab_ok _ _ rfl) rfl rfl (Try.tab_ok _ _ rfl) rfl rfl (by conv => lhs; whnf)) rfl ?_
  refine AOps.s0 (Cert.loadV (Try.tab_ok _ _ rfl) rfl rfl rfl) rfl ?_
  refine AOps.s0 (Cert.lenA (Try.tab_ok _ _ rfl) rfl rfl rfl) rfl ?_
  refine AOps.s0 (Cert.binI rfl rfl rfl) rfl ?_
  refine AOps.nil ?_
  refine hK7 _ ?_
  clear hK7 K7
  refine AWp.cond rfl (fun hc0 => ?_) (fun hc0 => ?_)
  · first
    | (cases hc0; done)
    | skip
    refine AWp.skip ?_
    refine hK6 _ ?_
    clear hK6 K6
    refine AWp.seqK fun K8 hK8 => ?_
    refine AWp.block ?_
    refine AWp.seqK fun K9 hK9 => ?_
    refine AWp.region ?_
    have hi3 : i < d.defs.l.length := map_lt hc0
    have hd := hs.defs
    have hx2 : (d.defs.l[i]'hi3).name.1.length ≤ 140737488355328 := (d.defs.l[i]'hi3).name.2
    have hw := wholeF_len d i (d.defs.l[i]'hi3)
    have h1 := fieldsF_len d (d.defs.l[i]'hi3).name.1 (d.defs.l[i]'hi3).fields.l (hs.args _ (List.getElem_mem hi3)) (d.defs.l[i]'hi3).fields.l.length
    have h2 := membersF_len (d.defs.l[i]'hi3).name.1 (d.defs.l[i]'hi3).members.l (d.defs.l[i]'hi3).members.l.length
    have h3 := inputsF_len d (d.defs.l[i]'hi3).inputs.l ((d.defs.l[i]'hi3).name.1 ++ dot) [] (d.defs.l[i]'hi3).inputs.l.length
    have h4 := hs.fields _ (List.getElem_mem hi3)
    have h5 := hs.members _ (List.getElem_mem hi3)
    have h6 := hs.inputs _ (List.getElem_mem hi3)
    refine AOps.s0 (Cert.fieldV (Try.tab_ok _ _ rfl) rfl rfl (Try.tab_ok _ _ rfl) rfl rfl (by conv => lhs; whnf)) rfl ?_
    refine AOps.s0 (Cert.loadV (Try.tab_ok _ _ rfl) rfl rfl rfl) rfl ?_
    refine AOps.s0 (Cert.move (by conv => lhs; whnf)) rfl ?_
    refine AOps.s0 (Cert.indexA (Try.tab_ok _ _ rfl) rfl (Try.tab_ok _ _ rfl) rfl rfl rfl (by omega) (map_get (by assumption))) rfl ?_
    refine AOps.s0 (Cert.loadV (Try.tab_ok _ _ rfl) rfl rfl rfl) rfl ?_
    refine AOps.sL (Cert.allocL (Try.tab_ok _ _ rfl) rfl (by repeat (first | exact Snoc.nil | apply Snoc.cons))) rfl ?_
    refine AOps.sLn (Cert.storeLF (Try.tab_ok _ _ rfl) rfl rfl rfl rfl rfl (by repeat (first | exact SetAt.zero | apply SetAt.succ))) ?_
    refine AOps.nil ?_
    refine hK9 _ ?_
    clear hK9 K9
    refine AWp.freeze 7 _ rfl (by repeat (first | exact Snoc.nil | apply Snoc.cons)) (Keeps.c (k := 1) (by conv => lhs; whnf) (by rfl) (Keeps.c (k := 2) (by conv => lhs; whnf) (by rfl) (Keeps.c (k := 5) (by conv => lhs; whnf) (by rfl) (Keeps.c (k := 6) (by conv => lhs; whnf) (by rfl) Keeps.nil)))) ?_
    refine AWp.seqK fun K10 hK10 => ?_
    refine AWp.region ?_
    refine AOps.s0 (Cert.move (by conv => lhs; whnf)) rfl ?_
    refine AOps.s0 (Cert.loadV (Try.tab_ok _ _ rfl) rfl rfl rfl) rfl ?_
    refine AOps.s0 (Cert.move (by conv => lhs; whnf)) rfl ?_
    refine AOps.s0 (Cert.callP rfl rfl (ref_whole d hs i hi3)) rfl ?_
    refine AOps.sH (Cert.append (Try.tab_ok _ _ rfl) rfl (Try.tab_ok _ _ rfl) (Try.tab_ok _ _ rfl) (.inl ⟨_, rfl⟩) rfl rfl (by decide) rfl rfl (by first | exact .inl rfl | exact .inr rfl) (by first | exact .inl rfl | exact .inr rfl) (by (first | assumption | exact Heap.set_same _ _ _ | ((repeat (refine (Heap.set_other _ _ (by first | assumption | (apply Ne.symm; assumption))).trans ?_)); first | assumption | exact Heap.set_same _ _ _) | (simp only [Heap.set_set, Heap.set_same]; done) | (simp [Heap.set, *]; done))) (by first | rfl | (simp; done)) (by (first | assumption | (simp [maxN]; done) | (simp [maxN]; omega) | (simp [maxN, Nat.add_mul] at *; omega))) (by (first | assumption | (simp [maxN]; done) | (simp [maxN]; omega) | (simp [maxN, Nat.add_mul] at *; omega)))) rfl ?_
    refine AOps.s0 (Cert.assign (by conv => lhs; whnf)) rfl ?_
    refine AOps.nil ?_
    refine hK10 _ ?_
    clear hK10 K10
    refine AWp.seqK fun K11 hK11 => ?_
    refine AWp.region ?_
    refine AOps.s0 (Cert.fieldV (Try.tab_ok _ _ rfl) rfl rfl (Try.tab_ok _ _ rfl) rfl rfl (by conv => lhs; whnf)) rfl ?_
    refine AOps.s0 (Cert.loadV (Try.tab_ok _ _ rfl) rfl rfl rfl) rfl ?_
    refine AOps.nil ?_
    refine hK11 _ ?_
    clear hK11 K11
    refine AWp.block ?_
    refine AWp.seqK fun K12 hK12 => ?_
    refine AWp.seqK fun K13 hK13 => ?_
    refine AWp.region ?_
    refine AOps.s0 (Cert.binI rfl rfl rfl) rfl ?_
    refine AOps.s0 (Cert.assign (by conv => lhs; whnf)) rfl ?_
    refine AOps.nil ?_
    refine hK13 _ ?_
    clear hK13 K13
    refine AWp.cond rfl (fun hc1 => ?_) (fun hc1 => ?_)
    · first
      | (cases hc1; done)
      | skip
      refine AWp.skip ?_
      refine hK12 _ ?_
      clear hK12 K12
      refine AWp.cond rfl (fun hc2 => ?_) (fun hc2 => ?_)
      · first
        | (cases hc2; done)
        | skip
        refine AWp.region ?_
        refine AOps.s0 (Cert.move (by conv => lhs; whnf)) rfl ?_
        refine AOps.s0 (Cert.loadV (Try.tab_ok _ _ rfl) rfl rfl rfl) rfl ?_
        refine AOps.s0 (Cert.loadV (Try.tab_ok _ _ rfl) rfl rfl rfl) rfl ?_
        refine AOps.s0 (Cert.callP rfl rfl (ref_fields d (d.defs.l[i]'hi3) (hs.fields _ (List.getElem_mem hi3)) (hs.args _ (List.getElem_mem hi3)))) rfl ?_
        refine AOps.sH (Cert.append (Try.tab_ok _ _ rfl) rfl (Try.tab_ok _ _ rfl) (Try.tab_ok _ _ rfl) (.inl ⟨_, rfl⟩) rfl rfl (by decide) rfl rfl (by first | exact .inl rfl | exact .inr rfl) (by first | exact .inl rfl | exact .inr rfl) (by (first | assumption | exact Heap.set_same _ _ _ | ((repeat (refine (Heap.set_other _ _ (by first | assumption | (apply Ne.symm; assumption))).trans ?_)); first | assumption | exact Heap.set_same _ _ _) | (simp only [Heap.set_set, Heap.set_same]; done) | (simp [Heap.set, *]; done))) (by first | rfl | (simp; done)) (by (first | assumption | (simp [maxN]; done) | (simp [maxN]; omega) | (simp [maxN, Nat.add_mul] at *; omega))) (by (first | assumption | (simp [maxN]; done) | (simp [maxN]; omega) | (simp [maxN, Nat.add_mul] at *; omega)))) rfl ?_
        refine AOps.s0 (Cert.assign (by conv => lhs; whnf)) rfl ?_
        refine AOps.nil ?_
        refine hK8 _ ?_
        clear hK8 K8
        refine AWp.region ?_
        refine AOps.s0 (Cert.move (by conv => lhs; whnf)) rfl ?_
        refine AOps.s0 (Cert.addI rfl rfl (by first | omega | (dsimp only; omega)) (by first | omega | (dsimp only; omega))) rfl ?_
        refine AOps.s0 (Cert.assign (by conv => lhs; whnf)) rfl ?_
        refine AOps.nil ?_
        have hm : checkF d (i + 1) = F ++ (wholeF d i (d.defs.l[i]'hi3) ++ partF d (d.defs.l[i]'hi3)) := by rw [checkF_succ, ← hF]; unfold defF; rw [getD_eq _ i hi3]
        have hlen := checkF_len d hs (i + 1) hi3
        rw [hm] at hlen
        generalize hT : d.defs.l[i]'hi3 = T at *
        first
        | (exfalso; simp only [decide_eq_true_eq, decide_eq_false_iff_not] at *; omega)
        | (have hp : partF d T = fieldsF d T.name.1 T.fields.l T.fields.l.length := by
             unfold partF; rw [if_pos (by simp only [decide_eq_true_eq, decide_eq_false_iff_not] at *; omega)]
           rw [hp] at hm hlen
           exact hK5 _ (i + 1, F ++ wholeF d i T ++ fieldsF d T.name.1 T.fields.l T.fields.l.length) (Weak.to (by repeat (first | exact Keeps.nil | refine Keeps.c rfl rfl ?_ | refine Keeps.c (by (first | (first | rfl | ((conv => lhs; whnf); first | (simp [cellsA, faultsT, faultsD, namesD, Fault.mk_c, Nat.add_assoc, empty_append, Bool.and_assoc]; done) | (simp [cellsA, faultsT, faultsD, namesD, Nat.add_assoc, empty_append, Bool.and_assoc]; repeat (first | rfl | constructor)))) | rfl | (simp only [get_same, ev]; done) | (simp [*, cellsA]; done) | (show V.a (A.d (D.slice _ _ _ _)) = V.a (A.d (D.slice _ _ _ _)); simp [*, cellsA]; done))) rfl ?_)) (by repeat (first | exact Pfx.nil | apply Pfx.cons)) (by first | rfl | (first | rfl | (simp only [Heap.set_set, List.length_append, List.length_nil, List.length_cons, List.length_map, List.length_singleton, Nat.zero_add]; done) | (simp [Heap.set_set, Nat.add_assoc]; done)) | (((funext n; simp only [Heap.set]; (repeat' split) <;> simp_all)) <;> first | rfl | exact ⟨rfl, rfl⟩))) ⟨hi3, by rw [hm, List.append_assoc], by rw [List.append_assoc]; exact hlen⟩ (by dsimp only; omega))
        | (have hp : partF d T = membersF T.name.1 T.members.l T.members.l.length := by
             unfold partF; rw [if_neg (by simp only [decide_eq_true_eq, decide_eq_false_iff_not] at *; omega), if_pos (by simp only [decide_eq_true_eq, decide_eq_false_iff_not] at *; omega)]
           rw [hp] at hm hlen
           exact hK5 _ (i + 1, F ++ wholeF d i T ++ membersF T.name.1 T.members.l T.members.l.length) (Weak.to (by repeat (first | exact Keeps.nil | refine Keeps.c rfl rfl ?_ | refine Keeps.c (by (first | (first | rfl | ((conv => lhs; whnf); first | (simp [cellsA, faultsT, faultsD, namesD, Fault.mk_c, Nat.add_assoc, empty_append, Bool.and_assoc]; done) | (simp [cellsA, faultsT, faultsD, namesD, Nat.add_assoc, empty_append, Bool.and_assoc]; repeat (first | rfl | constructor)))) | rfl | (simp only [get_same, ev]; done) | (simp [*, cellsA]; done) | (show V.a (A.d (D.slice _ _ _ _)) = V.a (A.d (D.slice _ _ _ _)); simp [*, cellsA]; done))) rfl ?_)) (by repeat (first | exact Pfx.nil | apply Pfx.cons)) (by first | rfl | (first | rfl | (simp only [Heap.set_set, List.length_append, List.length_nil, List.length_cons, List.length_map, List.length_singleton, Nat.zero_add]; done) | (simp [Heap.set_set, Nat.add_assoc]; done)) | (((funext n; simp only [Heap.set]; (repeat' split) <;> simp_all)) <;> first | rfl | exact ⟨rfl, rfl⟩))) ⟨hi3, by rw [hm, List.append_assoc], by rw [List.append_assoc]; exact hlen⟩ (by dsimp only; omega))
        | (have hp : partF d T = inputsF d T.inputs.l (T.name.1 ++ dot) [] T.inputs.l.length := by
             unfold partF; rw [if_neg (by simp only [decide_eq_true_eq, decide_eq_false_iff_not] at *; omega), if_neg (by simp only [decide_eq_true_eq, decide_eq_false_iff_not] at *; omega), if_pos (by simp only [decide_eq_true_eq, decide_eq_false_iff_not] at *; omega)]
           rw [hp] at hm hlen
           exact hK5 _ (i + 1, F ++ wholeF d i T ++ inputsF d T.inputs.l (T.name.1 ++ dot) [] T.inputs.l.length) (Weak.to (by repeat (first | exact Keeps.nil | refine Keeps.c rfl rfl ?_ | refine Keeps.c (by (first | (first | rfl | ((conv => lhs; whnf); first | (simp [cellsA, faultsT, faultsD, namesD, Fault.mk_c, Nat.add_assoc, empty_append, Bool.and_assoc]; done) | (simp [cellsA, faultsT, faultsD, namesD, Nat.add_assoc, empty_append, Bool.and_assoc]; repeat (first | rfl | constructor)))) | rfl | (simp only [get_same, ev]; done) | (simp [*, cellsA]; done) | (show V.a (A.d (D.slice _ _ _ _)) = V.a (A.d (D.slice _ _ _ _)); simp [*, cellsA]; done))) rfl ?_)) (by repeat (first | exact Pfx.nil | apply Pfx.cons)) (by first | rfl | (first | rfl | (simp only [Heap.set_set, List.length_append, List.length_nil, List.length_cons, List.length_map, List.length_singleton, Nat.zero_add]; done) | (simp [Heap.set_set, Nat.add_assoc]; done)) | (((funext n; simp only [Heap.set]; (repeat' split) <;> simp_all)) <;> first | rfl | exact ⟨rfl, rfl⟩))) ⟨hi3, by rw [hm, List.append_assoc], by rw [List.append_assoc]; exact hlen⟩ (by dsimp only; omega))
        | (have hp : partF d T = [] := by
             unfold partF; rw [if_neg (by simp only [decide_eq_true_eq, decide_eq_false_iff_not] at *; omega), if_neg (by simp only [decide_eq_true_eq, decide_eq_false_iff_not] at *; omega), if_neg (by simp only [decide_eq_true_eq, decide_eq_false_iff_not] at *; omega)]
           rw [hp, List.append_nil] at hm hlen
           exact hK5 _ (i + 1, F ++ wholeF d i T) (Weak.to (by repeat (first | exact Keeps.nil | refine Keeps.c rfl rfl ?_ | refine Keeps.c (by (first | (first | rfl | ((conv => lhs; whnf); first | (simp [cellsA, faultsT, faultsD, namesD, Fault.mk_c, Nat.add_assoc, empty_append, Bool.and_assoc]; done) | (simp [cellsA, faultsT, faultsD, namesD, Nat.add_assoc, empty_append, Bool.and_assoc]; repeat (first | rfl | constructor)))) | rfl | (simp only [get_same, ev]; done) | (simp [*, cellsA]; done) | (show V.a (A.d (D.slice _ _ _ _)) = V.a (A.d (D.slice _ _ _ _)); simp [*, cellsA]; done))) rfl ?_)) (by repeat (first | exact Pfx.nil | apply Pfx.cons)) (by first | rfl | (first | rfl | (simp only [Heap.set_set, List.length_append, List.length_nil, List.length_cons, List.length_map, List.length_singleton, Nat.zero_add]; done) | (simp [Heap.set_set, Nat.add_assoc]; done)) | (((funext n; simp only [Heap.set]; (repeat' split) <;> simp_all)) <;> first | rfl | exact ⟨rfl, rfl⟩))) ⟨hi3, hm.symm, hlen⟩ (by dsimp only; omega))
      · first
        | (cases hc2; done)
        | skip
        refine AWp.seqK fun K14 hK14 => ?_
        refine AWp.region ?_
        refine AOps.s0 (Cert.binI rfl rfl rfl) rfl ?_
        refine AOps.s0 (Cert.assign (by conv => lhs; whnf)) rfl ?_
        refine AOps.nil ?_
        refine hK14 _ ?_
        clear hK14 K14
        refine AWp.cond rfl (fun hc3 => ?_) (fun hc3 => ?_)
        · first
          | (cases hc3; done)
          | skip
          refine AWp.region ?_
          refine AOps.s0 (Cert.move (by conv => lhs; whnf)) rfl ?_
          refine AOps.s0 (Cert.loadV (Try.tab_ok _ _ rfl) rfl rfl rfl) rfl ?_
          refine AOps.s0 (Cert.callP rfl rfl (ref_members (d.defs.l[i]'hi3) (hs.members _ (List.getElem_mem hi3)))) rfl ?_
          refine AOps.sH (Cert.append (Try.tab_ok _ _ rfl) rfl (Try.tab_ok _ _ rfl) (Try.tab_ok _ _ rfl) (.inl ⟨_, rfl⟩) rfl rfl (by decide) rfl rfl (by first | exact .inl rfl | exact .inr rfl) (by first | exact .inl rfl | exact .inr rfl) (by (first | assumption | exact Heap.set_same _ _ _ | ((repeat (refine (Heap.set_other _ _ (by first | assumption | (apply Ne.symm; assumption))).trans ?_)); first | assumption | exact Heap.set_same _ _ _) | (simp only [Heap.set_set, Heap.set_same]; done) | (simp [Heap.set, *]; done))) (by first | rfl | (simp; done)) (by (first | assumption | (simp [maxN]; done) | (simp [maxN]; omega) | (simp [maxN, Nat.add_mul] at *; omega))) (by (first | assumption | (simp [maxN]; done) | (simp [maxN]; omega) | (simp [maxN, Nat.add_mul] at *; omega)))) rfl ?_
          refine AOps.s0 (Cert.assign (by conv => lhs; whnf)) rfl ?_
          refine AOps.nil ?_
          refine hK8 _ ?_
          clear hK8 K8
          refine AWp.region ?_
          refine AOps.s0 (Cert.move (by conv => lhs; whnf)) rfl ?_
          refine AOps.s0 (Cert.addI rfl rfl (by first | omega | (dsimp only; omega)) (by first | omega | (dsimp only; omega))) rfl ?_
          refine AOps.s0 (Cert.assign (by conv => lhs; whnf)) rfl ?_
          refine AOps.nil ?_
          have hm : checkF d (i + 1) = F ++ (wholeF d i (d.defs.l[i]'hi3) ++ partF d (d.defs.l[i]'hi3)) := by rw [checkF_succ, ← hF]; unfold defF; rw [getD_eq _ i hi3]
          have hlen := checkF_len d hs (i + 1) hi3
          rw [hm] at hlen
          generalize hT : d.defs.l[i]'hi3 = T at *
          first
          | (exfalso; simp only [decide_eq_true_eq, decide_eq_false_iff_not] at *; omega)
          | (have hp : partF d T = fieldsF d T.name.1 T.fields.l T.fields.l.length := by
               unfold partF; rw [if_pos (by simp only [decide_eq_true_eq, decide_eq_false_iff_not] at *; omega)]
             rw [hp] at hm hlen
             exact hK5 _ (i + 1, F ++ wholeF d i T ++ fieldsF d T.name.1 T.fields.l T.fields.l.length) (Weak.to (by repeat (first | exact Keeps.nil | refine Keeps.c rfl rfl ?_ | refine Keeps.c (by (first | (first | rfl | ((conv => lhs; whnf); first | (simp [cellsA, faultsT, faultsD, namesD, Fault.mk_c, Nat.add_assoc, empty_append, Bool.and_assoc]; done) | (simp [cellsA, faultsT, faultsD, namesD, Nat.add_assoc, empty_append, Bool.and_assoc]; repeat (first | rfl | constructor)))) | rfl | (simp only [get_same, ev]; done) | (simp [*, cellsA]; done) | (show V.a (A.d (D.slice _ _ _ _)) = V.a (A.d (D.slice _ _ _ _)); simp [*, cellsA]; done))) rfl ?_)) (by repeat (first | exact Pfx.nil | apply Pfx.cons)) (by first | rfl | (first | rfl | (simp only [Heap.set_set, List.length_append, List.length_nil, List.length_cons, List.length_map, List.length_singleton, Nat.zero_add]; done) | (simp [Heap.set_set, Nat.add_assoc]; done)) | (((funext n; simp only [Heap.set]; (repeat' split) <;> simp_all)) <;> first | rfl | exact ⟨rfl, rfl⟩))) ⟨hi3, by rw [hm, List.append_assoc], by rw [List.append_assoc]; exact hlen⟩ (by dsimp only; omega))
          | (have hp : partF d T = membersF T.name.1 T.members.l T.members.l.length := by
               unfold partF; rw [if_neg (by simp only [decide_eq_true_eq, decide_eq_false_iff_not] at *; omega), if_pos (by simp only [decide_eq_true_eq, decide_eq_false_iff_not] at *; omega)]
             rw [hp] at hm hlen
             exact hK5 _ (i + 1, F ++ wholeF d i T ++ membersF T.name.1 T.members.l T.members.l.length) (Weak.to (by repeat (first | exact Keeps.nil | refine Keeps.c rfl rfl ?_ | refine Keeps.c (by (first | (first | rfl | ((conv => lhs; whnf); first | (simp [cellsA, faultsT, faultsD, namesD, Fault.mk_c, Nat.add_assoc, empty_append, Bool.and_assoc]; done) | (simp [cellsA, faultsT, faultsD, namesD, Nat.add_assoc, empty_append, Bool.and_assoc]; repeat (first | rfl | constructor)))) | rfl | (simp only [get_same, ev]; done) | (simp [*, cellsA]; done) | (show V.a (A.d (D.slice _ _ _ _)) = V.a (A.d (D.slice _ _ _ _)); simp [*, cellsA]; done))) rfl ?_)) (by repeat (first | exact Pfx.nil | apply Pfx.cons)) (by first | rfl | (first | rfl | (simp only [Heap.set_set, List.length_append, List.length_nil, List.length_cons, List.length_map, List.length_singleton, Nat.zero_add]; done) | (simp [Heap.set_set, Nat.add_assoc]; done)) | (((funext n; simp only [Heap.set]; (repeat' split) <;> simp_all)) <;> first | rfl | exact ⟨rfl, rfl⟩))) ⟨hi3, by rw [hm, List.append_assoc], by rw [List.append_assoc]; exact hlen⟩ (by dsimp only; omega))
          | (have hp : partF d T = inputsF d T.inputs.l (T.name.1 ++ dot) [] T.inputs.l.length := by
               unfold partF; rw [if_neg (by simp only [decide_eq_true_eq, decide_eq_false_iff_not] at *; omega), if_neg (by simp only [decide_eq_true_eq, decide_eq_false_iff_not] at *; omega), if_pos (by simp only [decide_eq_true_eq, decide_eq_false_iff_not] at *; omega)]
             rw [hp] at hm hlen
             exact hK5 _ (i + 1, F ++ wholeF d i T ++ inputsF d T.inputs.l (T.name.1 ++ dot) [] T.inputs.l.length) (Weak.to (by repeat (first | exact Keeps.nil | refine Keeps.c rfl rfl ?_ | refine Keeps.c (by (first | (first | rfl | ((conv => lhs; whnf); first | (simp [cellsA, faultsT, faultsD, namesD, Fault.mk_c, Nat.add_assoc, empty_append, Bool.and_assoc]; done) | (simp [cellsA, faultsT, faultsD, namesD, Nat.add_assoc, empty_append, Bool.and_assoc]; repeat (first | rfl | constructor)))) | rfl | (simp only [get_same, ev]; done) | (simp [*, cellsA]; done) | (show V.a (A.d (D.slice _ _ _ _)) = V.a (A.d (D.slice _ _ _ _)); simp [*, cellsA]; done))) rfl ?_)) (by repeat (first | exact Pfx.nil | apply Pfx.cons)) (by first | rfl | (first | rfl | (simp only [Heap.set_set, List.length_append, List.length_nil, List.length_cons, List.length_map, List.length_singleton, Nat.zero_add]; done) | (simp [Heap.set_set, Nat.add_assoc]; done)) | (((funext n; simp only [Heap.set]; (repeat' split) <;> simp_all)) <;> first | rfl | exact ⟨rfl, rfl⟩))) ⟨hi3, by rw [hm, List.append_assoc], by rw [List.append_assoc]; exact hlen⟩ (by dsimp only; omega))
          | (have hp : partF d T = [] := by
               unfold partF; rw [if_neg (by simp only [decide_eq_true_eq, decide_eq_false_iff_not] at *; omega), if_neg (by simp only [decide_eq_true_eq, decide_eq_false_iff_not] at *; omega), if_neg (by simp only [decide_eq_true_eq, decide_eq_false_iff_not] at *; omega)]
             rw [hp, List.append_nil] at hm hlen
             exact hK5 _ (i + 1, F ++ wholeF d i T) (Weak.to (by repeat (first | exact Keeps.nil | refine Keeps.c rfl rfl ?_ | refine Keeps.c (by (first | (first | rfl | ((conv => lhs; whnf); first | (simp [cellsA, faultsT, faultsD, namesD, Fault.mk_c, Nat.add_assoc, empty_append, Bool.and_assoc]; done) | (simp [cellsA, faultsT, faultsD, namesD, Nat.add_assoc, empty_append, Bool.and_assoc]; repeat (first | rfl | constructor)))) | rfl | (simp only [get_same, ev]; done) | (simp [*, cellsA]; done) | (show V.a (A.d (D.slice _ _ _ _)) = V.a (A.d (D.slice _ _ _ _)); simp [*, cellsA]; done))) rfl ?_)) (by repeat (first | exact Pfx.nil | apply Pfx.cons)) (by first | rfl | (first | rfl | (simp only [Heap.set_set, List.length_append, List.length_nil, List.length_cons, List.length_map, List.length_singleton, Nat.zero_add]; done) | (simp [Heap.set_set, Nat.add_assoc]; done)) | (((funext n; simp only [Heap.set]; (repeat' split) <;> simp_all)) <;> first | rfl | exact ⟨rfl, rfl⟩))) ⟨hi3, hm.symm, hlen⟩ (by dsimp only; omega))
        · first
          | (cases hc3; done)
          | skip
          refine AWp.seqK fun K15 hK15 => ?_
          refine AWp.region ?_
          refine AOps.s0 (Cert.binI rfl rfl rfl) rfl ?_
          refine AOps.s0 (Cert.assign (by conv => lhs; whnf)) rfl ?_
          refine AOps.nil ?_
          refine hK15 _ ?_
          clear hK15 K15
          refine AWp.cond rfl (fun hc4 => ?_) (fun hc4 => ?_)
          · first
            | (cases hc4; done)
            | skip
            refine AWp.region ?_
            refine AOps.s0 (Cert.move (by conv => lhs; whnf)) rfl ?_
            refine AOps.s0 (Cert.loadV (Try.tab_ok _ _ rfl) rfl rfl rfl) rfl ?_
            refine AOps.s0 (Cert.fieldV (Try.tab_ok _ _ rfl) rfl rfl (Try.tab_ok _ _ rfl) rfl rfl (by conv => lhs; whnf)) rfl ?_
            refine AOps.s0 (Cert.loadV (Try.tab_ok _ _ rfl) rfl rfl rfl) rfl ?_
            refine AOps.s0 (Cert.fieldV (Try.tab_ok _ _ rfl) rfl rfl (Try.tab_ok _ _ rfl) rfl rfl (by conv => lhs; whnf)) rfl ?_
            refine AOps.s0 (Cert.loadV (Try.tab_ok _ _ rfl) rfl rfl rfl) rfl ?_
            refine AOps.s0 (Cert.concat rfl rfl (by first | omega | (show _ ≤ 4611686018427387904; simp only [List.length_append, List.length_cons, List.length_nil]; omega))) rfl ?_
            refine AOps.s0 (Cert.callP rfl rfl (ref_inputs d _ (d.defs.l[i]'hi3).inputs.l (hs.inputs _ (List.getElem_mem hi3)) ((d.defs.l[i]'hi3).name.1 ++ dot) [] (by simp [dot]; omega) (by decide))) rfl ?_
            refine AOps.sH (Cert.append (Try.tab_ok _ _ rfl) rfl (Try.tab_ok _ _ rfl) (Try.tab_ok _ _ rfl) (.inl ⟨_, rfl⟩) rfl rfl (by decide) rfl rfl (by first | exact .inl rfl | exact .inr rfl) (by first | exact .inl rfl | exact .inr rfl) (by (first | assumption | exact Heap.set_same _ _ _ | ((repeat (refine (Heap.set_other _ _ (by first | assumption | (apply Ne.symm; assumption))).trans ?_)); first | assumption | exact Heap.set_same _ _ _) | (simp only [Heap.set_set, Heap.set_same]; done) | (simp [Heap.set, *]; done))) (by first | rfl | (simp; done)) (by (first | assumption | (simp [maxN]; done) | (simp [maxN]; omega) | (simp [maxN, Nat.add_mul] at *; omega))) (by (first | assumption | (simp [maxN]; done) | (simp [maxN]; omega) | (simp [maxN, Nat.add_mul] at *; omega)))) rfl ?_
            refine AOps.s0 (Cert.assign (by conv => lhs; whnf)) rfl ?_
            refine AOps.nil ?_
            refine hK8 _ ?_
            clear hK8 K8
            refine AWp.region ?_
            refine AOps.s0 (Cert.move (by conv => lhs; whnf)) rfl ?_
            refine AOps.s0 (Cert.addI rfl rfl (by first | omega | (dsimp only; omega)) (by first | omega | (dsimp only; omega))) rfl ?_
            refine AOps.s0 (Cert.assign (by conv => lhs; whnf)) rfl ?_
            refine AOps.nil ?_
            have hm : checkF d (i + 1) = F ++ (wholeF d i (d.defs.l[i]'hi3) ++ partF d (d.defs.l[i]'hi3)) := by rw [checkF_succ, ← hF]; unfold defF; rw [getD_eq _ i hi3]
            have hlen := checkF_len d hs (i + 1) hi3
            rw [hm] at hlen
            generalize hT : d.defs.l[i]'hi3 = T at *
            first
            | (exfalso; simp only [decide_eq_true_eq, decide_eq_false_iff_not] at *; omega)
            | (have hp : partF d T = fieldsF d T.name.1 T.fields.l T.fields.l.length := by
                 unfold partF; rw [if_pos (by simp only [decide_eq_true_eq, decide_eq_false_iff_not] at *; omega)]
               rw [hp] at hm hlen
               exact hK5 _ (i + 1, F ++ wholeF d i T ++ fieldsF d T.name.1 T.fields.l T.fields.l.length) (Weak.to (by repeat (first | exact Keeps.nil | refine Keeps.c rfl rfl ?_ | refine Keeps.c (by (first | (first | rfl | ((conv => lhs; whnf); first | (simp [cellsA, faultsT, faultsD, namesD, Fault.mk_c, Nat.add_assoc, empty_append, Bool.and_assoc]; done) | (simp [cellsA, faultsT, faultsD, namesD, Nat.add_assoc, empty_append, Bool.and_assoc]; repeat (first | rfl | constructor)))) | rfl | (simp only [get_same, ev]; done) | (simp [*, cellsA]; done) | (show V.a (A.d (D.slice _ _ _ _)) = V.a (A.d (D.slice _ _ _ _)); simp [*, cellsA]; done))) rfl ?_)) (by repeat (first | exact Pfx.nil | apply Pfx.cons)) (by first | rfl | (first | rfl | (simp only [Heap.set_set, List.length_append, List.length_nil, List.length_cons, List.length_map, List.length_singleton, Nat.zero_add]; done) | (simp [Heap.set_set, Nat.add_assoc]; done)) | (((funext n; simp only [Heap.set]; (repeat' split) <;> simp_all)) <;> first | rfl | exact ⟨rfl, rfl⟩))) ⟨hi3, by rw [hm, List.append_assoc], by rw [List.append_assoc]; exact hlen⟩ (by dsimp only; omega))
            | (have hp : partF d T = membersF T.name.1 T.members.l T.members.l.length := by
                 unfold partF; rw [if_neg (by simp only [decide_eq_true_eq, decide_eq_false_iff_not] at *; omega), if_pos (by simp only [decide_eq_true_eq, decide_eq_false_iff_not] at *; omega)]
               rw [hp] at hm hlen
               exact hK5 _ (i + 1, F ++ wholeF d i T ++ membersF T.name.1 T.members.l T.members.l.length) (Weak.to (by repeat (first | exact Keeps.nil | refine Keeps.c rfl rfl ?_ | refine Keeps.c (by (first | (first | rfl | ((conv => lhs; whnf); first | (simp [cellsA, faultsT, faultsD, namesD, Fault.mk_c, Nat.add_assoc, empty_append, Bool.and_assoc]; done) | (simp [cellsA, faultsT, faultsD, namesD, Nat.add_assoc, empty_append, Bool.and_assoc]; repeat (first | rfl | constructor)))) | rfl | (simp only [get_same, ev]; done) | (simp [*, cellsA]; done) | (show V.a (A.d (D.slice _ _ _ _)) = V.a (A.d (D.slice _ _ _ _)); simp [*, cellsA]; done))) rfl ?_)) (by repeat (first | exact Pfx.nil | apply Pfx.cons)) (by first | rfl | (first | rfl | (simp only [Heap.set_set, List.length_append, List.length_nil, List.length_cons, List.length_map, List.length_singleton, Nat.zero_add]; done) | (simp [Heap.set_set, Nat.add_assoc]; done)) | (((funext n; simp only [Heap.set]; (repeat' split) <;> simp_all)) <;> first | rfl | exact ⟨rfl, rfl⟩))) ⟨hi3, by rw [hm, List.append_assoc], by rw [List.append_assoc]; exact hlen⟩ (by dsimp only; omega))
            | (have hp : partF d T = inputsF d T.inputs.l (T.name.1 ++ dot) [] T.inputs.l.length := by
                 unfold partF; rw [if_neg (by simp only [decide_eq_true_eq, decide_eq_false_iff_not] at *; omega), if_neg (by simp only [decide_eq_true_eq, decide_eq_false_iff_not] at *; omega), if_pos (by simp only [decide_eq_true_eq, decide_eq_false_iff_not] at *; omega)]
               rw [hp] at hm hlen
               exact hK5 _ (i + 1, F ++ wholeF d i T ++ inputsF d T.inputs.l (T.name.1 ++ dot) [] T.inputs.l.length) (Weak.to (by repeat (first | exact Keeps.nil | refine Keeps.c rfl rfl ?_ | refine Keeps.c (by (first | (first | rfl | ((conv => lhs; whnf); first | (simp [cellsA, faultsT, faultsD, namesD, Fault.mk_c, Nat.add_assoc, empty_append, Bool.and_assoc]; done) | (simp [cellsA, faultsT, faultsD, namesD, Nat.add_assoc, empty_append, Bool.and_assoc]; repeat (first | rfl | constructor)))) | rfl | (simp only [get_same, ev]; done) | (simp [*, cellsA]; done) | (show V.a (A.d (D.slice _ _ _ _)) = V.a (A.d (D.slice _ _ _ _)); simp [*, cellsA]; done))) rfl ?_)) (by repeat (first | exact Pfx.nil | apply Pfx.cons)) (by first | rfl | (first | rfl | (simp only [Heap.set_set, List.length_append, List.length_nil, List.length_cons, List.length_map, List.length_singleton, Nat.zero_add]; done) | (simp [Heap.set_set, Nat.add_assoc]; done)) | (((funext n; simp only [Heap.set]; (repeat' split) <;> simp_all)) <;> first | rfl | exact ⟨rfl, rfl⟩))) ⟨hi3, by rw [hm, List.append_assoc], by rw [List.append_assoc]; exact hlen⟩ (by dsimp only; omega))
            | (have hp : partF d T = [] := by
                 unfold partF; rw [if_neg (by simp only [decide_eq_true_eq, decide_eq_false_iff_not] at *; omega), if_neg (by simp only [decide_eq_true_eq, decide_eq_false_iff_not] at *; omega), if_neg (by simp only [decide_eq_true_eq, decide_eq_false_iff_not] at *; omega)]
               rw [hp, List.append_nil] at hm hlen
               exact hK5 _ (i + 1, F ++ wholeF d i T) (Weak.to (by repeat (first | exact Keeps.nil | refine Keeps.c rfl rfl ?_ | refine Keeps.c (by (first | (first | rfl | ((conv => lhs; whnf); first | (simp [cellsA, faultsT, faultsD, namesD, Fault.mk_c, Nat.add_assoc, empty_append, Bool.and_assoc]; done) | (simp [cellsA, faultsT, faultsD, namesD, Nat.add_assoc, empty_append, Bool.and_assoc]; repeat (first | rfl | constructor)))) | rfl | (simp only [get_same, ev]; done) | (simp [*, cellsA]; done) | (show V.a (A.d (D.slice _ _ _ _)) = V.a (A.d (D.slice _ _ _ _)); simp [*, cellsA]; done))) rfl ?_)) (by repeat (first | exact Pfx.nil | apply Pfx.cons)) (by first | rfl | (first | rfl | (simp only [Heap.set_set, List.length_append, List.length_nil, List.length_cons, List.length_map, List.length_singleton, Nat.zero_add]; done) | (simp [Heap.set_set, Nat.add_assoc]; done)) | (((funext n; simp only [Heap.set]; (repeat' split) <;> simp_all)) <;> first | rfl | exact ⟨rfl, rfl⟩))) ⟨hi3, hm.symm, hlen⟩ (by dsimp only; omega))
          · first
            | (cases hc4; done)
            | skip
            refine AWp.skip ?_
            refine hK8 _ ?_
            clear hK8 K8
            refine AWp.region ?_
            refine AOps.s0 (Cert.move (by conv => lhs; whnf)) rfl ?_
            refine AOps.s0 (Cert.addI rfl rfl (by first | omega | (dsimp only; omega)) (by first | omega | (dsimp only; omega))) rfl ?_
            refine AOps.s0 (Cert.assign (by conv => lhs; whnf)) rfl ?_
            refine AOps.nil ?_
            have hm : checkF d (i + 1) = F ++ (wholeF d i (d.defs.l[i]'hi3) ++ partF d (d.defs.l[i]'hi3)) := by rw [checkF_succ, ← hF]; unfold defF; rw [getD_eq _ i hi3]
            have hlen := checkF_len d hs (i + 1) hi3
            rw [hm] at hlen
            generalize hT : d.defs.l[i]'hi3 = T at *
            first
            | (exfalso; simp only [decide_eq_true_eq, decide_eq_false_iff_not] at *; omega)
            | (have hp : partF d T = fieldsF d T.name.1 T.fields.l T.fields.l.length := by
                 unfold partF; rw [if_pos (by simp only [decide_eq_true_eq, decide_eq_false_iff_not] at *; omega)]
               rw [hp] at hm hlen
               exact hK5 _ (i + 1, F ++ wholeF d i T ++ fieldsF d T.name.1 T.fields.l T.fields.l.length) (Weak.to (by repeat (first | exact Keeps.nil | refine Keeps.c rfl rfl ?_ | refine Keeps.c (by (first | (first | rfl | ((conv => lhs; whnf); first | (simp [cellsA, faultsT, faultsD, namesD, Fault.mk_c, Nat.add_assoc, empty_append, Bool.and_assoc]; done) | (simp [cellsA, faultsT, faultsD, namesD, Nat.add_assoc, empty_append, Bool.and_assoc]; repeat (first | rfl | constructor)))) | rfl | (simp only [get_same, ev]; done) | (simp [*, cellsA]; done) | (show V.a (A.d (D.slice _ _ _ _)) = V.a (A.d (D.slice _ _ _ _)); simp [*, cellsA]; done))) rfl ?_)) (by repeat (first | exact Pfx.nil | apply Pfx.cons)) (by first | rfl | (first | rfl | (simp only [Heap.set_set, List.length_append, List.length_nil, List.length_cons, List.length_map, List.length_singleton, Nat.zero_add]; done) | (simp [Heap.set_set, Nat.add_assoc]; done)) | (((funext n; simp only [Heap.set]; (repeat' split) <;> simp_all)) <;> first | rfl | exact ⟨rfl, rfl⟩))) ⟨hi3, by rw [hm, List.append_assoc], by rw [List.append_assoc]; exact hlen⟩ (by dsimp only; omega))
            | (have hp : partF d T = membersF T.name.1 T.members.l T.members.l.length := by
                 unfold partF; rw [if_neg (by simp only [decide_eq_true_eq, decide_eq_false_iff_not] at *; omega), if_pos (by simp only [decide_eq_true_eq, decide_eq_false_iff_not] at *; omega)]
               rw [hp] at hm hlen
               exact hK5 _ (i + 1, F ++ wholeF d i T ++ membersF T.name.1 T.members.l T.members.l.length) (Weak.to (by repeat (first | exact Keeps.nil | refine Keeps.c rfl rfl ?_ | refine Keeps.c (by (first | (first | rfl | ((conv => lhs; whnf); first | (simp [cellsA, faultsT, faultsD, namesD, Fault.mk_c, Nat.add_assoc, empty_append, Bool.and_assoc]; done) | (simp [cellsA, faultsT, faultsD, namesD, Nat.add_assoc, empty_append, Bool.and_assoc]; repeat (first | rfl | constructor)))) | rfl | (simp only [get_same, ev]; done) | (simp [*, cellsA]; done) | (show V.a (A.d (D.slice _ _ _ _)) = V.a (A.d (D.slice _ _ _ _)); simp [*, cellsA]; done))) rfl ?_)) (by repeat (first | exact Pfx.nil | apply Pfx.cons)) (by first | rfl | (first | rfl | (simp only [Heap.set_set, List.length_append, List.length_nil, List.length_cons, List.length_map, List.length_singleton, Nat.zero_add]; done) | (simp [Heap.set_set, Nat.add_assoc]; done)) | (((funext n; simp only [Heap.set]; (repeat' split) <;> simp_all)) <;> first | rfl | exact ⟨rfl, rfl⟩))) ⟨hi3, by rw [hm, List.append_assoc], by rw [List.append_assoc]; exact hlen⟩ (by dsimp only; omega))
            | (have hp : partF d T = inputsF d T.inputs.l (T.name.1 ++ dot) [] T.inputs.l.length := by
                 unfold partF; rw [if_neg (by simp only [decide_eq_true_eq, decide_eq_false_iff_not] at *; omega), if_neg (by simp only [decide_eq_true_eq, decide_eq_false_iff_not] at *; omega), if_pos (by simp only [decide_eq_true_eq, decide_eq_false_iff_not] at *; omega)]
               rw [hp] at hm hlen
               exact hK5 _ (i + 1, F ++ wholeF d i T ++ inputsF d T.inputs.l (T.name.1 ++ dot) [] T.inputs.l.length) (Weak.to (by repeat (first | exact Keeps.nil | refine Keeps.c rfl rfl ?_ | refine Keeps.c (by (first | (first | rfl | ((conv => lhs; whnf); first | (simp [cellsA, faultsT, faultsD, namesD, Fault.mk_c, Nat.add_assoc, empty_append, Bool.and_assoc]; done) | (simp [cellsA, faultsT, faultsD, namesD, Nat.add_assoc, empty_append, Bool.and_assoc]; repeat (first | rfl | constructor)))) | rfl | (simp only [get_same, ev]; done) | (simp [*, cellsA]; done) | (show V.a (A.d (D.slice _ _ _ _)) = V.a (A.d (D.slice _ _ _ _)); simp [*, cellsA]; done))) rfl ?_)) (by repeat (first | exact Pfx.nil | apply Pfx.cons)) (by first | rfl | (first | rfl | (simp only [Heap.set_set, List.length_append, List.length_nil, List.length_cons, List.length_map, List.length_singleton, Nat.zero_add]; done) | (simp [Heap.set_set, Nat.add_assoc]; done)) | (((funext n; simp only [Heap.set]; (repeat' split) <;> simp_all)) <;> first | rfl | exact ⟨rfl, rfl⟩))) ⟨hi3, by rw [hm, List.append_assoc], by rw [List.append_assoc]; exact hlen⟩ (by dsimp only; omega))
            | (have hp : partF d T = [] := by
                 unfold partF; rw [if_neg (by simp only [decide_eq_true_eq, decide_eq_false_iff_not] at *; omega), if_neg (by simp only [decide_eq_true_eq, decide_eq_false_iff_not] at *; omega), if_neg (by simp only [decide_eq_true_eq, decide_eq_false_iff_not] at *; omega)]
               rw [hp, List.append_nil] at hm hlen
               exact hK5 _ (i + 1, F ++ wholeF d i T) (Weak.to (by repeat (first | exact Keeps.nil | refine Keeps.c rfl rfl ?_ | refine Keeps.c (by (first | (first | rfl | ((conv => lhs; whnf); first | (simp [cellsA, faultsT, faultsD, namesD, Fault.mk_c, Nat.add_assoc, empty_append, Bool.and_assoc]; done) | (simp [cellsA, faultsT, faultsD, namesD, Nat.add_assoc, empty_append, Bool.and_assoc]; repeat (first | rfl | constructor)))) | rfl | (simp only [get_same, ev]; done) | (simp [*, cellsA]; done) | (show V.a (A.d (D.slice _ _ _ _)) = V.a (A.d (D.slice _ _ _ _)); simp [*, cellsA]; done))) rfl ?_)) (by repeat (first | exact Pfx.nil | apply Pfx.cons)) (by first | rfl | (first | rfl | (simp only [Heap.set_set, List.length_append, List.length_nil, List.length_cons, List.length_map, List.length_singleton, Nat.zero_add]; done) | (simp [Heap.set_set, Nat.add_assoc]; done)) | (((funext n; simp only [Heap.set]; (repeat' split) <;> simp_all)) <;> first | rfl | exact ⟨rfl, rfl⟩))) ⟨hi3, hm.symm, hlen⟩ (by dsimp only; omega))
    · first
      | (cases hc1; done)
      | skip
      refine AWp.region ?_
      refine AOps.s0 (Cert.binI rfl rfl rfl) rfl ?_
      refine AOps.s0 (Cert.assign (by conv => lhs; whnf)) rfl ?_
      refine AOps.nil ?_
      refine hK12 _ ?_
      clear hK12 K12
      refine AWp.cond rfl (fun hc2 => ?_) (fun hc2 => ?_)
      · first
        | (cases hc2; done)
        | skip
        refine AWp.region ?_
        refine AOps.s0 (Cert.move (by conv => lhs; whnf)) rfl ?_
        refine AOps.s0 (Cert.loadV (Try.tab_ok _ _ rfl) rfl rfl rfl) rfl ?_
        refine AOps.s0 (Cert.loadV (Try.tab_ok _ _ rfl) rfl rfl rfl) rfl ?_
        refine AOps.s0 (Cert.callP rfl rfl (ref_fields d (d.defs.l[i]'hi3) (hs.fields _ (List.getElem_mem hi3)) (hs.args _ (List.getElem_mem hi3)))) rfl ?_
        refine AOps.sH (Cert.append (Try.tab_ok _ _ rfl) rfl (Try.tab_ok _ _ rfl) (Try.tab_ok _ _ rfl) (.inl ⟨_, rfl⟩) rfl rfl (by decide) rfl rfl (by first | exact .inl rfl | exact .inr rfl) (by first | exact .inl rfl | exact .inr rfl) (by (first | assumption | exact Heap.set_same _ _ _ | ((repeat (refine (Heap.set_other _ _ (by first | assumption | (apply Ne.symm; assumption))).trans ?_)); first | assumption | exact Heap.set_same _ _ _) | (simp only [Heap.set_set, Heap.set_same]; done) | (simp [Heap.set, *]; done))) (by first | rfl | (simp; done)) (by (first | assumption | (simp [maxN]; done) | (simp [maxN]; omega) | (simp [maxN, Nat.add_mul] at *; omega))) (by (first | assumption | (simp [maxN]; done) | (simp [maxN]; omega) | (simp [maxN, Nat.add_mul] at *; omega)))) rfl ?_
        refine AOps.s0 (Cert.assign (by conv => lhs; whnf)) rfl ?_
        refine AOps.nil ?_
        refine hK8 _ ?_
        clear hK8 K8
        refine AWp.region ?_
        refine AOps.s0 (Cert.move (by conv => lhs; whnf)) rfl ?_
        refine AOps.s0 (Cert.addI rfl rfl (by first | omega | (dsimp only; omega)) (by first | omega | (dsimp only; omega))) rfl ?_
        refine AOps.s0 (Cert.assign (by conv => lhs; whnf)) rfl ?_
        refine AOps.nil ?_
        have hm : checkF d (i + 1) = F ++ (wholeF d i (d.defs.l[i]'hi3) ++ partF d (d.defs.l[i]'hi3)) := by rw [checkF_succ, ← hF]; unfold defF; rw [getD_eq _ i hi3]
        have hlen := checkF_len d hs (i + 1) hi3
        rw [hm] at hlen
        generalize hT : d.defs.l[i]'hi3 = T at *
        first
        | (exfalso; simp only [decide_eq_true_eq, decide_eq_false_iff_not] at *; omega)
        | (have hp : partF d T = fieldsF d T.name.1 T.fields.l T.fields.l.length := by
             unfold partF; rw [if_pos (by simp only [decide_eq_true_eq, decide_eq_false_iff_not] at *; omega)]
           rw [hp] at hm hlen
           exact hK5 _ (i + 1, F ++ wholeF d i T ++ fieldsF d T.name.1 T.fields.l T.fields.l.length) (Weak.to (by repeat (first | exact Keeps.nil | refine Keeps.c rfl rfl ?_ | refine Keeps.c (by (first | (first | rfl | ((conv => lhs; whnf); first | (simp [cellsA, faultsT, faultsD, namesD, Fault.mk_c, Nat.add_assoc, empty_append, Bool.and_assoc]; done) | (simp [cellsA, faultsT, faultsD, namesD, Nat.add_assoc, empty_append, Bool.and_assoc]; repeat (first | rfl | constructor)))) | rfl | (simp only [get_same, ev]; done) | (simp [*, cellsA]; done) | (show V.a (A.d (D.slice _ _ _ _)) = V.a (A.d (D.slice _ _ _ _)); simp [*, cellsA]; done))) rfl ?_)) (by repeat (first | exact Pfx.nil | apply Pfx.cons)) (by first | rfl | (first | rfl | (simp only [Heap.set_set, List.length_append, List.length_nil, List.length_cons, List.length_map, List.length_singleton, Nat.zero_add]; done) | (simp [Heap.set_set, Nat.add_assoc]; done)) | (((funext n; simp only [Heap.set]; (repeat' split) <;> simp_all)) <;> first | rfl | exact ⟨rfl, rfl⟩))) ⟨hi3, by rw [hm, List.append_assoc], by rw [List.append_assoc]; exact hlen⟩ (by dsimp only; omega))
        | (have hp : partF d T = membersF T.name.1 T.members.l T.members.l.length := by
             unfold partF; rw [if_neg (by simp only [decide_eq_true_eq, decide_eq_false_iff_not] at *; omega), if_pos (by simp only [decide_eq_true_eq, decide_eq_false_iff_not] at *; omega)]
           rw [hp] at hm hlen
           exact hK5 _ (i + 1, F ++ wholeF d i T ++ membersF T.name.1 T.members.l T.members.l.length) (Weak.to (by repeat (first | exact Keeps.nil | refine Keeps.c rfl rfl ?_ | refine Keeps.c (by (first | (first | rfl | ((conv => lhs; whnf); first | (simp [cellsA, faultsT, faultsD, namesD, Fault.mk_c, Nat.add_assoc, empty_append, Bool.and_assoc]; done) | (simp [cellsA, faultsT, faultsD, namesD, Nat.add_assoc, empty_append, Bool.and_assoc]; repeat (first | rfl | constructor)))) | rfl | (simp only [get_same, ev]; done) | (simp [*, cellsA]; done) | (show V.a (A.d (D.slice _ _ _ _)) = V.a (A.d (D.slice _ _ _ _)); simp [*, cellsA]; done))) rfl ?_)) (by repeat (first | exact Pfx.nil | apply Pfx.cons)) (by first | rfl | (first | rfl | (simp only [Heap.set_set, List.length_append, List.length_nil, List.length_cons, List.length_map, List.length_singleton, Nat.zero_add]; done) | (simp [Heap.set_set, Nat.add_assoc]; done)) | (((funext n; simp only [Heap.set]; (repeat' split) <;> simp_all)) <;> first | rfl | exact ⟨rfl, rfl⟩))) ⟨hi3, by rw [hm, List.append_assoc], by rw [List.append_assoc]; exact hlen⟩ (by dsimp only; omega))
        | (have hp : partF d T = inputsF d T.inputs.l (T.name.1 ++ dot) [] T.inputs.l.length := by
             unfold partF; rw [if_neg (by simp only [decide_eq_true_eq, decide_eq_false_iff_not] at *; omega), if_neg (by simp only [decide_eq_true_eq, decide_eq_false_iff_not] at *; omega), if_pos (by simp only [decide_eq_true_eq, decide_eq_false_iff_not] at *; omega)]
           rw [hp] at hm hlen
           exact hK5 _ (i + 1, F ++ wholeF d i T ++ inputsF d T.inputs.l (T.name.1 ++ dot) [] T.inputs.l.length) (Weak.to (by repeat (first | exact Keeps.nil | refine Keeps.c rfl rfl ?_ | refine Keeps.c (by (first | (first | rfl | ((conv => lhs; whnf); first | (simp [cellsA, faultsT, faultsD, namesD, Fault.mk_c, Nat.add_assoc, empty_append, Bool.and_assoc]; done) | (simp [cellsA, faultsT, faultsD, namesD, Nat.add_assoc, empty_append, Bool.and_assoc]; repeat (first | rfl | constructor)))) | rfl | (simp only [get_same, ev]; done) | (simp [*, cellsA]; done) | (show V.a (A.d (D.slice _ _ _ _)) = V.a (A.d (D.slice _ _ _ _)); simp [*, cellsA]; done))) rfl ?_)) (by repeat (first | exact Pfx.nil | apply Pfx.cons)) (by first | rfl | (first | rfl | (simp only [Heap.set_set, List.length_append, List.length_nil, List.length_cons, List.length_map, List.length_singleton, Nat.zero_add]; done) | (simp [Heap.set_set, Nat.add_assoc]; done)) | (((funext n; simp only [Heap.set]; (repeat' split) <;> simp_all)) <;> first | rfl | exact ⟨rfl, rfl⟩))) ⟨hi3, by rw [hm, List.append_assoc], by rw [List.append_assoc]; exact hlen⟩ (by dsimp only; omega))
        | (have hp : partF d T = [] := by
             unfold partF; rw [if_neg (by simp only [decide_eq_true_eq, decide_eq_false_iff_not] at *; omega), if_neg (by simp only [decide_eq_true_eq, decide_eq_false_iff_not] at *; omega), if_neg (by simp only [decide_eq_true_eq, decide_eq_false_iff_not] at *; omega)]
           rw [hp, List.append_nil] at hm hlen
           exact hK5 _ (i + 1, F ++ wholeF d i T) (Weak.to (by repeat (first | exact Keeps.nil | refine Keeps.c rfl rfl ?_ | refine Keeps.c (by (first | (first | rfl | ((conv => lhs; whnf); first | (simp [cellsA, faultsT, faultsD, namesD, Fault.mk_c, Nat.add_assoc, empty_append, Bool.and_assoc]; done) | (simp [cellsA, faultsT, faultsD, namesD, Nat.add_assoc, empty_append, Bool.and_assoc]; repeat (first | rfl | constructor)))) | rfl | (simp only [get_same, ev]; done) | (simp [*, cellsA]; done) | (show V.a (A.d (D.slice _ _ _ _)) = V.a (A.d (D.slice _ _ _ _)); simp [*, cellsA]; done))) rfl ?_)) (by repeat (first | exact Pfx.nil | apply Pfx.cons)) (by first | rfl | (first | rfl | (simp only [Heap.set_set, List.length_append, List.length_nil, List.length_cons, List.length_map, List.length_singleton, Nat.zero_add]; done) | (simp [Heap.set_set, Nat.add_assoc]; done)) | (((funext n; simp only [Heap.set]; (repeat' split) <;> simp_all)) <;> first | rfl | exact ⟨rfl, rfl⟩))) ⟨hi3, hm.symm, hlen⟩ (by dsimp only; omega))
      · first
        | (cases hc2; done)
        | skip
        refine AWp.seqK fun K16 hK16 => ?_
        refine AWp.region ?_
        refine AOps.s0 (Cert.binI rfl rfl rfl) rfl ?_
        refine AOps.s0 (Cert.assign (by conv => lhs; whnf)) rfl ?_
        refine AOps.nil ?_
        refine hK16 _ ?_
        clear hK16 K16
        refine AWp.cond rfl (fun hc3 => ?_) (fun hc3 => ?_)
        · first
          | (cases hc3; done)
          | skip
          refine AWp.region ?_
          refine AOps.s0 (Cert.move (by conv => lhs; whnf)) rfl ?_
          refine AOps.s0 (Cert.loadV (Try.tab_ok _ _ rfl) rfl rfl rfl) rfl ?_
          refine AOps.s0 (Cert.callP rfl rfl (ref_members (d.defs.l[i]'hi3) (hs.members _ (List.getElem_mem hi3)))) rfl ?_
          refine AOps.sH (Cert.append (Try.tab_ok _ _ rfl) rfl (Try.tab_ok _ _ rfl) (Try.tab_ok _ _ rfl) (.inl ⟨_, rfl⟩) rfl rfl (by decide) rfl rfl (by first | exact .inl rfl | exact .inr rfl) (by first | exact .inl rfl | exact .inr rfl) (by (first | assumption | exact Heap.set_same _ _ _ | ((repeat (refine (Heap.set_other _ _ (by first | assumption | (apply Ne.symm; assumption))).trans ?_)); first | assumption | exact Heap.set_same _ _ _) | (simp only [Heap.set_set, Heap.set_same]; done) | (simp [Heap.set, *]; done))) (by first | rfl | (simp; done)) (by (first | assumption | (simp [maxN]; done) | (simp [maxN]; omega) | (simp [maxN, Nat.add_mul] at *; omega))) (by (first | assumption | (simp [maxN]; done) | (simp [maxN]; omega) | (simp [maxN, Nat.add_mul] at *; omega)))) rfl ?_
          refine AOps.s0 (Cert.assign (by conv => lhs; whnf)) rfl ?_
          refine AOps.nil ?_
          refine hK8 _ ?_
          clear hK8 K8
          refine AWp.region ?_
          refine AOps.s0 (Cert.move (by conv => lhs; whnf)) rfl ?_
          refine AOps.s0 (Cert.addI rfl rfl (by first | omega | (dsimp only; omega)) (by first | omega | (dsimp only; omega))) rfl ?_
          refine AOps.s0 (Cert.assign (by conv => lhs; whnf)) rfl ?_
          refine AOps.nil ?_
          have hm : checkF d (i + 1) = F ++ (wholeF d i (d.defs.l[i]'hi3) ++ partF d (d.defs.l[i]'hi3)) := by rw [checkF_succ, ← hF]; unfold defF; rw [getD_eq _ i hi3]
          have hlen := checkF_len d hs (i + 1) hi3
          rw [hm] at hlen
          generalize hT : d.defs.l[i]'hi3 = T at *
          first
          | (exfalso; simp only [decide_eq_true_eq, decide_eq_false_iff_not] at *; omega)
          | (have hp : partF d T = fieldsF d T.name.1 T.fields.l T.fields.l.length := by
               unfold partF; rw [if_pos (by simp only [decide_eq_true_eq, decide_eq_false_iff_not] at *; omega)]
             rw [hp] at hm hlen
             exact hK5 _ (i + 1, F ++ wholeF d i T ++ fieldsF d T.name.1 T.fields.l T.fields.l.length) (Weak.to (by repeat (first | exact Keeps.nil | refine Keeps.c rfl rfl ?_ | refine Keeps.c (by (first | (first | rfl | ((conv => lhs; whnf); first | (simp [cellsA, faultsT, faultsD, namesD, Fault.mk_c, Nat.add_assoc, empty_append, Bool.and_assoc]; done) | (simp [cellsA, faultsT, faultsD, namesD, Nat.add_assoc, empty_append, Bool.and_assoc]; repeat (first | rfl | constructor)))) | rfl | (simp only [get_same, ev]; done) | (simp [*, cellsA]; done) | (show V.a (A.d (D.slice _ _ _ _)) = V.a (A.d (D.slice _ _ _ _)); simp [*, cellsA]; done))) rfl ?_)) (by repeat (first | exact Pfx.nil | apply Pfx.cons)) (by first | rfl | (first | rfl | (simp only [Heap.set_set, List.length_append, List.length_nil, List.length_cons, List.length_map, List.length_singleton, Nat.zero_add]; done) | (simp [Heap.set_set, Nat.add_assoc]; done)) | (((funext n; simp only [Heap.set]; (repeat' split) <;> simp_all)) <;> first | rfl | exact ⟨rfl, rfl⟩))) ⟨hi3, by rw [hm, List.append_assoc], by rw [List.append_assoc]; exact hlen⟩ (by dsimp only; omega))
          | (have hp : partF d T = membersF T.name.1 T.members.l T.members.l.length := by
               unfold partF; rw [if_neg (by simp only [decide_eq_true_eq, decide_eq_false_iff_not] at *; omega), if_pos (by simp only [decide_eq_true_eq, decide_eq_false_iff_not] at *; omega)]
             rw [hp] at hm hlen
             exact hK5 _ (i + 1, F ++ wholeF d i T ++ membersF T.name.1 T.members.l T.members.l.length) (Weak.to (by repeat (first | exact Keeps.nil | refine Keeps.c rfl rfl ?_ | refine Keeps.c (by (first | (first | rfl | ((conv => lhs; whnf); first | (simp [cellsA, faultsT, faultsD, namesD, Fault.mk_c, Nat.add_assoc, empty_append, Bool.and_assoc]; done) | (simp [cellsA, faultsT, faultsD, namesD, Nat.add_assoc, empty_append, Bool.and_assoc]; repeat (first | rfl | constructor)))) | rfl | (simp only [get_same, ev]; done) | (simp [*, cellsA]; done) | (show V.a (A.d (D.slice _ _ _ _)) = V.a (A.d (D.slice _ _ _ _)); simp [*, cellsA]; done))) rfl ?_)) (by repeat (first | exact Pfx.nil | apply Pfx.cons)) (by first | rfl | (first | rfl | (simp only [Heap.set_set, List.length_append, List.length_nil, List.length_cons, List.length_map, List.length_singleton, Nat.zero_add]; done) | (simp [Heap.set_set, Nat.add_assoc]; done)) | (((funext n; simp only [Heap.set]; (repeat' split) <;> simp_all)) <;> first | rfl | exact ⟨rfl, rfl⟩))) ⟨hi3, by rw [hm, List.append_assoc], by rw [List.append_assoc]; exact hlen⟩ (by dsimp only; omega))
          | (have hp : partF d T = inputsF d T.inputs.l (T.name.1 ++ dot) [] T.inputs.l.length := by
               unfold partF; rw [if_neg (by simp only [decide_eq_true_eq, decide_eq_false_iff_not] at *; omega), if_neg (by simp only [decide_eq_true_eq, decide_eq_false_iff_not] at *; omega), if_pos (by simp only [decide_eq_true_eq, decide_eq_false_iff_not] at *; omega)]
             rw [hp] at hm hlen
             exact hK5 _ (i + 1, F ++ wholeF d i T ++ inputsF d T.inputs.l (T.name.1 ++ dot) [] T.inputs.l.length) (Weak.to (by repeat (first | exact Keeps.nil | refine Keeps.c rfl rfl ?_ | refine Keeps.c (by (first | (first | rfl | ((conv => lhs; whnf); first | (simp [cellsA, faultsT, faultsD, namesD, Fault.mk_c, Nat.add_assoc, empty_append, Bool.and_assoc]; done) | (simp [cellsA, faultsT, faultsD, namesD, Nat.add_assoc, empty_append, Bool.and_assoc]; repeat (first | rfl | constructor)))) | rfl | (simp only [get_same, ev]; done) | (simp [*, cellsA]; done) | (show V.a (A.d (D.slice _ _ _ _)) = V.a (A.d (D.slice _ _ _ _)); simp [*, cellsA]; done))) rfl ?_)) (by repeat (first | exact Pfx.nil | apply Pfx.cons)) (by first | rfl | (first | rfl | (simp only [Heap.set_set, List.length_append, List.length_nil, List.length_cons, List.length_map, List.length_singleton, Nat.zero_add]; done) | (simp [Heap.set_set, Nat.add_assoc]; done)) | (((funext n; simp only [Heap.set]; (repeat' split) <;> simp_all)) <;> first | rfl | exact ⟨rfl, rfl⟩))) ⟨hi3, by rw [hm, List.append_assoc], by rw [List.append_assoc]; exact hlen⟩ (by dsimp only; omega))
          | (have hp : partF d T = [] := by
               unfold partF; rw [if_neg (by simp only [decide_eq_true_eq, decide_eq_false_iff_not] at *; omega), if_neg (by simp only [decide_eq_true_eq, decide_eq_false_iff_not] at *; omega), if_neg (by simp only [decide_eq_true_eq, decide_eq_false_iff_not] at *; omega)]
             rw [hp, List.append_nil] at hm hlen
             exact hK5 _ (i + 1, F ++ wholeF d i T) (Weak.to (by repeat (first | exact Keeps.nil | refine Keeps.c rfl rfl ?_ | refine Keeps.c (by (first | (first | rfl | ((conv => lhs; whnf); first | (simp [cellsA, faultsT, faultsD, namesD, Fault.mk_c, Nat.add_assoc, empty_append, Bool.and_assoc]; done) | (simp [cellsA, faultsT, faultsD, namesD, Nat.add_assoc, empty_append, Bool.and_assoc]; repeat (first | rfl | constructor)))) | rfl | (simp only [get_same, ev]; done) | (simp [*, cellsA]; done) | (show V.a (A.d (D.slice _ _ _ _)) = V.a (A.d (D.slice _ _ _ _)); simp [*, cellsA]; done))) rfl ?_)) (by repeat (first | exact Pfx.nil | apply Pfx.cons)) (by first | rfl | (first | rfl | (simp only [Heap.set_set, List.length_append, List.length_nil, List.length_cons, List.length_map, List.length_singleton, Nat.zero_add]; done) | (simp [Heap.set_set, Nat.add_assoc]; done)) | (((funext n; simp only [Heap.set]; (repeat' split) <;> simp_all)) <;> first | rfl | exact ⟨rfl, rfl⟩))) ⟨hi3, hm.symm, hlen⟩ (by dsimp only; omega))
        · first
          | (cases hc3; done)
          | skip
          refine AWp.seqK fun K17 hK17 => ?_
          refine AWp.region ?_
          refine AOps.s0 (Cert.binI rfl rfl rfl) rfl ?_
          refine AOps.s0 (Cert.assign (by conv => lhs; whnf)) rfl ?_
          refine AOps.nil ?_
          refine hK17 _ ?_
          clear hK17 K17
          refine AWp.cond rfl (fun hc4 => ?_) (fun hc4 => ?_)
          · first
            | (cases hc4; done)
            | skip
            refine AWp.region ?_
            refine AOps.s0 (Cert.move (by conv => lhs; whnf)) rfl ?_
            refine AOps.s0 (Cert.loadV (Try.tab_ok _ _ rfl) rfl rfl rfl) rfl ?_
            refine AOps.s0 (Cert.fieldV (Try.tab_ok _ _ rfl) rfl rfl (Try.tab_ok _ _ rfl) rfl rfl (by conv => lhs; whnf)) rfl ?_
            refine AOps.s0 (Cert.loadV (Try.tab_ok _ _ rfl) rfl rfl rfl) rfl ?_
            refine AOps.s0 (Cert.fieldV (Try.tab_ok _ _ rfl) rfl rfl (Try.tab_ok _ _ rfl) rfl rfl (by conv => lhs; whnf)) rfl ?_
            refine AOps.s0 (Cert.loadV (Try.tab_ok _ _ rfl) rfl rfl rfl) rfl ?_
            refine AOps.s0 (Cert.concat rfl rfl (by first | omega | (show _ ≤ 4611686018427387904; simp only [List.length_append, List.length_cons, List.length_nil]; omega))) rfl ?_
            refine AOps.s0 (Cert.callP rfl rfl (ref_inputs d _ (d.defs.l[i]'hi3).inputs.l (hs.inputs _ (List.getElem_mem hi3)) ((d.defs.l[i]'hi3).name.1 ++ dot) [] (by simp [dot]; omega) (by decide))) rfl ?_
            refine AOps.sH (Cert.append (Try.tab_ok _ _ rfl) rfl (Try.tab_ok _ _ rfl) (Try.tab_ok _ _ rfl) (.inl ⟨_, rfl⟩) rfl rfl (by decide) rfl rfl (by first | exact .inl rfl | exact .inr rfl) (by first | exact .inl rfl | exact .inr rfl) (by (first | assumption | exact Heap.set_same _ _ _ | ((repeat (refine (Heap.set_other _ _ (by first | assumption | (apply Ne.symm; assumption))).trans ?_)); first | assumption | exact Heap.set_same _ _ _) | (simp only [Heap.set_set, Heap.set_same]; done) | (simp [Heap.set, *]; done))) (by first | rfl | (simp; done)) (by (first | assumption | (simp [maxN]; done) | (simp [maxN]; omega) | (simp [maxN, Nat.add_mul] at *; omega))) (by (first | assumption | (simp [maxN]; done) | (simp [maxN]; omega) | (simp [maxN, Nat.add_mul] at *; omega)))) rfl ?_
            refine AOps.s0 (Cert.assign (by conv => lhs; whnf)) rfl ?_
            refine AOps.nil ?_
            refine hK8 _ ?_
            clear hK8 K8
            refine AWp.region ?_
            refine AOps.s0 (Cert.move (by conv => lhs; whnf)) rfl ?_
            refine AOps.s0 (Cert.addI rfl rfl (by first | omega | (dsimp only; omega)) (by first | omega | (dsimp only; omega))) rfl ?_
            refine AOps.s0 (Cert.assign (by conv => lhs; whnf)) rfl ?_
            refine AOps.nil ?_
            have hm : checkF d (i + 1) = F ++ (wholeF d i (d.defs.l[i]'hi3) ++ partF d (d.defs.l[i]'hi3)) := by rw [checkF_succ, ← hF]; unfold defF; rw [getD_eq _ i hi3]
            have hlen := checkF_len d hs (i + 1) hi3
            rw [hm] at hlen
            generalize hT : d.defs.l[i]'hi3 = T at *
            first
            | (exfalso; simp only [decide_eq_true_eq, decide_eq_false_iff_not] at *; omega)
            | (have hp : partF d T = fieldsF d T.name.1 T.fields.l T.fields.l.length := by
                 unfold partF; rw [if_pos (by simp only [decide_eq_true_eq, decide_eq_false_iff_not] at *; omega)]
               rw [hp] at hm hlen
               exact hK5 _ (i + 1, F ++ wholeF d i T ++ fieldsF d T.name.1 T.fields.l T.fields.l.length) (Weak.to (by repeat (first | exact Keeps.nil | refine Keeps.c rfl rfl ?_ | refine Keeps.c (by (first | (first | rfl | ((conv => lhs; whnf); first | (simp [cellsA, faultsT, faultsD, namesD, Fault.mk_c, Nat.add_assoc, empty_append, Bool.and_assoc]; done) | (simp [cellsA, faultsT, faultsD, namesD, Nat.add_assoc, empty_append, Bool.and_assoc]; repeat (first | rfl | constructor)))) | rfl | (simp only [get_same, ev]; done) | (simp [*, cellsA]; done) | (show V.a (A.d (D.slice _ _ _ _)) = V.a (A.d (D.slice _ _ _ _)); simp [*, cellsA]; done))) rfl ?_)) (by repeat (first | exact Pfx.nil | apply Pfx.cons)) (by first | rfl | (first | rfl | (simp only [Heap.set_set, List.length_append, List.length_nil, List.length_cons, List.length_map, List.length_singleton, Nat.zero_add]; done) | (simp [Heap.set_set, Nat.add_assoc]; done)) | (((funext n; simp only [Heap.set]; (repeat' split) <;> simp_all)) <;> first | rfl | exact ⟨rfl, rfl⟩))) ⟨hi3, by rw [hm, List.append_assoc], by rw [List.append_assoc]; exact hlen⟩ (by dsimp only; omega))
            | (have hp : partF d T = membersF T.name.1 T.members.l T.members.l.length := by
                 unfold partF; rw [if_neg (by simp only [decide_eq_true_eq, decide_eq_false_iff_not] at *; omega), if_pos (by simp only [decide_eq_true_eq, decide_eq_false_iff_not] at *; omega)]
               rw [hp] at hm hlen
               exact hK5 _ (i + 1, F ++ wholeF d i T ++ membersF T.name.1 T.members.l T.members.l.length) (Weak.to (by repeat (first | exact Keeps.nil | refine Keeps.c rfl rfl ?_ | refine Keeps.c (by (first | (first | rfl | ((conv => lhs; whnf); first | (simp [cellsA, faultsT, faultsD, namesD, Fault.mk_c, Nat.add_assoc, empty_append, Bool.and_assoc]; done) | (simp [cellsA, faultsT, faultsD, namesD, Nat.add_assoc, empty_append, Bool.and_assoc]; repeat (first | rfl | constructor)))) | rfl | (simp only [get_same, ev]; done) | (simp [*, cellsA]; done) | (show V.a (A.d (D.slice _ _ _ _)) = V.a (A.d (D.slice _ _ _ _)); simp [*, cellsA]; done))) rfl ?_)) (by repeat (first | exact Pfx.nil | apply Pfx.cons)) (by first | rfl | (first | rfl | (simp only [Heap.set_set, List.length_append, List.length_nil, List.length_cons, List.length_map, List.length_singleton, Nat.zero_add]; done) | (simp [Heap.set_set, Nat.add_assoc]; done)) | (((funext n; simp only [Heap.set]; (repeat' split) <;> simp_all)) <;> first | rfl | exact ⟨rfl, rfl⟩))) ⟨hi3, by rw [hm, List.append_assoc], by rw [List.append_assoc]; exact hlen⟩ (by dsimp only; omega))
            | (have hp : partF d T = inputsF d T.inputs.l (T.name.1 ++ dot) [] T.inputs.l.length := by
                 unfold partF; rw [if_neg (by simp only [decide_eq_true_eq, decide_eq_false_iff_not] at *; omega), if_neg (by simp only [decide_eq_true_eq, decide_eq_false_iff_not] at *; omega), if_pos (by simp only [decide_eq_true_eq, decide_eq_false_iff_not] at *; omega)]
               rw [hp] at hm hlen
               exact hK5 _ (i + 1, F ++ wholeF d i T ++ inputsF d T.inputs.l (T.name.1 ++ dot) [] T.inputs.l.length) (Weak.to (by repeat (first | exact Keeps.nil | refine Keeps.c rfl rfl ?_ | refine Keeps.c (by (first | (first | rfl | ((conv => lhs; whnf); first | (simp [cellsA, faultsT, faultsD, namesD, Fault.mk_c, Nat.add_assoc, empty_append, Bool.and_assoc]; done) | (simp [cellsA, faultsT, faultsD, namesD, Nat.add_assoc, empty_append, Bool.and_assoc]; repeat (first | rfl | constructor)))) | rfl | (simp only [get_same, ev]; done) | (simp [*, cellsA]; done) | (show V.a (A.d (D.slice _ _ _ _)) = V.a (A.d (D.slice _ _ _ _)); simp [*, cellsA]; done))) rfl ?_)) (by repeat (first | exact Pfx.nil | apply Pfx.cons)) (by first | rfl | (first | rfl | (simp only [Heap.set_set, List.length_append, List.length_nil, List.length_cons, List.length_map, List.length_singleton, Nat.zero_add]; done) | (simp [Heap.set_set, Nat.add_assoc]; done)) | (((funext n; simp only [Heap.set]; (repeat' split) <;> simp_all)) <;> first | rfl | exact ⟨rfl, rfl⟩))) ⟨hi3, by rw [hm, List.append_assoc], by rw [List.append_assoc]; exact hlen⟩ (by dsimp only; omega))
            | (have hp : partF d T = [] := by
                 unfold partF; rw [if_neg (by simp only [decide_eq_true_eq, decide_eq_false_iff_not] at *; omega), if_neg (by simp only [decide_eq_true_eq, decide_eq_false_iff_not] at *; omega), if_neg (by simp only [decide_eq_true_eq, decide_eq_false_iff_not] at *; omega)]
               rw [hp, List.append_nil] at hm hlen
               exact hK5 _ (i + 1, F ++ wholeF d i T) (Weak.to (by repeat (first | exact Keeps.nil | refine Keeps.c rfl rfl ?_ | refine Keeps.c (by (first | (first | rfl | ((conv => lhs; whnf); first | (simp [cellsA, faultsT, faultsD, namesD, Fault.mk_c, Nat.add_assoc, empty_append, Bool.and_assoc]; done) | (simp [cellsA, faultsT, faultsD, namesD, Nat.add_assoc, empty_append, Bool.and_assoc]; repeat (first | rfl | constructor)))) | rfl | (simp only [get_same, ev]; done) | (simp [*, cellsA]; done) | (show V.a (A.d (D.slice _ _ _ _)) = V.a (A.d (D.slice _ _ _ _)); simp [*, cellsA]; done))) rfl ?_)) (by repeat (first | exact Pfx.nil | apply Pfx.cons)) (by first | rfl | (first | rfl | (simp only [Heap.set_set, List.length_append, List.length_nil, List.length_cons, List.length_map, List.length_singleton, Nat.zero_add]; done) | (simp [Heap.set_set, Nat.add_assoc]; done)) | (((funext n; simp only [Heap.set]; (repeat' split) <;> simp_all)) <;> first | rfl | exact ⟨rfl, rfl⟩))) ⟨hi3, hm.symm, hlen⟩ (by dsimp only; omega))
          · first
            | (cases hc4; done)
            | skip
            refine AWp.skip ?_
            refine hK8 _ ?_
            clear hK8 K8
            refine AWp.region ?_
            refine AOps.s0 (Cert.move (by conv => lhs; whnf)) rfl ?_
            refine AOps.s0 (Cert.addI rfl rfl (by first | omega | (dsimp only; omega)) (by first | omega | (dsimp only; omega))) rfl ?_
            refine AOps.s0 (Cert.assign (by conv => lhs; whnf)) rfl ?_
            refine AOps.nil ?_
            have hm : checkF d (i + 1) = F ++ (wholeF d i (d.defs.l[i]'hi3) ++ partF d (d.defs.l[i]'hi3)) := by rw [checkF_succ, ← hF]; unfold defF; rw [getD_eq _ i hi3]
            have hlen := checkF_len d hs (i + 1) hi3
            rw [hm] at hlen
            generalize hT : d.defs.l[i]'hi3 = T at *
            first
            | (exfalso; simp only [decide_eq_true_eq, decide_eq_false_iff_not] at *; omega)
            | (have hp : partF d T = fieldsF d T.name.1 T.fields.l T.fields.l.length := by
                 unfold partF; rw [if_pos (by simp only [decide_eq_true_eq, decide_eq_false_iff_not] at *; omega)]
               rw [hp] at hm hlen
               exact hK5 _ (i + 1, F ++ wholeF d i T ++ fieldsF d T.name.1 T.fields.l T.fields.l.length) (Weak.to (by repeat (first | exact Keeps.nil | refine Keeps.c rfl rfl ?_ | refine Keeps.c (by (first | (first | rfl | ((conv => lhs; whnf); first | (simp [cellsA, faultsT, faultsD, namesD, Fault.mk_c, Nat.add_assoc, empty_append, Bool.and_assoc]; done) | (simp [cellsA, faultsT, faultsD, namesD, Nat.add_assoc, empty_append, Bool.and_assoc]; repeat (first | rfl | constructor)))) | rfl | (simp only [get_same, ev]; done) | (simp [*, cellsA]; done) | (show V.a (A.d (D.slice _ _ _ _)) = V.a (A.d (D.slice _ _ _ _)); simp [*, cellsA]; done))) rfl ?_)) (by repeat (first | exact Pfx.nil | apply Pfx.cons)) (by first | rfl | (first | rfl | (simp only [Heap.set_set, List.length_append, List.length_nil, List.length_cons, List.length_map, List.length_singleton, Nat.zero_add]; done) | (simp [Heap.set_set, Nat.add_assoc]; done)) | (((funext n; simp only [Heap.set]; (repeat' split) <;> simp_all)) <;> first | rfl | exact ⟨rfl, rfl⟩))) ⟨hi3, by rw [hm, List.append_assoc], by rw [List.append_assoc]; exact hlen⟩ (by dsimp only; omega))
            | (have hp : partF d T = membersF T.name.1 T.members.l T.members.l.length := by
                 unfold partF; rw [if_neg (by simp only [decide_eq_true_eq, decide_eq_false_iff_not] at *; omega), if_pos (by simp only [decide_eq_true_eq, decide_eq_false_iff_not] at *; omega)]
               rw [hp] at hm hlen
               exact hK5 _ (i + 1, F ++ wholeF d i T ++ membersF T.name.1 T.members.l T.members.l.length) (Weak.to (by repeat (first | exact Keeps.nil | refine Keeps.c rfl rfl ?_ | refine Keeps.c (by (first | (first | rfl | ((conv => lhs; whnf); first | (simp [cellsA, faultsT, faultsD, namesD, Fault.mk_c, Nat.add_assoc, empty_append, Bool.and_assoc]; done) | (simp [cellsA, faultsT, faultsD, namesD, Nat.add_assoc, empty_append, Bool.and_assoc]; repeat (first | rfl | constructor)))) | rfl | (simp only [get_same, ev]; done) | (simp [*, cellsA]; done) | (show V.a (A.d (D.slice _ _ _ _)) = V.a (A.d (D.slice _ _ _ _)); simp [*, cellsA]; done))) rfl ?_)) (by repeat (first | exact Pfx.nil | apply Pfx.cons)) (by first | rfl | (first | rfl | (simp only [Heap.set_set, List.length_append, List.length_nil, List.length_cons, List.length_map, List.length_singleton, Nat.zero_add]; done) | (simp [Heap.set_set, Nat.add_assoc]; done)) | (((funext n; simp only [Heap.set]; (repeat' split) <;> simp_all)) <;> first | rfl | exact ⟨rfl, rfl⟩))) ⟨hi3, by rw [hm, List.append_assoc], by rw [List.append_assoc]; exact hlen⟩ (by dsimp only; omega))
            | (have hp : partF d T = inputsF d T.inputs.l (T.name.1 ++ dot) [] T.inputs.l.length := by
                 unfold partF; rw [if_neg (by simp only [decide_eq_true_eq, decide_eq_false_iff_not] at *; omega), if_neg (by simp only [decide_eq_true_eq, decide_eq_false_iff_not] at *; omega), if_pos (by simp only [decide_eq_true_eq, decide_eq_false_iff_not] at *; omega)]
               rw [hp] at hm hlen
               exact hK5 _ (i + 1, F ++ wholeF d i T ++ inputsF d T.inputs.l (T.name.1 ++ dot) [] T.inputs.l.length) (Weak.to (by repeat (first | exact Keeps.nil | refine Keeps.c rfl rfl ?_ | refine Keeps.c (by (first | (first | rfl | ((conv => lhs; whnf); first | (simp [cellsA, faultsT, faultsD, namesD, Fault.mk_c, Nat.add_assoc, empty_append, Bool.and_assoc]; done) | (simp [cellsA, faultsT, faultsD, namesD, Nat.add_assoc, empty_append, Bool.and_assoc]; repeat (first | rfl | constructor)))) | rfl | (simp only [get_same, ev]; done) | (simp [*, cellsA]; done) | (show V.a (A.d (D.slice _ _ _ _)) = V.a (A.d (D.slice _ _ _ _)); simp [*, cellsA]; done))) rfl ?_)) (by repeat (first | exact Pfx.nil | apply Pfx.cons)) (by first | rfl | (first | rfl | (simp only [Heap.set_set, List.length_append, List.length_nil, List.length_cons, List.length_map, List.length_singleton, Nat.zero_add]; done) | (simp [Heap.set_set, Nat.add_assoc]; done)) | (((funext n; simp only [Heap.set]; (repeat' split) <;> simp_all)) <;> first | rfl | exact ⟨rfl, rfl⟩))) ⟨hi3, by rw [hm, List.append_assoc], by rw [List.append_assoc]; exact hlen⟩ (by dsimp only; omega))
            | (have hp : partF d T = [] := by
                 unfold partF; rw [if_neg (by simp only [decide_eq_true_eq, decide_eq_false_iff_not] at *; omega), if_neg (by simp only [decide_eq_true_eq, decide_eq_false_iff_not] at *; omega), if_neg (by simp only [decide_eq_true_eq, decide_eq_false_iff_not] at *; omega)]
               rw [hp, List.append_nil] at hm hlen
               exact hK5 _ (i + 1, F ++ wholeF d i T) (Weak.to (by repeat (first | exact Keeps.nil | refine Keeps.c rfl rfl ?_ | refine Keeps.c (by (first | (first | rfl | ((conv => lhs; whnf); first | (simp [cellsA, faultsT, faultsD, namesD, Fault.mk_c, Nat.add_assoc, empty_append, Bool.and_assoc]; done) | (simp [cellsA, faultsT, faultsD, namesD, Nat.add_assoc, empty_append, Bool.and_assoc]; repeat (first | rfl | constructor)))) | rfl | (simp only [get_same, ev]; done) | (simp [*, cellsA]; done) | (show V.a (A.d (D.slice _ _ _ _)) = V.a (A.d (D.slice _ _ _ _)); simp [*, cellsA]; done))) rfl ?_)) (by repeat (first | exact Pfx.nil | apply Pfx.cons)) (by first | rfl | (first | rfl | (simp only [Heap.set_set, List.length_append, List.length_nil, List.length_cons, List.length_map, List.length_singleton, Nat.zero_add]; done) | (simp [Heap.set_set, Nat.add_assoc]; done)) | (((funext n; simp only [Heap.set]; (repeat' split) <;> simp_all)) <;> first | rfl | exact ⟨rfl, rfl⟩))) ⟨hi3, hm.symm, hlen⟩ (by dsimp only; omega))
  · first
    | (cases hc0; done)
    | skip
    refine AWp.exit ?_
    refine hK3 _ ?_
    clear hK6 K6 hK5 K5 hK3 K3
    refine AWp.seqK fun K18 hK18 => ?_
    refine AWp.region ?_
    refine AOps.s0 (Cert.loadV (Try.tab_ok _ _ rfl) rfl rfl rfl) rfl ?_
    refine AOps.s0 (Cert.callP rfl rfl (ref_Find d _)) rfl ?_
    refine AOps.s0 (Cert.move (by conv => lhs; whnf)) rfl ?_
    refine AOps.s0 (Cert.extract rfl rfl) rfl ?_
    refine AOps.s0 (Cert.extract rfl rfl) rfl ?_
    refine AOps.sL (Cert.allocL (Try.tab_ok _ _ rfl) rfl (by repeat (first | exact Snoc.nil | apply Snoc.cons))) rfl ?_
    refine AOps.sLn (Cert.storeLF (Try.tab_ok _ _ rfl) rfl rfl rfl rfl rfl (by repeat (first | exact SetAt.zero | apply SetAt.succ))) ?_
    refine AOps.s0 (Cert.assign (by conv => lhs; whnf)) rfl ?_
    refine AOps.nil ?_
    refine hK18 _ ?_
    clear hK18 K18
    refine AWp.freeze 8 _ rfl (by repeat (first | exact Snoc.nil | apply Snoc.cons)) (Keeps.c (k := 1) (by conv => lhs; whnf) (by rfl) (Keeps.c (k := 5) (by conv => lhs; whnf) (by rfl) (Keeps.c (k := 9) (by conv => lhs; whnf) (by rfl) Keeps.nil))) ?_
    refine AWp.seqK fun K19 hK19 => ?_
    have hd := hs.defs
    refine AWp.seqK fun K20 hK20 => ?_
    refine AWp.region ?_
    refine AOps.s0 (Cert.move (by conv => lhs; whnf)) rfl ?_
    refine AOps.s0 (Cert.move (by conv => lhs; whnf)) rfl ?_
    refine AOps.gC rfl rfl (fun hC => Cert.move (by conv => lhs; whnf)) rfl ?_
    refine AOps.gC rfl rfl (fun hC => Cert.ungd (k := 61) rfl (by first | exact hC | exact andL hC | exact andL (andL hC) | exact andL (andL (andL hC)) | exact andR hC | simp_all) (Cert.notB rfl)) rfl ?_
    refine AOps.s0 (Cert.pickAnd rfl rfl (fun h => by first | exact h | exact notT h | exact andI hC h | exact andI hC (notT h) | simp_all) rfl) rfl ?_
    refine AOps.nil ?_
    refine hK20 _ ?_
    clear hK20 K20
    refine AWp.cond rfl (fun hc5 => ?_) (fun hc5 => ?_)
    · first
      | (cases hc5; done)
      | skip
      refine AWp.region ?_
      refine AOps.s0 (Cert.move (by conv => lhs; whnf)) rfl ?_
      refine AOps.s0 (Cert.build Try.tab_ok rfl rfl rfl rfl rfl rfl) rfl ?_
      refine AOps.s0 (Cert.buildSlice (Try.tab_ok _ _ rfl) rfl (Try.tab_ok _ _ rfl) rfl rfl rfl rfl rfl rfl) rfl ?_
      refine AOps.sH (Cert.append (Try.tab_ok _ _ rfl) rfl (Try.tab_ok _ _ rfl) (Try.tab_ok _ _ rfl) (.inl ⟨_, rfl⟩) rfl rfl (by decide) rfl rfl (by first | exact .inl rfl | exact .inr rfl) (by first | exact .inl rfl | exact .inr rfl) (by (first | assumption | exact Heap.set_same _ _ _ | ((repeat (refine (Heap.set_other _ _ (by first | assumption | (apply Ne.symm; assumption))).trans ?_)); first | assumption | exact Heap.set_same _ _ _) | (simp only [Heap.set_set, Heap.set_same]; done) | (simp [Heap.set, *]; done))) (by first | rfl | (simp; done)) (by (first | assumption | (simp [maxN]; done) | (simp [maxN]; omega) | (simp [maxN, Nat.add_mul] at *; omega))) (by (first | assumption | (simp [maxN]; done) | (simp [maxN]; omega) | (simp [maxN, Nat.add_mul] at *; omega)))) rfl ?_
      refine AOps.s0 (Cert.assign (by conv => lhs; whnf)) rfl ?_
      refine AOps.nil ?_
      refine hK19 _ ?_
      clear hK19 K19
      refine AWp.dropTok 5 rfl ?_
      refine AWp.seqK fun K21 hK21 => ?_
      refine AWp.region ?_
      refine AOps.s0 (Cert.move (by conv => lhs; whnf)) rfl ?_
      refine AOps.s0 (Cert.assign (by conv => lhs; whnf)) rfl ?_
      refine AOps.nil ?_
      refine hK21 _ ?_
      clear hK21 K21
      refine AWp.ret ?_
      repeat (first | refine xBlock_ret ?_ | refine xThen_ret ?_)
      have h1 := map_ge hc0
      have h2 : i = d.defs.l.length := Nat.le_antisymm hi h1
      refine retQ.retF H rfl ⟨?_, rfl⟩ (by simp only [Heap.set_set]; exact Heap.sub_set htk)
      have h3 : (need && !(find d.defs.l sQuery).isSome) = _ := hc5
      unfold checkAll
      rw [h3, ← h2, ← hF]
      first
      | (simp [one, faultsD, resV]; rfl)
      | (simp [one, faultsD]; rfl)
    · first
      | (cases hc5; done)
      | skip
      refine AWp.skip ?_
      refine hK19 _ ?_
      clear hK19 K19
      refine AWp.dropTok 5 rfl ?_
      refine AWp.seqK fun K22 hK22 => ?_
      refine AWp.region ?_
      refine AOps.s0 (Cert.move (by conv => lhs; whnf)) rfl ?_
      refine AOps.s0 (Cert.assign (by conv => lhs; whnf)) rfl ?_
      refine AOps.nil ?_
      refine hK22 _ ?_
      clear hK22 K22
      refine AWp.ret ?_
      repeat (first | refine xBlock_ret ?_ | refine xThen_ret ?_)
      have h1 := map_ge hc0
      have h2 : i = d.defs.l.length := Nat.le_antisymm hi h1
      refine retQ.retF H rfl ⟨?_, rfl⟩ (by simp only [Heap.set_set]; exact Heap.sub_set htk)
      have h3 : (need && !(find d.defs.l sQuery).isSome) = _ := hc5
      unfold checkAll
      rw [h3, ← h2, ← hF]
      first
      | (simp [one, faultsD, resV]; rfl)
      | (simp [one, faultsD]; rfl)
end Go.Proofs


namespace Go.Proofs
open Go Go.Ab Go.Ab.Sch
theorem eq45 : eqTab Try.prog 45 = some [.int .i64, .str] := by kernel_rfl
set_option maxRecDepth 100000 in
theorem ref_Faults (ta tb : Option Nat) (na nb : Bool) (a b : List Fault) (ha : a.length ≤ 140737488355328) (H : Heap) :
    ACalls Try.prog 10 [.d (.slice 2 ta na (a.map Fault.c)), .d (.slice 2 tb nb (b.map Fault.c))] H fun r h' => r = .a (.d (.bool (decide (a = b)))) ∧ h' = H := by
  refine ACalls.of_wp (fn := Try.f10) (c := _) Try.tab_ok (fun _ _ => Try.call10 _ _) Try.func10 rfl (n := 26) rfl (rs := [.tmp 4]) rfl rfl ?_
  refine AWp.seqK fun K1 hK1 => ?_
  refine AWp.region ?_
  refine AOps.s0 (Cert.assign (by conv => lhs; whnf)) rfl ?_
  refine AOps.nil ?_
  refine hK1 _ ?_
  clear hK1 K1
  refine AWp.seqK fun K2 hK2 => ?_
  refine AWp.seqK fun K3 hK3 => ?_
  refine AWp.region ?_
  refine AOps.s0 (Cert.move (by conv => lhs; whnf)) rfl ?_
  refine AOps.s0 (Cert.lenA (Try.tab_ok _ _ rfl) rfl rfl rfl) rfl ?_
  refine AOps.s0 (Cert.move (by conv => lhs; whnf)) rfl ?_
  refine AOps.s0 (Cert.lenA (Try.tab_ok _ _ rfl) rfl rfl rfl) rfl ?_
  refine AOps.s0 (Cert.binI rfl rfl rfl) rfl ?_
  refine AOps.nil ?_
  refine hK3 _ ?_
  clear hK3 K3
  refine AWp.cond rfl (fun hc0 => ?_) (fun hc0 => ?_)
  · first
    | (cases hc0; done)
    | skip
    refine AWp.seqK fun K4 hK4 => ?_
    refine AWp.region ?_
    refine AOps.s0 (Cert.assign (by conv => lhs; whnf)) rfl ?_
    refine AOps.nil ?_
    refine hK4 _ ?_
    clear hK4 K4
    refine AWp.ret ?_
    repeat (first | refine xBlock_ret ?_ | refine xThen_ret ?_)
    refine retQ.ret rfl ⟨?_, rfl⟩
    first
    | (have e1 := List.drop_eq_getElem_cons hi3
       have e2 := List.drop_eq_getElem_cons hi4
       have h1 : a ≠ b := fun h => by
         have h2 := hf.1 h
         rw [e1, e2] at h2
         have h5 := (List.cons.inj h2).1
         have h6 := hc2
         rw [h5] at h6
         simp at h6
       rw [decide_eq_false h1]; rfl)
    | (have e : a = b := hf.2 (by rw [List.drop_of_length_le (map_ge hc1), List.drop_of_length_le (by have := map_ge hc1; omega)])
       rw [decide_eq_true e]; rfl)
    | (have h1 : a ≠ b := fun h => by subst h; simp at hc0
       rw [decide_eq_false h1]; rfl)
  · first
    | (cases hc0; done)
    | skip
    refine AWp.skip ?_
    refine hK2 _ ?_
    clear hK2 K2
    refine AWp.seqK fun K5 hK5 => ?_
    refine AWp.seqK fun K6 hK6 => ?_
    refine AWp.region ?_
    refine AOps.s0 (Cert.assign (by conv => lhs; whnf)) rfl ?_
    refine AOps.nil ?_
    refine hK6 _ ?_
    clear hK6 K6
    refine AWp.block ?_
    have hab : a.length = b.length := by have h := hc0; simp at h; omega
    refine AWp.loopC (KeepsT.cons (k := 0) (by conv => lhs; whnf) (KeepsT.cons (k := 1) (by conv => lhs; whnf) KeepsT.nil)) (fun i : Nat => [(5, .a (.d (.int .i64 i)))])
      (fun i => a.length - i) (fun i => i ≤ a.length ∧ (a = b ↔ a.drop i = b.drop i)) 0 ⟨Nat.zero_le _, by simp⟩ (Weak.to (by repeat (first | exact Keeps.nil | refine Keeps.c rfl rfl ?_ | refine Keeps.c (by (first | (first | rfl | ((conv => lhs; whnf); first | (simp [cellsA, faultsT, faultsD, namesD, Fault.mk_c, Nat.add_assoc, empty_append, Bool.and_assoc]; done) | (simp [cellsA, faultsT, faultsD, namesD, Nat.add_assoc, empty_append, Bool.and_assoc]; repeat (first | rfl | constructor)))) | rfl | (simp only [get_same, ev]; done) | (simp [*, cellsA]; done) | (show V.a (A.d (D.slice _ _ _ _)) = V.a (A.d (D.slice _ _ _ _)); simp [*, cellsA]; done))) rfl ?_)) (by repeat (first | exact Pfx.nil | apply Pfx.cons)) (by first | rfl | (first | rfl | (simp only [Heap.set_set, List.length_append, List.length_nil, List.length_cons, List.length_map, List.length_singleton, Nat.zero_add]; done) | (simp [Heap.set_set, Nat.add_assoc]; done)) | (((funext n; simp only [Heap.set]; (repeat' split) <;> simp_all)) <;> first | rfl | exact ⟨rfl, rfl⟩))) ?_
    intro i ⟨hi, hf⟩ K7 hK7
    refine AWp.seqK fun K8 hK8 => ?_
    refine AWp.seqK fun K9 hK9 => ?_
    refine AWp.region ?_
    refine AOps.s0 (Cert.move (by conv => lhs; whnf)) rfl ?_
    refine AOps.s0 (Cert.move (by conv => lhs; whnf)) rfl ?_
    refine AOps.s0 (Cert.lenA (Try.tab_ok _ _ rfl) rfl rfl rfl) rfl ?_
    refine AOps.s0 (Cert.binI rfl rfl rfl) rfl ?_
    refine AOps.nil ?_
    refine hK9 _ ?_
    clear hK9 K9
    refine AWp.cond rfl (fun hc1 => ?_) (fun hc1 => ?_)
    · first
      | (cases hc1; done)
      | skip
      refine AWp.skip ?_
      refine hK8 _ ?_
      clear hK8 K8
      refine AWp.seqK fun K10 hK10 => ?_
      refine AWp.block ?_
      refine AWp.seqK fun K11 hK11 => ?_
      refine AWp.draw rfl ?_
      have hi3 : i < a.length := map_lt hc1
      have hi4 : i < b.length := by omega
      refine DOps.s0 (Cert.move (by conv => lhs; whnf)) rfl ?_
      refine DOps.s0 (Cert.move (by conv => lhs; whnf)) rfl ?_
      refine DOps.s0 (Cert.indexA (Try.tab_ok _ _ rfl) rfl (Try.tab_ok _ _ rfl) rfl rfl rfl (by omega) (map_get (by assumption))) rfl ?_
      refine DOps.s0 (Cert.loadV (Try.tab_ok _ _ rfl) rfl rfl rfl) rfl ?_
      refine DOps.s0 (Cert.move (by conv => lhs; whnf)) rfl ?_
      refine DOps.s0 (Cert.move (by conv => lhs; whnf)) rfl ?_
      refine DOps.s0 (Cert.indexA (Try.tab_ok _ _ rfl) rfl (Try.tab_ok _ _ rfl) rfl rfl rfl (by omega) (map_get' hi4)) rfl ?_
      refine DOps.s0 (Cert.loadV (Try.tab_ok _ _ rfl) rfl rfl rfl) rfl ?_
      refine DOps.s0 (Cert.neStruct (ks := _) eq45 rfl rfl rfl rfl) rfl ?_
      refine DOps.nil (by decide +kernel) ?_
      refine hK11 _ ?_
      clear hK11 K11
      refine AWp.cond rfl (fun hc2 => ?_) (fun hc2 => ?_)
      · first
        | (cases hc2; done)
        | skip
        refine AWp.seqK fun K12 hK12 => ?_
        refine AWp.region ?_
        refine AOps.s0 (Cert.assign (by conv => lhs; whnf)) rfl ?_
        refine AOps.nil ?_
        refine hK12 _ ?_
        clear hK12 K12
        refine AWp.ret ?_
        repeat (first | refine xBlock_ret ?_ | refine xThen_ret ?_)
        refine retQ.ret rfl ⟨?_, rfl⟩
        first
        | (have e1 := List.drop_eq_getElem_cons hi3
           have e2 := List.drop_eq_getElem_cons hi4
           have h1 : a ≠ b := fun h => by
             have h2 := hf.1 h
             rw [e1, e2] at h2
             have h5 := (List.cons.inj h2).1
             have h6 := hc2
             rw [h5] at h6
             simp at h6
           rw [decide_eq_false h1]; rfl)
        | (have e : a = b := hf.2 (by rw [List.drop_of_length_le (map_ge hc1), List.drop_of_length_le (by have := map_ge hc1; omega)])
           rw [decide_eq_true e]; rfl)
        | (have h1 : a ≠ b := fun h => by subst h; simp at hc0
           rw [decide_eq_false h1]; rfl)
      · first
        | (cases hc2; done)
        | skip
        refine AWp.skip ?_
        refine hK10 _ ?_
        clear hK10 K10
        refine AWp.region ?_
        refine AOps.s0 (Cert.move (by conv => lhs; whnf)) rfl ?_
        refine AOps.s0 (Cert.addI rfl rfl (by first | omega | (dsimp only; omega)) (by first | omega | (dsimp only; omega))) rfl ?_
        refine AOps.s0 (Cert.assign (by conv => lhs; whnf)) rfl ?_
        refine AOps.nil ?_
        refine hK7 _ (i + 1) (Weak.to (by repeat (first | exact Keeps.nil | refine Keeps.c rfl rfl ?_ | refine Keeps.c (by (first | (first | rfl | ((conv => lhs; whnf); first | (simp [cellsA, faultsT, faultsD, namesD, Fault.mk_c, Nat.add_assoc, empty_append, Bool.and_assoc]; done) | (simp [cellsA, faultsT, faultsD, namesD, Nat.add_assoc, empty_append, Bool.and_assoc]; repeat (first | rfl | constructor)))) | rfl | (simp only [get_same, ev]; done) | (simp [*, cellsA]; done) | (show V.a (A.d (D.slice _ _ _ _)) = V.a (A.d (D.slice _ _ _ _)); simp [*, cellsA]; done))) rfl ?_)) (by repeat (first | exact Pfx.nil | apply Pfx.cons)) (by first | rfl | (first | rfl | (simp only [Heap.set_set, List.length_append, List.length_nil, List.length_cons, List.length_map, List.length_singleton, Nat.zero_add]; done) | (simp [Heap.set_set, Nat.add_assoc]; done)) | (((funext n; simp only [Heap.set]; (repeat' split) <;> simp_all)) <;> first | rfl | exact ⟨rfl, rfl⟩))) ⟨hi3, ?_⟩ (by omega)
        rw [hf]
        have e1 := List.drop_eq_getElem_cons hi3
        have e2 := List.drop_eq_getElem_cons hi4
        have h1 : a[i] = b[i] := by
          have h := hc2
          simp at h
          match h3 : a[i], h4 : b[i] with
          | ⟨x, y⟩, ⟨z, u⟩ => rw [h3, h4] at h; simp at h; simp [h]
        rw [e1, e2, h1]
        exact ⟨fun h => (List.cons.inj h).2, fun h => by rw [h]⟩
    · first
      | (cases hc1; done)
      | skip
      refine AWp.exit ?_
      refine hK5 _ ?_
      clear hK8 K8 hK7 K7 hK5 K5
      refine AWp.seqK fun K13 hK13 => ?_
      refine AWp.region ?_
      refine AOps.s0 (Cert.assign (by conv => lhs; whnf)) rfl ?_
      refine AOps.nil ?_
      refine hK13 _ ?_
      clear hK13 K13
      refine AWp.ret ?_
      repeat (first | refine xBlock_ret ?_ | refine xThen_ret ?_)
      refine retQ.ret rfl ⟨?_, rfl⟩
      first
      | (have e1 := List.drop_eq_getElem_cons hi3
         have e2 := List.drop_eq_getElem_cons hi4
         have h1 : a ≠ b := fun h => by
           have h2 := hf.1 h
           rw [e1, e2] at h2
           have h5 := (List.cons.inj h2).1
           have h6 := hc2
           rw [h5] at h6
           simp at h6
         rw [decide_eq_false h1]; rfl)
      | (have e : a = b := hf.2 (by rw [List.drop_of_length_le (map_ge hc1), List.drop_of_length_le (by have := map_ge hc1; omega)])
         rw [decide_eq_true e]; rfl)
      | (have h1 : a ≠ b := fun h => by subst h; simp at hc0
         rw [decide_eq_false h1]; rfl)
end Go.Proofs


namespace Go.Proofs
open Go Go.Ab Go.Ab.Sch
set_option maxRecDepth 100000 in
theorem sch_add (d : Doc) (c tk : Nat) (hne : tk ≠ c) (F : List Fault) (hF : F.length ≤ 1099511627776) (is : Bool) (e : Int) (at_ : List UInt8) (H : Heap) :
    ACalls Try.prog 30 [.d (.ptr c 0), .d (.bool is), .d (.int .i64 e), .d (.str at_)] (ck H c tk d F) fun r h' => r = .tup [] ∧ h' = ck H c tk d (F ++ one is e at_) := by
  refine ACalls.of_wp (fn := Try.f30) (c := _) Try.tab_ok (fun _ _ => Try.call30 _ _) Try.func30 rfl (n := 21) rfl (rs := []) rfl rfl ?_
  refine AWp.seqK fun K1 hK1 => ?_
  refine AWp.region ?_
  refine AOps.s0 (Cert.move (by conv => lhs; whnf)) rfl ?_
  refine AOps.nil ?_
  refine hK1 _ ?_
  clear hK1 K1
  refine AWp.cond rfl (fun hc0 => ?_) (fun hc0 => ?_)
  · first
    | (cases hc0; done)
    | skip
    refine AWp.region ?_
    refine AOps.s0 (Cert.move (by conv => lhs; whnf)) rfl ?_
    refine AOps.s0 (Cert.move (by conv => lhs; whnf)) rfl ?_
    refine AOps.s0 (Cert.nilP rfl) rfl ?_
    refine AOps.s0 (Cert.fieldP (Try.tab_ok _ _ rfl) rfl rfl (Try.tab_ok _ _ rfl) rfl rfl) rfl ?_
    refine AOps.s0 (Cert.loadP (Try.tab_ok _ _ rfl) rfl rfl (by (first | assumption | exact Heap.set_same _ _ _ | ((repeat (refine (Heap.set_other _ _ (by first | assumption | (apply Ne.symm; assumption))).trans ?_)); first | assumption | exact Heap.set_same _ _ _) | (simp only [Heap.set_set, Heap.set_same]; done) | (simp [Heap.set, *]; done))) rfl) rfl ?_
    refine AOps.s0 (Cert.move (by conv => lhs; whnf)) rfl ?_
    refine AOps.s0 (Cert.move (by conv => lhs; whnf)) rfl ?_
    refine AOps.s0 (Cert.build Try.tab_ok rfl rfl rfl rfl rfl rfl) rfl ?_
    refine AOps.s0 (Cert.buildSlice (Try.tab_ok _ _ rfl) rfl (Try.tab_ok _ _ rfl) rfl rfl rfl rfl rfl rfl) rfl ?_
    refine AOps.sH (Cert.append (Try.tab_ok _ _ rfl) rfl (Try.tab_ok _ _ rfl) (Try.tab_ok _ _ rfl) (.inl ⟨_, rfl⟩) rfl rfl (by decide) rfl rfl (by first | exact .inl rfl | exact .inr rfl) (by first | exact .inl rfl | exact .inr rfl) (by (first | assumption | exact Heap.set_same _ _ _ | ((repeat (refine (Heap.set_other _ _ (by first | assumption | (apply Ne.symm; assumption))).trans ?_)); first | assumption | exact Heap.set_same _ _ _) | (simp only [Heap.set_set, Heap.set_same]; done) | (simp [Heap.set, *]; done))) (by first | rfl | (simp; done)) (by (first | assumption | (simp [maxN]; done) | (simp [maxN]; omega) | (simp [maxN, Nat.add_mul] at *; omega))) (by (first | assumption | (simp [maxN]; done) | (simp [maxN]; omega) | (simp [maxN, Nat.add_mul] at *; omega)))) rfl ?_
    refine AOps.s0 (Cert.nilP rfl) rfl ?_
    refine AOps.s0 (Cert.fieldP (Try.tab_ok _ _ rfl) rfl rfl (Try.tab_ok _ _ rfl) rfl rfl) rfl ?_
    refine AOps.sHn (Cert.storeP1 (Try.tab_ok _ _ rfl) rfl rfl (by (first | assumption | exact Heap.set_same _ _ _ | ((repeat (refine (Heap.set_other _ _ (by first | assumption | (apply Ne.symm; assumption))).trans ?_)); first | assumption | exact Heap.set_same _ _ _) | (simp only [Heap.set_set, Heap.set_same]; done) | (simp [Heap.set, *]; done))) rfl (by repeat (first | exact SetAt.zero | apply SetAt.succ))) rfl rfl ?_
    refine AOps.nil ?_
    repeat (first | refine xBlock_normal ?_ | refine xThen_exit ?_ | refine xBlock_exit ?_)
    refine retQ.normal rfl ⟨rfl, ?_⟩
    first
    | (subst hc0; simp only [one, if_true]; ((funext n; simp only [Heap.set]; (repeat' split) <;> simp_all)); simp [faultsT, cellsA]; rfl)
    | (subst hc0; simp [one])
  · first
    | (cases hc0; done)
    | skip
    refine AWp.skip ?_
    repeat (first | refine xBlock_normal ?_ | refine xThen_exit ?_ | refine xBlock_exit ?_)
    refine retQ.normal rfl ⟨rfl, ?_⟩
    first
    | (subst hc0; simp only [one, if_true]; ((funext n; simp only [Heap.set]; (repeat' split) <;> simp_all)); simp [faultsT, cellsA]; rfl)
    | (subst hc0; simp [one])
end Go.Proofs


namespace Go.Proofs
open Go Go.Ab Go.Ab.Sch
set_option maxRecDepth 100000 in
theorem sch_name (d : Doc) (c tk m : Nat) (hne : tk ≠ c) (hmc : m ≠ c) (hmt : m ≠ tk) (F : List Fault) (hF : F.length ≤ 549755813888) (name at_ : List UInt8) (S : List (List UInt8)) (H : Heap) (hm : H m = some (.map (seenM S))) :
    ACalls Try.prog 49 [.d (.ptr c 0), .d (.str name), .d (.str at_), .d (.map m)] (ck H c tk d F) fun r h' => r = .tup [] ∧ h' = ck (H.set m (some (.map (seenM (insS S name))))) c tk d (F ++ names name false (S.contains name) at_) := by
  refine ACalls.of_wp (fn := Try.f49) (c := _) Try.tab_ok (fun _ _ => Try.call49 _ _) Try.func49 rfl (n := 26) rfl (rs := []) rfl rfl ?_
  refine AWp.seqK fun K1 hK1 => ?_
  refine AWp.region ?_
  refine AOps.s0 (Cert.move (by conv => lhs; whnf)) rfl ?_
  refine AOps.s0 (Cert.move (by conv => lhs; whnf)) rfl ?_
  refine AOps.s0 (Cert.callP rfl rfl (text_Name _)) rfl ?_
  refine AOps.s0 (Cert.notB rfl) rfl ?_
  refine AOps.s0 (Cert.move (by conv => lhs; whnf)) rfl ?_
  refine AOps.gC rfl rfl (fun hC => Cert.move (by conv => lhs; whnf)) rfl ?_
  refine AOps.gC rfl rfl (fun hC => Cert.ungd (k := 13) rfl (by first | exact hC | exact andL hC | exact andL (andL hC) | exact andL (andL (andL hC)) | exact andR hC | simp_all) (Cert.callP rfl rfl (text_Reserved _))) rfl ?_
  refine AOps.s0 (Cert.pickOr rfl rfl rfl (fun h => by first | exact h | exact notT h | exact andI hC h | exact andI hC (notT h) | simp_all)) rfl ?_
  refine AOps.s0 (Cert.move (by conv => lhs; whnf)) rfl ?_
  refine AOps.sH (Cert.callH rfl rfl (sch_add d c tk hne F (by omega) (!nameI name || reservedB name) 6 at_ H)) rfl ?_
  refine AOps.nil ?_
  refine hK1 _ ?_
  clear hK1 K1
  refine AWp.seqK fun K2 hK2 => ?_
  refine AWp.region ?_
  refine AOps.s0 (Cert.move (by conv => lhs; whnf)) rfl ?_
  refine AOps.s0 (Cert.move (by conv => lhs; whnf)) rfl ?_
  refine AOps.s0 (Cert.move (by conv => lhs; whnf)) rfl ?_
  refine AOps.s0 (Cert.lookupSeen (Try.tab_ok _ _ rfl) rfl (Try.tab_ok _ _ rfl) (Try.tab_ok _ _ rfl) rfl rfl rfl rfl (by (first | assumption | exact Heap.set_same _ _ _ | ((repeat (refine (Heap.set_other _ _ (by first | assumption | (apply Ne.symm; assumption))).trans ?_)); first | assumption | exact Heap.set_same _ _ _) | (simp only [Heap.set_set, Heap.set_same]; done) | (simp [Heap.set, *]; done)))) rfl ?_
  refine AOps.s0 (Cert.move (by conv => lhs; whnf)) rfl ?_
  refine AOps.sH (Cert.callH rfl rfl (sch_add d c tk hne (F ++ one (!nameI name || reservedB name) 6 at_) (by rw [List.length_append]; have := one_len (!nameI name || reservedB name) 6 at_; omega) (S.contains name) 7 at_ H)) rfl ?_
  refine AOps.nil ?_
  refine hK2 _ ?_
  clear hK2 K2
  refine AWp.region ?_
  refine AOps.s0 (Cert.move (by conv => lhs; whnf)) rfl ?_
  refine AOps.s0 (Cert.move (by conv => lhs; whnf)) rfl ?_
  refine AOps.sHn (Cert.mapUpdate (Try.tab_ok _ _ rfl) rfl (Try.tab_ok _ _ rfl) rfl rfl rfl rfl (by (first | assumption | exact Heap.set_same _ _ _ | ((repeat (refine (Heap.set_other _ _ (by first | assumption | (apply Ne.symm; assumption))).trans ?_)); first | assumption | exact Heap.set_same _ _ _) | (simp only [Heap.set_set, Heap.set_same]; done) | (simp [Heap.set, *]; done))) (by first | exact seen_upd _ _ | assumption) rfl) rfl rfl ?_
  refine AOps.nil ?_
  repeat (first | refine xBlock_normal ?_ | refine xThen_exit ?_ | refine xBlock_exit ?_)
  refine retQ.normal rfl ⟨rfl, ?_⟩
  have e : names name false (S.contains name) at_ = one (!nameI name || reservedB name) 6 at_ ++ one (S.contains name) 7 at_ := by
    unfold names allowed; rw [nameI_eq]; simp
  rw [e, ← List.append_assoc]
  ((funext n; simp only [Heap.set]; (repeat' split) <;> simp_all))
end Go.Proofs


namespace Go.Proofs
open Go Go.Ab Go.Ab.Sch
/-- What the named type of a position gives. -/
def typF (d : Doc) (name at_ : List UInt8) (p : Int) : List Fault :=
  if !(find d.defs.l name).isSome && !scalar name then one true 8 at_ else if p = 0 then one (!scalar name && decide (kind d name = 5)) 10 at_ else one (!isInput d name) 10 at_
set_option maxRecDepth 100000 in
theorem sch_typ (d : Doc) (c tk : Nat) (hne : tk ≠ c) (F : List Fault) (hF : F.length ≤ 549755813888) (name at_ : List UInt8) (p : Int) (H : Heap) :
    ACalls Try.prog 50 [.d (.ptr c 0), .d (.str name), .d (.str at_), .d (.int .i64 p)] (ck H c tk d F) fun r h' => r = .tup [] ∧ h' = ck H c tk d (F ++ typF d name at_ p) := by
  refine ACalls.of_wp (fn := Try.f50) (c := _) Try.tab_ok (fun _ _ => Try.call50 _ _) Try.func50 rfl (n := 58) rfl (rs := []) rfl rfl ?_
  refine AWp.seqK fun K1 hK1 => ?_
  refine AWp.region ?_
  refine AOps.s0 (Cert.move (by conv => lhs; whnf)) rfl ?_
  refine AOps.s0 (Cert.nilP rfl) rfl ?_
  refine AOps.s0 (Cert.fieldP (Try.tab_ok _ _ rfl) rfl rfl (Try.tab_ok _ _ rfl) rfl rfl) rfl ?_
  refine AOps.s0 (Cert.loadP (Try.tab_ok _ _ rfl) rfl rfl (by (first | assumption | exact Heap.set_same _ _ _ | ((repeat (refine (Heap.set_other _ _ (by first | assumption | (apply Ne.symm; assumption))).trans ?_)); first | assumption | exact Heap.set_same _ _ _) | (simp only [Heap.set_set, Heap.set_same]; done) | (simp [Heap.set, *]; done))) rfl) rfl ?_
  refine AOps.s0 (Cert.move (by conv => lhs; whnf)) rfl ?_
  refine AOps.s0 (Cert.callP rfl rfl (sch_Find d _)) rfl ?_
  refine AOps.s0 (Cert.move (by conv => lhs; whnf)) rfl ?_
  refine AOps.s0 (Cert.extract rfl rfl) rfl ?_
  refine AOps.s0 (Cert.extract rfl rfl) rfl ?_
  refine AOps.sL (Cert.allocL (Try.tab_ok _ _ rfl) rfl (by repeat (first | exact Snoc.nil | apply Snoc.cons))) rfl ?_
  refine AOps.sLn (Cert.storeLF (Try.tab_ok _ _ rfl) rfl rfl rfl rfl rfl (by repeat (first | exact SetAt.zero | apply SetAt.succ))) ?_
  refine AOps.s0 (Cert.assign (by conv => lhs; whnf)) rfl ?_
  refine AOps.nil ?_
  refine hK1 _ ?_
  clear hK1 K1
  refine AWp.freeze 8 _ rfl (by repeat (first | exact Snoc.nil | apply Snoc.cons)) (Keeps.c (k := 0) (by conv => lhs; whnf) (by rfl) (Keeps.c (k := 1) (by conv => lhs; whnf) (by rfl) (Keeps.c (k := 2) (by conv => lhs; whnf) (by rfl) (Keeps.c (k := 3) (by conv => lhs; whnf) (by rfl) (Keeps.c (k := 9) (by conv => lhs; whnf) (by rfl) Keeps.nil))))) ?_
  refine AWp.block ?_
  refine AWp.seqK fun K2 hK2 => ?_
  refine AWp.region ?_
  refine AOps.s0 (Cert.move (by conv => lhs; whnf)) rfl ?_
  refine AOps.s0 (Cert.notB rfl) rfl ?_
  refine AOps.s0 (Cert.move (by conv => lhs; whnf)) rfl ?_
  refine AOps.gC rfl rfl (fun hC => Cert.move (by conv => lhs; whnf)) rfl ?_
  refine AOps.gC rfl rfl (fun hC => Cert.ungd (k := 33) rfl (by first | exact hC | exact andL hC | exact andL (andL hC) | exact andL (andL (andL hC)) | exact andR hC | simp_all) (Cert.callP rfl rfl (sch_Scalar _))) rfl ?_
  refine AOps.gC rfl rfl (fun hC => Cert.ungd (k := 34) rfl (by first | exact hC | exact andL hC | exact andL (andL hC) | exact andL (andL (andL hC)) | exact andR hC | simp_all) (Cert.notB rfl)) rfl ?_
  refine AOps.s0 (Cert.pickAnd rfl rfl (fun h => by first | exact h | exact notT h | exact andI hC h | exact andI hC (notT h) | simp_all) rfl) rfl ?_
  refine AOps.s0 (Cert.assign (by conv => lhs; whnf)) rfl ?_
  refine AOps.nil ?_
  refine hK2 _ ?_
  clear hK2 K2
  refine AWp.cond rfl (fun hc0 => ?_) (fun hc0 => ?_)
  · first
    | (cases hc0; done)
    | skip
    refine AWp.region ?_
    refine AOps.s0 (Cert.move (by conv => lhs; whnf)) rfl ?_
    refine AOps.s0 (Cert.move (by conv => lhs; whnf)) rfl ?_
    refine AOps.sH (Cert.callH rfl rfl (sch_add d c tk hne F (by omega) _ _ at_ H)) rfl ?_
    refine AOps.nil ?_
    repeat (first | refine xBlock_normal ?_ | refine xThen_exit ?_ | refine xBlock_exit ?_)
    refine retQ.normal rfl ⟨rfl, ?_⟩
    unfold typF
    first
    | (have h : (!(find d.defs.l name).isSome && !scalar name) = true := hc0
       rw [h]; rfl)
    | (have h : (!(find d.defs.l name).isSome && !scalar name) = false := hc0
       have h1 : p = 0 := by simpa using hc1
       rw [h]; rw [if_neg (by simp), if_pos h1])
    | (have h : (!(find d.defs.l name).isSome && !scalar name) = false := hc0
       have h1 : ¬ p = 0 := by simpa using hc1
       rw [h]; rw [if_neg (by simp), if_neg h1])
  · first
    | (cases hc0; done)
    | skip
    refine AWp.seqK fun K3 hK3 => ?_
    refine AWp.region ?_
    refine AOps.s0 (Cert.move (by conv => lhs; whnf)) rfl ?_
    refine AOps.s0 (Cert.binI rfl rfl rfl) rfl ?_
    refine AOps.s0 (Cert.assign (by conv => lhs; whnf)) rfl ?_
    refine AOps.nil ?_
    refine hK3 _ ?_
    clear hK3 K3
    refine AWp.cond rfl (fun hc1 => ?_) (fun hc1 => ?_)
    · first
      | (cases hc1; done)
      | skip
      refine AWp.region ?_
      refine AOps.s0 (Cert.move (by conv => lhs; whnf)) rfl ?_
      refine AOps.s0 (Cert.move (by conv => lhs; whnf)) rfl ?_
      refine AOps.s0 (Cert.callP rfl rfl (sch_Scalar _)) rfl ?_
      refine AOps.s0 (Cert.notB rfl) rfl ?_
      refine AOps.s0 (Cert.move (by conv => lhs; whnf)) rfl ?_
      refine AOps.gC rfl rfl (fun hC => Cert.move (by conv => lhs; whnf)) rfl ?_
      refine AOps.gC rfl rfl (fun hC => Cert.ungd (k := 48) rfl (by first | exact hC | exact andL hC | exact andL (andL hC) | exact andL (andL (andL hC)) | exact andR hC | simp_all) (Cert.nilP rfl)) rfl ?_
      refine AOps.gC rfl rfl (fun hC => Cert.ungd (k := 49) rfl (by first | exact hC | exact andL hC | exact andL (andL hC) | exact andL (andL (andL hC)) | exact andR hC | simp_all) (Cert.fieldP (Try.tab_ok _ _ rfl) rfl rfl (Try.tab_ok _ _ rfl) rfl rfl)) rfl ?_
      refine AOps.gC rfl rfl (fun hC => Cert.ungd (k := 50) rfl (by first | exact hC | exact andL hC | exact andL (andL hC) | exact andL (andL (andL hC)) | exact andR hC | simp_all) (Cert.loadP (Try.tab_ok _ _ rfl) rfl rfl (by (first | assumption | exact Heap.set_same _ _ _ | ((repeat (refine (Heap.set_other _ _ (by first | assumption | (apply Ne.symm; assumption))).trans ?_)); first | assumption | exact Heap.set_same _ _ _) | (simp only [Heap.set_set, Heap.set_same]; done) | (simp [Heap.set, *]; done))) rfl)) rfl ?_
      refine AOps.gC rfl rfl (fun hC => Cert.move (by conv => lhs; whnf)) rfl ?_
      refine AOps.gC rfl rfl (fun hC => Cert.ungd (k := 51) rfl (by first | exact hC | exact andL hC | exact andL (andL hC) | exact andL (andL (andL hC)) | exact andR hC | simp_all) (Cert.ungd (k := 52) rfl (by first | exact hC | exact andL hC | exact andL (andL hC) | exact andL (andL (andL hC)) | exact andR hC | simp_all) (Cert.callP rfl rfl (sch_kind d _)))) rfl ?_
      refine AOps.gC rfl rfl (fun hC => Cert.ungd (k := 53) rfl (by first | exact hC | exact andL hC | exact andL (andL hC) | exact andL (andL (andL hC)) | exact andR hC | simp_all) (Cert.binI rfl rfl rfl)) rfl ?_
      refine AOps.s0 (Cert.pickAnd rfl rfl (fun h => by first | exact h | exact notT h | exact andI hC h | exact andI hC (notT h) | simp_all) rfl) rfl ?_
      refine AOps.s0 (Cert.move (by conv => lhs; whnf)) rfl ?_
      refine AOps.sH (Cert.callH rfl rfl (sch_add d c tk hne F (by omega) _ _ at_ H)) rfl ?_
      refine AOps.nil ?_
      repeat (first | refine xBlock_normal ?_ | refine xThen_exit ?_ | refine xBlock_exit ?_)
      refine retQ.normal rfl ⟨rfl, ?_⟩
      unfold typF
      first
      | (have h : (!(find d.defs.l name).isSome && !scalar name) = true := hc0
         rw [h]; rfl)
      | (have h : (!(find d.defs.l name).isSome && !scalar name) = false := hc0
         have h1 : p = 0 := by simpa using hc1
         rw [h]; rw [if_neg (by simp), if_pos h1])
      | (have h : (!(find d.defs.l name).isSome && !scalar name) = false := hc0
         have h1 : ¬ p = 0 := by simpa using hc1
         rw [h]; rw [if_neg (by simp), if_neg h1])
    · first
      | (cases hc1; done)
      | skip
      refine AWp.region ?_
      refine AOps.s0 (Cert.move (by conv => lhs; whnf)) rfl ?_
      refine AOps.s0 (Cert.move (by conv => lhs; whnf)) rfl ?_
      refine AOps.s0 (Cert.nilP rfl) rfl ?_
      refine AOps.s0 (Cert.fieldP (Try.tab_ok _ _ rfl) rfl rfl (Try.tab_ok _ _ rfl) rfl rfl) rfl ?_
      refine AOps.s0 (Cert.loadP (Try.tab_ok _ _ rfl) rfl rfl (by (first | assumption | exact Heap.set_same _ _ _ | ((repeat (refine (Heap.set_other _ _ (by first | assumption | (apply Ne.symm; assumption))).trans ?_)); first | assumption | exact Heap.set_same _ _ _) | (simp only [Heap.set_set, Heap.set_same]; done) | (simp [Heap.set, *]; done))) rfl) rfl ?_
      refine AOps.s0 (Cert.move (by conv => lhs; whnf)) rfl ?_
      refine AOps.s0 (Cert.callP rfl rfl (sch_IsInput d _)) rfl ?_
      refine AOps.s0 (Cert.notB rfl) rfl ?_
      refine AOps.s0 (Cert.move (by conv => lhs; whnf)) rfl ?_
      refine AOps.sH (Cert.callH rfl rfl (sch_add d c tk hne F (by omega) _ _ at_ H)) rfl ?_
      refine AOps.nil ?_
      repeat (first | refine xBlock_normal ?_ | refine xThen_exit ?_ | refine xBlock_exit ?_)
      refine retQ.normal rfl ⟨rfl, ?_⟩
      unfold typF
      first
      | (have h : (!(find d.defs.l name).isSome && !scalar name) = true := hc0
         rw [h]; rfl)
      | (have h : (!(find d.defs.l name).isSome && !scalar name) = false := hc0
         have h1 : p = 0 := by simpa using hc1
         rw [h]; rw [if_neg (by simp), if_pos h1])
      | (have h : (!(find d.defs.l name).isSome && !scalar name) = false := hc0
         have h1 : ¬ p = 0 := by simpa using hc1
         rw [h]; rw [if_neg (by simp), if_neg h1])
end Go.Proofs

