import Derived.Test.YtgdidaagebcocaaV1
set_option linter.unusedVariables false
set_option linter.unusedSimpArgs false
namespace Go.Proofs
open Go Go.Ab Go.Ab.Sch
set_option maxRecDepth 100000 in
theorem ref_namesT (name : List UInt8) (bad before : Bool) (at_ : List UInt8) (H : Heap) : ACalls Try.prog 43 [.d (.str name), .d (.bool bad), .d (.bool before), .d (.str at_)] H fun r h' => ∃ tk, H tk = none ∧ r = .a (.d (faultsT tk (names name bad before at_))) ∧ h' = H.set tk (some (.tok 2 (names name bad before at_).length)) := by
  refine ACalls.of_wp (fn := Try.f43) (c := _) Try.tab_ok (fun _ _ => Try.call43 _ _) Try.func43 rfl (n := 28) rfl (rs := [.tmp 8]) rfl rfl ?_
  refine AWp.tok 2 fun tk htk => ?_
  refine AWp.seqK fun K1 hK1 => ?_
  refine AWp.region ?_
  refine AOps.s0 (Cert.assign (by conv => lhs; whnf)) rfl ?_
  refine AOps.nil ?_
  refine hK1 _ ?_
  clear hK1 K1
  refine AWp.seqK fun K2 hK2 => ?_
  refine AWp.region ?_
  refine AOps.s0 (Cert.assign (by conv => lhs; whnf)) rfl ?_
  refine AOps.nil ?_
  refine hK2 _ ?_
  clear hK2 K2
  refine AWp.seqK fun K3 hK3 => ?_
  refine AWp.nilTok 9 2 tk rfl (Heap.set_same _ _ _) ?_
  refine AWp.seqK fun K4 hK4 => ?_
  refine AWp.region ?_
  refine AOps.s0 (Cert.move (by conv => lhs; whnf)) rfl ?_
  refine AOps.s0 (Cert.move (by conv => lhs; whnf)) rfl ?_
  refine AOps.gC rfl rfl (fun hC => Cert.move (by conv => lhs; whnf)) rfl ?_
  refine AOps.gC rfl rfl (fun hC => Cert.ungd (k := 12) rfl (by first | exact hC | exact andL hC | exact andL (andL hC) | exact andL (andL (andL hC)) | exact andR hC | simp_all) (Cert.callP rfl rfl (ref_allowed _))) rfl ?_
  refine AOps.gC rfl rfl (fun hC => Cert.ungd (k := 13) rfl (by first | exact hC | exact andL hC | exact andL (andL hC) | exact andL (andL (andL hC)) | exact andR hC | simp_all) (Cert.notB rfl)) rfl ?_
  refine AOps.s0 (Cert.pickOr rfl rfl rfl (fun h => by first | exact h | exact notT h | exact andI hC h | exact andI hC (notT h) | simp_all)) rfl ?_
  refine AOps.nil ?_
  refine hK4 _ ?_
  clear hK4 K4
  refine AWp.cond rfl (fun hc0 => ?_) (fun hc0 => ?_)
  · first
    | (cases hc0; done)
    | skip
    refine AWp.region ?_
    refine AOps.s0 (Cert.move (by conv => lhs; whnf)) rfl ?_
    refine AOps.s0 (Cert.move (by conv => lhs; whnf)) rfl ?_
    refine AOps.s0 (Cert.build Try.tab_ok rfl rfl rfl rfl rfl rfl) rfl ?_
    refine AOps.s0 (Cert.buildSlice (Try.tab_ok _ _ rfl) rfl (Try.tab_ok _ _ rfl) rfl rfl rfl rfl rfl rfl) rfl ?_
    refine AOps.sH (Cert.append (Try.tab_ok _ _ rfl) rfl (Try.tab_ok _ _ rfl) (Try.tab_ok _ _ rfl) (.inl ⟨_, rfl⟩) rfl rfl (by decide) rfl rfl (by first | exact .inl rfl | exact .inr rfl) (by first | exact .inl rfl | exact .inr rfl) (by (first | assumption | exact Heap.set_same _ _ _ | ((repeat (refine (Heap.set_other _ _ (by first | assumption | (apply Ne.symm; assumption))).trans ?_)); first | assumption | exact Heap.set_same _ _ _) | (simp only [Heap.set_set, Heap.set_same]; done) | (simp [Heap.set, *]; done))) (by first | rfl | (simp; done)) (by (first | assumption | (simp [maxN]; done) | (simp [maxN]; omega) | (simp [maxN, Nat.add_mul] at *; omega))) (by (first | assumption | (simp [maxN]; done) | (simp [maxN]; omega) | (simp [maxN, Nat.add_mul] at *; omega)))) rfl ?_
    refine AOps.s0 (Cert.assign (by conv => lhs; whnf)) rfl ?_
    refine AOps.nil ?_
    refine hK3 _ ?_
    clear hK3 K3
    refine AWp.seqK fun K5 hK5 => ?_
    refine AWp.seqK fun K6 hK6 => ?_
    refine AWp.region ?_
    refine AOps.s0 (Cert.move (by conv => lhs; whnf)) rfl ?_
    refine AOps.nil ?_
    refine hK6 _ ?_
    clear hK6 K6
    refine AWp.cond rfl (fun hc1 => ?_) (fun hc1 => ?_)
    · first
      | (cases hc1; done)
      | skip
      refine AWp.region ?_
      refine AOps.s0 (Cert.move (by conv => lhs; whnf)) rfl ?_
      refine AOps.s0 (Cert.move (by conv => lhs; whnf)) rfl ?_
      refine AOps.s0 (Cert.build Try.tab_ok rfl rfl rfl rfl rfl rfl) rfl ?_
      refine AOps.s0 (Cert.buildSlice (Try.tab_ok _ _ rfl) rfl (Try.tab_ok _ _ rfl) rfl rfl rfl rfl rfl rfl) rfl ?_
      refine AOps.sH (Cert.append (Try.tab_ok _ _ rfl) rfl (Try.tab_ok _ _ rfl) (Try.tab_ok _ _ rfl) (.inl ⟨_, rfl⟩) rfl rfl (by decide) rfl rfl (by first | exact .inl rfl | exact .inr rfl) (by first | exact .inl rfl | exact .inr rfl) (by (first | assumption | exact Heap.set_same _ _ _ | ((repeat (refine (Heap.set_other _ _ (by first | assumption | (apply Ne.symm; assumption))).trans ?_)); first | assumption | exact Heap.set_same _ _ _) | (simp only [Heap.set_set, Heap.set_same]; done) | (simp [Heap.set, *]; done))) (by first | rfl | (simp; done)) (by (first | assumption | (simp [maxN]; done) | (simp [maxN]; omega) | (simp [maxN, Nat.add_mul] at *; omega))) (by (first | assumption | (simp [maxN]; done) | (simp [maxN]; omega) | (simp [maxN, Nat.add_mul] at *; omega)))) rfl ?_
      refine AOps.s0 (Cert.assign (by conv => lhs; whnf)) rfl ?_
      refine AOps.nil ?_
      refine hK5 _ ?_
      clear hK5 K5
      refine AWp.seqK fun K7 hK7 => ?_
      refine AWp.region ?_
      refine AOps.s0 (Cert.move (by conv => lhs; whnf)) rfl ?_
      refine AOps.s0 (Cert.assign (by conv => lhs; whnf)) rfl ?_
      refine AOps.nil ?_
      refine hK7 _ ?_
      clear hK7 K7
      refine AWp.ret ?_
      repeat (first | refine xBlock_ret ?_ | refine xThen_ret ?_)
      refine retQ.ret rfl ⟨tk, htk, ?_, ?_⟩
      · unfold names one
        simp_all [faultsT, Fault.c]
        try rfl
      · unfold names one
        simp_all [Heap.set_set]
    · first
      | (cases hc1; done)
      | skip
      refine AWp.skip ?_
      refine hK5 _ ?_
      clear hK5 K5
      refine AWp.seqK fun K8 hK8 => ?_
      refine AWp.region ?_
      refine AOps.s0 (Cert.move (by conv => lhs; whnf)) rfl ?_
      refine AOps.s0 (Cert.assign (by conv => lhs; whnf)) rfl ?_
      refine AOps.nil ?_
      refine hK8 _ ?_
      clear hK8 K8
      refine AWp.ret ?_
      repeat (first | refine xBlock_ret ?_ | refine xThen_ret ?_)
      refine retQ.ret rfl ⟨tk, htk, ?_, ?_⟩
      · unfold names one
        simp_all [faultsT, Fault.c]
        try rfl
      · unfold names one
        simp_all [Heap.set_set]
  · first
    | (cases hc0; done)
    | skip
    refine AWp.skip ?_
    refine hK3 _ ?_
    clear hK3 K3
    refine AWp.seqK fun K9 hK9 => ?_
    refine AWp.seqK fun K10 hK10 => ?_
    refine AWp.region ?_
    refine AOps.s0 (Cert.move (by conv => lhs; whnf)) rfl ?_
    refine AOps.nil ?_
    refine hK10 _ ?_
    clear hK10 K10
    refine AWp.cond rfl (fun hc1 => ?_) (fun hc1 => ?_)
    · first
      | (cases hc1; done)
      | skip
      refine AWp.region ?_
      refine AOps.s0 (Cert.move (by conv => lhs; whnf)) rfl ?_
      refine AOps.s0 (Cert.move (by conv => lhs; whnf)) rfl ?_
      refine AOps.s0 (Cert.build Try.tab_ok rfl rfl rfl rfl rfl rfl) rfl ?_
      refine AOps.s0 (Cert.buildSlice (Try.tab_ok _ _ rfl) rfl (Try.tab_ok _ _ rfl) rfl rfl rfl rfl rfl rfl) rfl ?_
      refine AOps.sH (Cert.append (Try.tab_ok _ _ rfl) rfl (Try.tab_ok _ _ rfl) (Try.tab_ok _ _ rfl) (.inl ⟨_, rfl⟩) rfl rfl (by decide) rfl rfl (by first | exact .inl rfl | exact .inr rfl) (by first | exact .inl rfl | exact .inr rfl) (by (first | assumption | exact Heap.set_same _ _ _ | ((repeat (refine (Heap.set_other _ _ (by first | assumption | (apply Ne.symm; assumption))).trans ?_)); first | assumption | exact Heap.set_same _ _ _) | (simp only [Heap.set_set, Heap.set_same]; done) | (simp [Heap.set, *]; done))) (by first | rfl | (simp; done)) (by (first | assumption | (simp [maxN]; done) | (simp [maxN]; omega) | (simp [maxN, Nat.add_mul] at *; omega))) (by (first | assumption | (simp [maxN]; done) | (simp [maxN]; omega) | (simp [maxN, Nat.add_mul] at *; omega)))) rfl ?_
      refine AOps.s0 (Cert.assign (by conv => lhs; whnf)) rfl ?_
      refine AOps.nil ?_
      refine hK9 _ ?_
      clear hK9 K9
      refine AWp.seqK fun K11 hK11 => ?_
      refine AWp.region ?_
      refine AOps.s0 (Cert.move (by conv => lhs; whnf)) rfl ?_
      refine AOps.s0 (Cert.assign (by conv => lhs; whnf)) rfl ?_
      refine AOps.nil ?_
      refine hK11 _ ?_
      clear hK11 K11
      refine AWp.ret ?_
      repeat (first | refine xBlock_ret ?_ | refine xThen_ret ?_)
      refine retQ.ret rfl ⟨tk, htk, ?_, ?_⟩
      · unfold names one
        simp_all [faultsT, Fault.c]
        try rfl
      · unfold names one
        simp_all [Heap.set_set]
    · first
      | (cases hc1; done)
      | skip
      refine AWp.skip ?_
      refine hK9 _ ?_
      clear hK9 K9
      refine AWp.seqK fun K12 hK12 => ?_
      refine AWp.region ?_
      refine AOps.s0 (Cert.move (by conv => lhs; whnf)) rfl ?_
      refine AOps.s0 (Cert.assign (by conv => lhs; whnf)) rfl ?_
      refine AOps.nil ?_
      refine hK12 _ ?_
      clear hK12 K12
      refine AWp.ret ?_
      repeat (first | refine xBlock_ret ?_ | refine xThen_ret ?_)
      refine retQ.ret rfl ⟨tk, htk, ?_, ?_⟩
      · unfold names one
        simp_all [faultsT, Fault.c]
        try rfl
      · unfold names one
        simp_all [Heap.set_set]
theorem ref_names (name : List UInt8) (bad before : Bool) (at_ : List UInt8) (H : Heap) : ACalls Try.prog 43 [.d (.str name), .d (.bool bad), .d (.bool before), .d (.str at_)] H fun r h' => r = .a (.d (faultsD (names name bad before at_))) ∧ h' = H :=
  (ref_namesT name bad before at_ H).weaken fun _ _ ⟨_, h1, e1, e2⟩ => by subst e1 e2; exact ⟨_, _, ⟨rfl, rfl⟩, slice_dropTok, Heap.sub_set h1⟩
set_option maxRecDepth 100000 in
theorem ref_empty (t : Def) (H : Heap) : ACalls Try.prog 44 [.agg t.c] H fun r h' => r = .a (.d (.bool (emptyB t))) ∧ h' = H := by
  refine ACalls.of_wp (fn := Try.f44) (c := _) Try.tab_ok (fun _ _ => Try.call44 _ _) Try.func44 rfl (n := 25) rfl (rs := [.tmp 2]) rfl rfl ?_
  refine AWp.seqK fun K1 hK1 => ?_
  refine AWp.region ?_
  refine AOps.s0 (Cert.boxV rfl) rfl ?_
  refine AOps.s0 (Cert.assign (by conv => lhs; whnf)) rfl ?_
  refine AOps.nil ?_
  refine hK1 _ ?_
  clear hK1 K1
  refine AWp.seqK fun K2 hK2 => ?_
  refine AWp.seqK fun K3 hK3 => ?_
  refine AWp.region ?_
  refine AOps.s0 (Cert.fieldV (Try.tab_ok _ _ rfl) rfl rfl (Try.tab_ok _ _ rfl) rfl rfl (by conv => lhs; whnf)) rfl ?_
  refine AOps.s0 (Cert.loadV (Try.tab_ok _ _ rfl) rfl rfl rfl) rfl ?_
  refine AOps.nil ?_
  refine hK3 _ ?_
  clear hK3 K3
  refine AWp.block ?_
  refine AWp.seqK fun K4 hK4 => ?_
  refine AWp.seqK fun K5 hK5 => ?_
  refine AWp.region ?_
  refine AOps.s0 (Cert.binI rfl rfl rfl) rfl ?_
  refine AOps.s0 (Cert.assign (by conv => lhs; whnf)) rfl ?_
  refine AOps.nil ?_
  refine hK5 _ ?_
  clear hK5 K5
  refine AWp.cond rfl (fun hc0 => ?_) (fun hc0 => ?_)
  · first
    | (cases hc0; done)
    | skip
    refine AWp.skip ?_
    refine hK4 _ ?_
    clear hK4 K4
    refine AWp.cond rfl (fun hc1 => ?_) (fun hc1 => ?_)
    · first
      | (cases hc1; done)
      | skip
      refine AWp.seqK fun K6 hK6 => ?_
      refine AWp.region ?_
      refine AOps.s0 (Cert.fieldV (Try.tab_ok _ _ rfl) rfl rfl (Try.tab_ok _ _ rfl) rfl rfl (by conv => lhs; whnf)) rfl ?_
      refine AOps.s0 (Cert.loadV (Try.tab_ok _ _ rfl) rfl rfl rfl) rfl ?_
      refine AOps.s0 (Cert.lenA (Try.tab_ok _ _ rfl) rfl rfl rfl) rfl ?_
      refine AOps.s0 (Cert.binI rfl rfl rfl) rfl ?_
      refine AOps.s0 (Cert.assign (by conv => lhs; whnf)) rfl ?_
      refine AOps.nil ?_
      refine hK6 _ ?_
      clear hK6 K6
      refine AWp.ret ?_
      repeat (first | refine xBlock_ret ?_ | refine xThen_ret ?_)
      refine retQ.ret rfl ⟨?_, rfl⟩
      unfold emptyB
      simp_all
      try rfl
    · first
      | (cases hc1; done)
      | skip
      refine AWp.seqK fun K7 hK7 => ?_
      refine AWp.seqK fun K8 hK8 => ?_
      refine AWp.region ?_
      refine AOps.s0 (Cert.binI rfl rfl rfl) rfl ?_
      refine AOps.s0 (Cert.assign (by conv => lhs; whnf)) rfl ?_
      refine AOps.nil ?_
      refine hK8 _ ?_
      clear hK8 K8
      refine AWp.cond rfl (fun hc2 => ?_) (fun hc2 => ?_)
      · first
        | (cases hc2; done)
        | skip
        refine AWp.skip ?_
        refine hK7 _ ?_
        clear hK7 K7
        refine AWp.cond rfl (fun hc3 => ?_) (fun hc3 => ?_)
        · first
          | (cases hc3; done)
          | skip
          refine AWp.seqK fun K9 hK9 => ?_
          refine AWp.region ?_
          refine AOps.s0 (Cert.fieldV (Try.tab_ok _ _ rfl) rfl rfl (Try.tab_ok _ _ rfl) rfl rfl (by conv => lhs; whnf)) rfl ?_
          refine AOps.s0 (Cert.loadV (Try.tab_ok _ _ rfl) rfl rfl rfl) rfl ?_
          refine AOps.s0 (Cert.lenA (Try.tab_ok _ _ rfl) rfl rfl rfl) rfl ?_
          refine AOps.s0 (Cert.binI rfl rfl rfl) rfl ?_
          refine AOps.s0 (Cert.assign (by conv => lhs; whnf)) rfl ?_
          refine AOps.nil ?_
          refine hK9 _ ?_
          clear hK9 K9
          refine AWp.ret ?_
          repeat (first | refine xBlock_ret ?_ | refine xThen_ret ?_)
          refine retQ.ret rfl ⟨?_, rfl⟩
          unfold emptyB
          simp_all
          try rfl
        · first
          | (cases hc3; done)
          | skip
          refine AWp.seqK fun K10 hK10 => ?_
          refine AWp.region ?_
          refine AOps.s0 (Cert.binI rfl rfl rfl) rfl ?_
          refine AOps.s0 (Cert.assign (by conv => lhs; whnf)) rfl ?_
          refine AOps.nil ?_
          refine hK10 _ ?_
          clear hK10 K10
          refine AWp.cond rfl (fun hc4 => ?_) (fun hc4 => ?_)
          · first
            | (cases hc4; done)
            | skip
            refine AWp.seqK fun K11 hK11 => ?_
            refine AWp.region ?_
            refine AOps.s0 (Cert.fieldV (Try.tab_ok _ _ rfl) rfl rfl (Try.tab_ok _ _ rfl) rfl rfl (by conv => lhs; whnf)) rfl ?_
            refine AOps.s0 (Cert.loadV (Try.tab_ok _ _ rfl) rfl rfl rfl) rfl ?_
            refine AOps.s0 (Cert.lenA (Try.tab_ok _ _ rfl) rfl rfl rfl) rfl ?_
            refine AOps.s0 (Cert.binI rfl rfl rfl) rfl ?_
            refine AOps.s0 (Cert.assign (by conv => lhs; whnf)) rfl ?_
            refine AOps.nil ?_
            refine hK11 _ ?_
            clear hK11 K11
            refine AWp.ret ?_
            repeat (first | refine xBlock_ret ?_ | refine xThen_ret ?_)
            refine retQ.ret rfl ⟨?_, rfl⟩
            unfold emptyB
            simp_all
            try rfl
          · first
            | (cases hc4; done)
            | skip
            refine AWp.skip ?_
            refine hK2 _ ?_
            clear hK2 K2
            refine AWp.seqK fun K12 hK12 => ?_
            refine AWp.region ?_
            refine AOps.s0 (Cert.assign (by conv => lhs; whnf)) rfl ?_
            refine AOps.nil ?_
            refine hK12 _ ?_
            clear hK12 K12
            refine AWp.ret ?_
            repeat (first | refine xBlock_ret ?_ | refine xThen_ret ?_)
            refine retQ.ret rfl ⟨?_, rfl⟩
            unfold emptyB
            simp_all
            try rfl
      · first
        | (cases hc2; done)
        | skip
        refine AWp.region ?_
        refine AOps.s0 (Cert.binI rfl rfl rfl) rfl ?_
        refine AOps.s0 (Cert.assign (by conv => lhs; whnf)) rfl ?_
        refine AOps.nil ?_
        refine hK7 _ ?_
        clear hK7 K7
        refine AWp.cond rfl (fun hc3 => ?_) (fun hc3 => ?_)
        · first
          | (cases hc3; done)
          | skip
          refine AWp.seqK fun K13 hK13 => ?_
          refine AWp.region ?_
          refine AOps.s0 (Cert.fieldV (Try.tab_ok _ _ rfl) rfl rfl (Try.tab_ok _ _ rfl) rfl rfl (by conv => lhs; whnf)) rfl ?_
          refine AOps.s0 (Cert.loadV (Try.tab_ok _ _ rfl) rfl rfl rfl) rfl ?_
          refine AOps.s0 (Cert.lenA (Try.tab_ok _ _ rfl) rfl rfl rfl) rfl ?_
          refine AOps.s0 (Cert.binI rfl rfl rfl) rfl ?_
          refine AOps.s0 (Cert.assign (by conv => lhs; whnf)) rfl ?_
          refine AOps.nil ?_
          refine hK13 _ ?_
          clear hK13 K13
          refine AWp.ret ?_
          repeat (first | refine xBlock_ret ?_ | refine xThen_ret ?_)
          refine retQ.ret rfl ⟨?_, rfl⟩
          unfold emptyB
          simp_all
          try rfl
        · first
          | (cases hc3; done)
          | skip
          refine AWp.seqK fun K14 hK14 => ?_
          refine AWp.region ?_
          refine AOps.s0 (Cert.binI rfl rfl rfl) rfl ?_
          refine AOps.s0 (Cert.assign (by conv => lhs; whnf)) rfl ?_
          refine AOps.nil ?_
          refine hK14 _ ?_
          clear hK14 K14
          refine AWp.cond rfl (fun hc4 => ?_) (fun hc4 => ?_)
          · first
            | (cases hc4; done)
            | skip
            refine AWp.seqK fun K15 hK15 => ?_
            refine AWp.region ?_
            refine AOps.s0 (Cert.fieldV (Try.tab_ok _ _ rfl) rfl rfl (Try.tab_ok _ _ rfl) rfl rfl (by conv => lhs; whnf)) rfl ?_
            refine AOps.s0 (Cert.loadV (Try.tab_ok _ _ rfl) rfl rfl rfl) rfl ?_
            refine AOps.s0 (Cert.lenA (Try.tab_ok _ _ rfl) rfl rfl rfl) rfl ?_
            refine AOps.s0 (Cert.binI rfl rfl rfl) rfl ?_
            refine AOps.s0 (Cert.assign (by conv => lhs; whnf)) rfl ?_
            refine AOps.nil ?_
            refine hK15 _ ?_
            clear hK15 K15
            refine AWp.ret ?_
            repeat (first | refine xBlock_ret ?_ | refine xThen_ret ?_)
            refine retQ.ret rfl ⟨?_, rfl⟩
            unfold emptyB
            simp_all
            try rfl
          · first
            | (cases hc4; done)
            | skip
            refine AWp.skip ?_
            refine hK2 _ ?_
            clear hK2 K2
            refine AWp.seqK fun K16 hK16 => ?_
            refine AWp.region ?_
            refine AOps.s0 (Cert.assign (by conv => lhs; whnf)) rfl ?_
            refine AOps.nil ?_
            refine hK16 _ ?_
            clear hK16 K16
            refine AWp.ret ?_
            repeat (first | refine xBlock_ret ?_ | refine xThen_ret ?_)
            refine retQ.ret rfl ⟨?_, rfl⟩
            unfold emptyB
            simp_all
            try rfl
  · first
    | (cases hc0; done)
    | skip
    refine AWp.region ?_
    refine AOps.s0 (Cert.binI rfl rfl rfl) rfl ?_
    refine AOps.s0 (Cert.assign (by conv => lhs; whnf)) rfl ?_
    refine AOps.nil ?_
    refine hK4 _ ?_
    clear hK4 K4
    refine AWp.cond rfl (fun hc1 => ?_) (fun hc1 => ?_)
    · first
      | (cases hc1; done)
      | skip
      refine AWp.seqK fun K17 hK17 => ?_
      refine AWp.region ?_
      refine AOps.s0 (Cert.fieldV (Try.tab_ok _ _ rfl) rfl rfl (Try.tab_ok _ _ rfl) rfl rfl (by conv => lhs; whnf)) rfl ?_
      refine AOps.s0 (Cert.loadV (Try.tab_ok _ _ rfl) rfl rfl rfl) rfl ?_
      refine AOps.s0 (Cert.lenA (Try.tab_ok _ _ rfl) rfl rfl rfl) rfl ?_
      refine AOps.s0 (Cert.binI rfl rfl rfl) rfl ?_
      refine AOps.s0 (Cert.assign (by conv => lhs; whnf)) rfl ?_
      refine AOps.nil ?_
      refine hK17 _ ?_
      clear hK17 K17
      refine AWp.ret ?_
      repeat (first | refine xBlock_ret ?_ | refine xThen_ret ?_)
      refine retQ.ret rfl ⟨?_, rfl⟩
      unfold emptyB
      simp_all
      try rfl
    · first
      | (cases hc1; done)
      | skip
      refine AWp.seqK fun K18 hK18 => ?_
      refine AWp.seqK fun K19 hK19 => ?_
      refine AWp.region ?_
      refine AOps.s0 (Cert.binI rfl rfl rfl) rfl ?_
      refine AOps.s0 (Cert.assign (by conv => lhs; whnf)) rfl ?_
      refine AOps.nil ?_
      refine hK19 _ ?_
      clear hK19 K19
      refine AWp.cond rfl (fun hc2 => ?_) (fun hc2 => ?_)
      · first
        | (cases hc2; done)
        | skip
        refine AWp.skip ?_
        refine hK18 _ ?_
        clear hK18 K18
        refine AWp.cond rfl (fun hc3 => ?_) (fun hc3 => ?_)
        · first
          | (cases hc3; done)
          | skip
          refine AWp.seqK fun K20 hK20 => ?_
          refine AWp.region ?_
          refine AOps.s0 (Cert.fieldV (Try.tab_ok _ _ rfl) rfl rfl (Try.tab_ok _ _ rfl) rfl rfl (by conv => lhs; whnf)) rfl ?_
          refine AOps.s0 (Cert.loadV (Try.tab_ok _ _ rfl) rfl rfl rfl) rfl ?_
          refine AOps.s0 (Cert.lenA (Try.tab_ok _ _ rfl) rfl rfl rfl) rfl ?_
          refine AOps.s0 (Cert.binI rfl rfl rfl) rfl ?_
          refine AOps.s0 (Cert.assign (by conv => lhs; whnf)) rfl ?_
          refine AOps.nil ?_
          refine hK20 _ ?_
          clear hK20 K20
          refine AWp.ret ?_
          repeat (first | refine xBlock_ret ?_ | refine xThen_ret ?_)
          refine retQ.ret rfl ⟨?_, rfl⟩
          unfold emptyB
          simp_all
          try rfl
        · first
          | (cases hc3; done)
          | skip
          refine AWp.seqK fun K21 hK21 => ?_
          refine AWp.region ?_
          refine AOps.s0 (Cert.binI rfl rfl rfl) rfl ?_
          refine AOps.s0 (Cert.assign (by conv => lhs; whnf)) rfl ?_
          refine AOps.nil ?_
          refine hK21 _ ?_
          clear hK21 K21
          refine AWp.cond rfl (fun hc4 => ?_) (fun hc4 => ?_)
          · first
            | (cases hc4; done)
            | skip
            refine AWp.seqK fun K22 hK22 => ?_
            refine AWp.region ?_
            refine AOps.s0 (Cert.fieldV (Try.tab_ok _ _ rfl) rfl rfl (Try.tab_ok _ _ rfl) rfl rfl (by conv => lhs; whnf)) rfl ?_
            refine AOps.s0 (Cert.loadV (Try.tab_ok _ _ rfl) rfl rfl rfl) rfl ?_
            refine AOps.s0 (Cert.lenA (Try.tab_ok _ _ rfl) rfl rfl rfl) rfl ?_
            refine AOps.s0 (Cert.binI rfl rfl rfl) rfl ?_
            refine AOps.s0 (Cert.assign (by conv => lhs; whnf)) rfl ?_
            refine AOps.nil ?_
            refine hK22 _ ?_
            clear hK22 K22
            refine AWp.ret ?_
            repeat (first | refine xBlock_ret ?_ | refine xThen_ret ?_)
            refine retQ.ret rfl ⟨?_, rfl⟩
            unfold emptyB
            simp_all
            try rfl
          · first
            | (cases hc4; done)
            | skip
            refine AWp.skip ?_
            refine hK2 _ ?_
            clear hK2 K2
            refine AWp.seqK fun K23 hK23 => ?_
            refine AWp.region ?_
            refine AOps.s0 (Cert.assign (by conv => lhs; whnf)) rfl ?_
            refine AOps.nil ?_
            refine hK23 _ ?_
            clear hK23 K23
            refine AWp.ret ?_
            repeat (first | refine xBlock_ret ?_ | refine xThen_ret ?_)
            refine retQ.ret rfl ⟨?_, rfl⟩
            unfold emptyB
            simp_all
            try rfl
      · first
        | (cases hc2; done)
        | skip
        refine AWp.region ?_
        refine AOps.s0 (Cert.binI rfl rfl rfl) rfl ?_
        refine AOps.s0 (Cert.assign (by conv => lhs; whnf)) rfl ?_
        refine AOps.nil ?_
        refine hK18 _ ?_
        clear hK18 K18
        refine AWp.cond rfl (fun hc3 => ?_) (fun hc3 => ?_)
        · first
          | (cases hc3; done)
          | skip
          refine AWp.seqK fun K24 hK24 => ?_
          refine AWp.region ?_
          refine AOps.s0 (Cert.fieldV (Try.tab_ok _ _ rfl) rfl rfl (Try.tab_ok _ _ rfl) rfl rfl (by conv => lhs; whnf)) rfl ?_
          refine AOps.s0 (Cert.loadV (Try.tab_ok _ _ rfl) rfl rfl rfl) rfl ?_
          refine AOps.s0 (Cert.lenA (Try.tab_ok _ _ rfl) rfl rfl rfl) rfl ?_
          refine AOps.s0 (Cert.binI rfl rfl rfl) rfl ?_
          refine AOps.s0 (Cert.assign (by conv => lhs; whnf)) rfl ?_
          refine AOps.nil ?_
          refine hK24 _ ?_
          clear hK24 K24
          refine AWp.ret ?_
          repeat (first | refine xBlock_ret ?_ | refine xThen_ret ?_)
          refine retQ.ret rfl ⟨?_, rfl⟩
          unfold emptyB
          simp_all
          try rfl
        · first
          | (cases hc3; done)
          | skip
          refine AWp.seqK fun K25 hK25 => ?_
          refine AWp.region ?_
          refine AOps.s0 (Cert.binI rfl rfl rfl) rfl ?_
          refine AOps.s0 (Cert.assign (by conv => lhs; whnf)) rfl ?_
          refine AOps.nil ?_
          refine hK25 _ ?_
          clear hK25 K25
          refine AWp.cond rfl (fun hc4 => ?_) (fun hc4 => ?_)
          · first
            | (cases hc4; done)
            | skip
            refine AWp.seqK fun K26 hK26 => ?_
            refine AWp.region ?_
            refine AOps.s0 (Cert.fieldV (Try.tab_ok _ _ rfl) rfl rfl (Try.tab_ok _ _ rfl) rfl rfl (by conv => lhs; whnf)) rfl ?_
            refine AOps.s0 (Cert.loadV (Try.tab_ok _ _ rfl) rfl rfl rfl) rfl ?_
            refine AOps.s0 (Cert.lenA (Try.tab_ok _ _ rfl) rfl rfl rfl) rfl ?_
            refine AOps.s0 (Cert.binI rfl rfl rfl) rfl ?_
            refine AOps.s0 (Cert.assign (by conv => lhs; whnf)) rfl ?_
            refine AOps.nil ?_
            refine hK26 _ ?_
            clear hK26 K26
            refine AWp.ret ?_
            repeat (first | refine xBlock_ret ?_ | refine xThen_ret ?_)
            refine retQ.ret rfl ⟨?_, rfl⟩
            unfold emptyB
            simp_all
            try rfl
          · first
            | (cases hc4; done)
            | skip
            refine AWp.skip ?_
            refine hK2 _ ?_
            clear hK2 K2
            refine AWp.seqK fun K27 hK27 => ?_
            refine AWp.region ?_
            refine AOps.s0 (Cert.assign (by conv => lhs; whnf)) rfl ?_
            refine AOps.nil ?_
            refine hK27 _ ?_
            clear hK27 K27
            refine AWp.ret ?_
            repeat (first | refine xBlock_ret ?_ | refine xThen_ret ?_)
            refine retQ.ret rfl ⟨?_, rfl⟩
            unfold emptyB
            simp_all
            try rfl
set_option maxRecDepth 100000 in
theorem ref_direct (t : Ref) (H : Heap) : ACalls Try.prog 57 [.agg t.c] H fun r h' => r = .a (.d (.bool (direct t))) ∧ h' = H := by
  refine ACalls.of_wp (fn := Try.f57) (c := _) Try.tab_ok (fun _ _ => Try.call57 _ _) Try.func57 rfl (n := 14) rfl (rs := [.tmp 2]) rfl rfl ?_
  refine AWp.seqK fun K1 hK1 => ?_
  refine AWp.region ?_
  refine AOps.s0 (Cert.boxV rfl) rfl ?_
  refine AOps.s0 (Cert.assign (by conv => lhs; whnf)) rfl ?_
  refine AOps.nil ?_
  refine hK1 _ ?_
  clear hK1 K1
  refine AWp.seqK fun K2 hK2 => ?_
  refine AWp.region ?_
  refine AOps.s0 (Cert.fieldV (Try.tab_ok _ _ rfl) rfl rfl (Try.tab_ok _ _ rfl) rfl rfl (by conv => lhs; whnf)) rfl ?_
  refine AOps.s0 (Cert.loadV (Try.tab_ok _ _ rfl) rfl rfl rfl) rfl ?_
  refine AOps.s0 (Cert.lenA (Try.tab_ok _ _ rfl) rfl rfl rfl) rfl ?_
  refine AOps.s0 (Cert.binI rfl rfl rfl) rfl ?_
  refine AOps.s0 (Cert.move (by conv => lhs; whnf)) rfl ?_
  refine AOps.gC rfl rfl (fun hC => Cert.fieldV (Try.tab_ok _ _ rfl) rfl rfl (Try.tab_ok _ _ rfl) rfl rfl (by conv => lhs; whnf)) rfl ?_
  refine AOps.gC rfl rfl (fun hC => Cert.ungd (k := 8) rfl (by first | exact hC | exact andL hC | exact andL (andL hC) | exact andL (andL (andL hC)) | exact andR hC | simp_all) (Cert.loadV (Try.tab_ok _ _ rfl) rfl rfl rfl)) rfl ?_
  refine AOps.gC rfl rfl (fun hC => Cert.ungd (k := 9) rfl (by first | exact hC | exact andL hC | exact andL (andL hC) | exact andL (andL (andL hC)) | exact andR hC | simp_all) (Cert.indexA (Try.tab_ok _ _ rfl) rfl (Try.tab_ok _ _ rfl) rfl rfl rfl (by omega) (row := intC (t.wraps.l.headD 0)) (by have := of_decide_eq_true hC; simp at this; match h : t.wraps.l, this with | [x], _ => rfl))) rfl ?_
  refine AOps.gC rfl rfl (fun hC => Cert.ungd (k := 10) rfl (by first | exact hC | exact andL hC | exact andL (andL hC) | exact andL (andL (andL hC)) | exact andR hC | simp_all) (Cert.loadV (Try.tab_ok _ _ rfl) rfl rfl rfl)) rfl ?_
  refine AOps.gC rfl rfl (fun hC => Cert.ungd (k := 11) rfl (by first | exact hC | exact andL hC | exact andL (andL hC) | exact andL (andL (andL hC)) | exact andR hC | simp_all) (Cert.binI rfl rfl rfl)) rfl ?_
  refine AOps.s0 (Cert.pickAnd rfl rfl (fun h => by first | exact h | exact notT h | exact andI hC h | exact andI hC (notT h) | simp_all) rfl) rfl ?_
  refine AOps.s0 (Cert.assign (by conv => lhs; whnf)) rfl ?_
  refine AOps.nil ?_
  refine hK2 _ ?_
  clear hK2 K2
  refine AWp.ret ?_
  repeat (first | refine xBlock_ret ?_ | refine xThen_ret ?_)
  refine retQ.ret rfl ⟨?_, rfl⟩
  unfold direct
  simp
  try rfl
set_option maxRecDepth 100000 in
theorem ref_has (tok : Option Nat) (nl : Bool) (l : List (List UInt8)) (hlen : l.length ≤ 140737488355328) (s : List UInt8) (H : Heap) : ACalls Try.prog 53 [.d (.slice 1 tok nl (l.map fun s => [.str s])), .d (.str s)] H fun r h' => r = .a (.d (.bool (l.contains s))) ∧ h' = H := by
  refine ACalls.of_wp (fn := Try.f53) (c := _) Try.tab_ok (fun _ _ => Try.call53 _ _) Try.func53 rfl (n := 18) rfl (rs := [.tmp 4]) rfl rfl ?_
  refine AWp.seqK fun K1 hK1 => ?_
  refine AWp.region ?_
  refine AOps.s0 (Cert.assign (by conv => lhs; whnf)) rfl ?_
  refine AOps.nil ?_
  refine hK1 _ ?_
  clear hK1 K1
  refine AWp.seqK fun K2 hK2 => ?_
  refine AWp.seqK fun K3 hK3 => ?_
  refine AWp.region ?_
  refine AOps.s0 (Cert.assign (by conv => lhs; whnf)) rfl ?_
  refine AOps.nil ?_
  refine hK3 _ ?_
  clear hK3 K3
  refine AWp.block ?_
  refine AWp.loopC (KeepsT.cons (k := 0) (by conv => lhs; whnf) (KeepsT.cons (k := 1) (by conv => lhs; whnf) KeepsT.nil)) (fun i : Nat => [(5, .a (.d (.int .i64 i)))])
    (fun i => l.length - i) (fun i => i ≤ l.length ∧ (l.drop i).contains s = l.contains s) 0 ⟨Nat.zero_le _, rfl⟩ (Weak.to (by repeat (first | exact Keeps.nil | refine Keeps.c rfl rfl ?_ | refine Keeps.c (by (first | (first | rfl | ((conv => lhs; whnf); first | (simp [cellsA, faultsT, faultsD, namesD, Fault.mk_c, Nat.add_assoc, empty_append, Bool.and_assoc]; done) | (simp [cellsA, faultsT, faultsD, namesD, Nat.add_assoc, empty_append, Bool.and_assoc]; repeat (first | rfl | constructor)))) | rfl | (simp only [get_same, ev]; done) | (simp [*, cellsA]; done) | (show V.a (A.d (D.slice _ _ _ _)) = V.a (A.d (D.slice _ _ _ _)); simp [*, cellsA]; done))) rfl ?_)) (by repeat (first | exact Pfx.nil | apply Pfx.cons)) (by first | rfl | (first | rfl | (simp only [Heap.set_set, List.length_append, List.length_nil, List.length_cons, List.length_map, List.length_singleton, Nat.zero_add]; done) | (simp [Heap.set_set, Nat.add_assoc]; done)) | (((funext n; simp only [Heap.set]; (repeat' split) <;> simp_all)) <;> first | rfl | exact ⟨rfl, rfl⟩))) ?_
  intro i ⟨hi, hf⟩ K4 hK4
  refine AWp.seqK fun K5 hK5 => ?_
  refine AWp.seqK fun K6 hK6 => ?_
  refine AWp.region ?_
  refine AOps.s0 (Cert.move (by conv => lhs; whnf)) rfl ?_
  refine AOps.s0 (Cert.move (by conv => lhs; whnf)) rfl ?_
  refine AOps.s0 (Cert.lenA (Try.tab_ok _ _ rfl) rfl rfl rfl) rfl ?_
  refine AOps.s0 (Cert.binI rfl rfl rfl) rfl ?_
  refine AOps.nil ?_
  refine hK6 _ ?_
  clear hK6 K6
  refine AWp.cond rfl (fun hc0 => ?_) (fun hc0 => ?_)
  · first
    | (cases hc0; done)
    | skip
    refine AWp.skip ?_
    refine hK5 _ ?_
    clear hK5 K5
    refine AWp.seqK fun K7 hK7 => ?_
    refine AWp.block ?_
    refine AWp.seqK fun K8 hK8 => ?_
    refine AWp.region ?_
    refine AOps.s0 (Cert.move (by conv => lhs; whnf)) rfl ?_
    refine AOps.s0 (Cert.move (by conv => lhs; whnf)) rfl ?_
    refine AOps.s0 (Cert.indexA (Try.tab_ok _ _ rfl) rfl (Try.tab_ok _ _ rfl) rfl rfl rfl (by omega) (map_get (by assumption))) rfl ?_
    refine AOps.s0 (Cert.loadV (Try.tab_ok _ _ rfl) rfl rfl rfl) rfl ?_
    refine AOps.s0 (Cert.move (by conv => lhs; whnf)) rfl ?_
    refine AOps.s0 (Cert.binS rfl rfl rfl) rfl ?_
    refine AOps.nil ?_
    refine hK8 _ ?_
    clear hK8 K8
    refine AWp.cond rfl (fun hc1 => ?_) (fun hc1 => ?_)
    · first
      | (cases hc1; done)
      | skip
      refine AWp.seqK fun K9 hK9 => ?_
      refine AWp.region ?_
      refine AOps.s0 (Cert.assign (by conv => lhs; whnf)) rfl ?_
      refine AOps.nil ?_
      refine hK9 _ ?_
      clear hK9 K9
      refine AWp.ret ?_
      repeat (first | refine xBlock_ret ?_ | refine xThen_ret ?_)
      refine retQ.ret rfl ⟨?_, rfl⟩
      first
      | (have hi' := map_lt hc0
         have h1 : (l[i] == s) = true := hc1
         have h2 : l.contains s = true := by rw [← hf, List.drop_eq_getElem_cons hi', List.contains_cons]; simp at h1; subst h1; simp
         rw [h2]; rfl)
      | (rw [← hf, List.drop_of_length_le (map_ge hc0)]; rfl)
    · first
      | (cases hc1; done)
      | skip
      refine AWp.skip ?_
      refine hK7 _ ?_
      clear hK7 K7
      refine AWp.region ?_
      refine AOps.s0 (Cert.move (by conv => lhs; whnf)) rfl ?_
      refine AOps.s0 (Cert.addI rfl rfl (by first | omega | (dsimp only; omega)) (by first | omega | (dsimp only; omega))) rfl ?_
      refine AOps.s0 (Cert.assign (by conv => lhs; whnf)) rfl ?_
      refine AOps.nil ?_
      have hi' := map_lt hc0
      refine hK4 _ (i + 1) (Weak.to (by repeat (first | exact Keeps.nil | refine Keeps.c rfl rfl ?_ | refine Keeps.c (by (first | (first | rfl | ((conv => lhs; whnf); first | (simp [cellsA, faultsT, faultsD, namesD, Fault.mk_c, Nat.add_assoc, empty_append, Bool.and_assoc]; done) | (simp [cellsA, faultsT, faultsD, namesD, Nat.add_assoc, empty_append, Bool.and_assoc]; repeat (first | rfl | constructor)))) | rfl | (simp only [get_same, ev]; done) | (simp [*, cellsA]; done) | (show V.a (A.d (D.slice _ _ _ _)) = V.a (A.d (D.slice _ _ _ _)); simp [*, cellsA]; done))) rfl ?_)) (by repeat (first | exact Pfx.nil | apply Pfx.cons)) (by first | rfl | (first | rfl | (simp only [Heap.set_set, List.length_append, List.length_nil, List.length_cons, List.length_map, List.length_singleton, Nat.zero_add]; done) | (simp [Heap.set_set, Nat.add_assoc]; done)) | (((funext n; simp only [Heap.set]; (repeat' split) <;> simp_all)) <;> first | rfl | exact ⟨rfl, rfl⟩))) ⟨hi', ?_⟩ (by omega)
      rw [← hf, List.drop_eq_getElem_cons hi', List.contains_cons]
      have h1 : (l[i] == s) = false := hc1
      have h2 : (s == l[i]) = false := by rw [Bool.eq_false_iff] at h1 ⊢; intro h; apply h1; simp at h ⊢; exact h.symm
      rw [h2, Bool.false_or]
  · first
    | (cases hc0; done)
    | skip
    refine AWp.exit ?_
    refine hK2 _ ?_
    clear hK5 K5 hK4 K4 hK2 K2
    refine AWp.seqK fun K10 hK10 => ?_
    refine AWp.region ?_
    refine AOps.s0 (Cert.assign (by conv => lhs; whnf)) rfl ?_
    refine AOps.nil ?_
    refine hK10 _ ?_
    clear hK10 K10
    refine AWp.ret ?_
    repeat (first | refine xBlock_ret ?_ | refine xThen_ret ?_)
    refine retQ.ret rfl ⟨?_, rfl⟩
    first
    | (have hi' := map_lt hc0
       have h1 : (l[i] == s) = true := hc1
       have h2 : l.contains s = true := by rw [← hf, List.drop_eq_getElem_cons hi', List.contains_cons]; simp at h1; subst h1; simp
       rw [h2]; rfl)
    | (rw [← hf, List.drop_of_length_le (map_ge hc0)]; rfl)
end Go.Proofs


namespace Go.Proofs
open Go Go.Ab Go.Ab.Sch
set_option maxRecDepth 100000 in
theorem ref_next (d : Doc) (t : Def) (own : List UInt8) (l : List (List UInt8)) (tk : Nat) (hB : l.length + t.inputs.l.length ≤ 4398046511104) (H : Heap) (htk : H tk = some (.tok 1 l.length)) :
    ACalls Try.prog 52 [.agg d.c, .agg t.c, .d (.str own), .d (namesD (some tk) l)] H fun r h' => r = .a (.d (namesD (some tk) (next d t.inputs.l own l))) ∧ h' = H.set tk (some (.tok 1 (next d t.inputs.l own l).length)) := by
  refine ACalls.of_wp (fn := Try.f52) (c := _) Try.tab_ok (fun _ _ => Try.call52 _ _) Try.func52 rfl (n := 62) rfl (rs := [.tmp 8]) rfl rfl ?_
  refine AWp.seqK fun K1 hK1 => ?_
  refine AWp.region ?_
  refine AOps.s0 (Cert.boxV rfl) rfl ?_
  refine AOps.s0 (Cert.boxV rfl) rfl ?_
  refine AOps.s0 (Cert.assign (by conv => lhs; whnf)) rfl ?_
  refine AOps.nil ?_
  refine hK1 _ ?_
  clear hK1 K1
  refine AWp.seqK fun K2 hK2 => ?_
  refine AWp.seqK fun K3 hK3 => ?_
  refine AWp.region ?_
  refine AOps.s0 (Cert.assign (by conv => lhs; whnf)) rfl ?_
  refine AOps.nil ?_
  refine hK3 _ ?_
  clear hK3 K3
  refine AWp.block ?_
  refine AWp.loopH (KeepsT.cons (k := 2) (by conv => lhs; whnf) (KeepsT.cons (k := 4) (by conv => lhs; whnf) (KeepsT.cons (k := 5) (by conv => lhs; whnf) KeepsT.nil))) (fun (x : Nat × List (List UInt8)) => [(9, .a (.d (.int .i64 x.1))), (3, .a (.d (namesD (some tk) x.2)))]) (fun x => H.set tk (some (.tok 1 x.2.length)))
    (fun x => t.inputs.l.length - x.1) (fun x => x.1 ≤ t.inputs.l.length ∧ x.2 = next d (t.inputs.l.take x.1) own l ∧ x.2.length ≤ l.length + x.1) (0, l) ⟨Nat.zero_le _, rfl, Nat.le_refl _⟩
    (Weak.to (by repeat (first | exact Keeps.nil | refine Keeps.c rfl rfl ?_)) (by repeat (first | exact Pfx.nil | apply Pfx.cons)) (Heap.set_self _ _ _ htk).symm) ?_
  rintro ⟨i, L⟩ ⟨hi, hL, hL2⟩ K4 hK4
  dsimp only at hi hL hL2
  refine AWp.seqK fun K5 hK5 => ?_
  refine AWp.seqK fun K6 hK6 => ?_
  refine AWp.region ?_
  refine AOps.s0 (Cert.move (by conv => lhs; whnf)) rfl ?_
  refine AOps.s0 (Cert.fieldV (Try.tab_ok _ _ rfl) rfl rfl (Try.tab_ok _ _ rfl) rfl rfl (by conv => lhs; whnf)) rfl ?_
  refine AOps.s0 (Cert.loadV (Try.tab_ok _ _ rfl) rfl rfl rfl) rfl ?_
  refine AOps.s0 (Cert.lenA (Try.tab_ok _ _ rfl) rfl rfl rfl) rfl ?_
  refine AOps.s0 (Cert.binI rfl rfl rfl) rfl ?_
  refine AOps.nil ?_
  refine hK6 _ ?_
  clear hK6 K6
  refine AWp.cond rfl (fun hc0 => ?_) (fun hc0 => ?_)
  · first
    | (cases hc0; done)
    | skip
    refine AWp.skip ?_
    refine hK5 _ ?_
    clear hK5 K5
    refine AWp.seqK fun K7 hK7 => ?_
    refine AWp.block ?_
    refine AWp.seqK fun K8 hK8 => ?_
    refine AWp.region ?_
    have hi3 := map_lt hc0
    have hL4 : L.length ≤ 140737488355328 := by omega
    refine AOps.s0 (Cert.fieldV (Try.tab_ok _ _ rfl) rfl rfl (Try.tab_ok _ _ rfl) rfl rfl (by conv => lhs; whnf)) rfl ?_
    refine AOps.s0 (Cert.loadV (Try.tab_ok _ _ rfl) rfl rfl rfl) rfl ?_
    refine AOps.s0 (Cert.move (by conv => lhs; whnf)) rfl ?_
    refine AOps.s0 (Cert.indexA (Try.tab_ok _ _ rfl) rfl (Try.tab_ok _ _ rfl) rfl rfl rfl (by omega) (map_get (by assumption))) rfl ?_
    refine AOps.s0 (Cert.fieldV (Try.tab_ok _ _ rfl) rfl rfl (Try.tab_ok _ _ rfl) rfl rfl (by conv => lhs; whnf)) rfl ?_
    refine AOps.s0 (Cert.loadV (Try.tab_ok _ _ rfl) rfl rfl rfl) rfl ?_
    refine AOps.sL (Cert.allocL (Try.tab_ok _ _ rfl) rfl (by repeat (first | exact Snoc.nil | apply Snoc.cons))) rfl ?_
    refine AOps.sLn (Cert.storeLF (Try.tab_ok _ _ rfl) rfl rfl rfl rfl rfl (by repeat (first | exact SetAt.zero | apply SetAt.succ))) ?_
    refine AOps.nil ?_
    refine hK8 _ ?_
    clear hK8 K8
    refine AWp.freeze 10 _ rfl (by repeat (first | exact Snoc.nil | apply Snoc.cons)) (Keeps.c (k := 2) (by conv => lhs; whnf) (by rfl) (Keeps.c (k := 3) (by conv => lhs; whnf) (by rfl) (Keeps.c (k := 4) (by conv => lhs; whnf) (by rfl) (Keeps.c (k := 5) (by conv => lhs; whnf) (by rfl) (Keeps.c (k := 9) (by conv => lhs; whnf) (by rfl) Keeps.nil))))) ?_
    refine AWp.seqK fun K9 hK9 => ?_
    refine AWp.region ?_
    refine AOps.s0 (Cert.loadV (Try.tab_ok _ _ rfl) rfl rfl rfl) rfl ?_
    refine AOps.s0 (Cert.fieldV (Try.tab_ok _ _ rfl) rfl rfl (Try.tab_ok _ _ rfl) rfl rfl (by conv => lhs; whnf)) rfl ?_
    refine AOps.s0 (Cert.loadV (Try.tab_ok _ _ rfl) rfl rfl rfl) rfl ?_
    refine AOps.s0 (Cert.callP rfl rfl (ref_Find d _)) rfl ?_
    refine AOps.s0 (Cert.move (by conv => lhs; whnf)) rfl ?_
    refine AOps.s0 (Cert.extract rfl rfl) rfl ?_
    refine AOps.s0 (Cert.extract rfl rfl) rfl ?_
    refine AOps.sL (Cert.allocL (Try.tab_ok _ _ rfl) rfl (by repeat (first | exact Snoc.nil | apply Snoc.cons))) rfl ?_
    refine AOps.sLn (Cert.storeLF (Try.tab_ok _ _ rfl) rfl rfl rfl rfl rfl (by repeat (first | exact SetAt.zero | apply SetAt.succ))) ?_
    refine AOps.s0 (Cert.assign (by conv => lhs; whnf)) rfl ?_
    refine AOps.nil ?_
    refine hK9 _ ?_
    clear hK9 K9
    refine AWp.freeze 11 _ rfl (by repeat (first | exact Snoc.nil | apply Snoc.cons)) (Keeps.c (k := 2) (by conv => lhs; whnf) (by rfl) (Keeps.c (k := 3) (by conv => lhs; whnf) (by rfl) (Keeps.c (k := 4) (by conv => lhs; whnf) (by rfl) (Keeps.c (k := 5) (by conv => lhs; whnf) (by rfl) (Keeps.c (k := 9) (by conv => lhs; whnf) (by rfl) (Keeps.c (k := 10) (by conv => lhs; whnf) (by rfl) (Keeps.c (k := 12) (by conv => lhs; whnf) (by rfl) Keeps.nil))))))) ?_
    refine AWp.seqK fun K10 hK10 => ?_
    refine AWp.region ?_
    refine AOps.s0 (Cert.loadV (Try.tab_ok _ _ rfl) rfl rfl rfl) rfl ?_
    refine AOps.s0 (Cert.callP rfl rfl (ref_direct (t.inputs.l[i]'hi3).type)) rfl ?_
    refine AOps.s0 (Cert.move (by conv => lhs; whnf)) rfl ?_
    refine AOps.gC rfl rfl (fun hC => Cert.fieldV (Try.tab_ok _ _ rfl) rfl rfl (Try.tab_ok _ _ rfl) rfl rfl (by conv => lhs; whnf)) rfl ?_
    refine AOps.gC rfl rfl (fun hC => Cert.ungd (k := 36) rfl (by first | exact hC | exact andL hC | exact andL (andL hC) | exact andL (andL (andL hC)) | exact andR hC | simp_all) (Cert.loadV (Try.tab_ok _ _ rfl) rfl rfl rfl)) rfl ?_
    refine AOps.gC rfl rfl (fun hC => Cert.move (by conv => lhs; whnf)) rfl ?_
    refine AOps.gC rfl rfl (fun hC => Cert.ungd (k := 37) rfl (by first | exact hC | exact andL hC | exact andL (andL hC) | exact andL (andL (andL hC)) | exact andR hC | simp_all) (Cert.ungd (k := 38) rfl (by first | exact hC | exact andL hC | exact andL (andL hC) | exact andL (andL (andL hC)) | exact andR hC | simp_all) (Cert.binS rfl rfl rfl))) rfl ?_
    refine AOps.gC rfl rfl (fun hC => Cert.ungd (k := 39) rfl (by first | exact hC | exact andL hC | exact andL (andL hC) | exact andL (andL (andL hC)) | exact andR hC | simp_all) (Cert.move (by conv => lhs; whnf))) rfl ?_
    refine AOps.gC rfl rfl (fun hC => Cert.move (by conv => lhs; whnf)) rfl ?_
    refine AOps.gC rfl rfl (fun hC => Cert.ungd (k := 41) rfl (by first | exact hC | exact andL hC | exact andL (andL hC) | exact andL (andL (andL hC)) | exact andR hC | simp_all) (Cert.move (by conv => lhs; whnf))) rfl ?_
    refine AOps.gC rfl rfl (fun hC => Cert.fieldV (Try.tab_ok _ _ rfl) rfl rfl (Try.tab_ok _ _ rfl) rfl rfl (by conv => lhs; whnf)) rfl ?_
    refine AOps.gC rfl rfl (fun hC => Cert.ungd (k := 43) rfl (by first | exact hC | exact andL hC | exact andL (andL hC) | exact andL (andL (andL hC)) | exact andR hC | simp_all) (Cert.loadV (Try.tab_ok _ _ rfl) rfl rfl rfl)) rfl ?_
    refine AOps.gC rfl rfl (fun hC => Cert.ungd (k := 44) rfl (by first | exact hC | exact andL hC | exact andL (andL hC) | exact andL (andL (andL hC)) | exact andR hC | simp_all) (Cert.binI rfl rfl rfl)) rfl ?_
    refine AOps.gC rfl rfl (fun hC => Cert.ungd (k := 42) rfl (by first | exact hC | exact andL hC | exact andL (andL hC) | exact andL (andL (andL hC)) | exact andR hC | simp_all) (Cert.pickAnd rfl rfl (fun h => by first | exact h | exact notT h | exact andI hC h | exact andI hC (notT h) | simp_all) rfl)) rfl ?_
    refine AOps.gC rfl rfl (fun hC => Cert.ungd (k := 40) rfl (by first | exact hC | exact andL hC | exact andL (andL hC) | exact andL (andL (andL hC)) | exact andR hC | simp_all) (Cert.pickOr rfl rfl rfl (fun h => by first | exact h | exact notT h | exact andI hC h | exact andI hC (notT h) | simp_all))) rfl ?_
    refine AOps.s0 (Cert.pickAnd rfl rfl (fun h => by first | exact h | exact notT h | exact andI hC h | exact andI hC (notT h) | simp_all) rfl) rfl ?_
    refine AOps.s0 (Cert.move (by conv => lhs; whnf)) rfl ?_
    refine AOps.gC rfl rfl (fun hC => Cert.move (by conv => lhs; whnf)) rfl ?_
    refine AOps.gC rfl rfl (fun hC => Cert.fieldV (Try.tab_ok _ _ rfl) rfl rfl (Try.tab_ok _ _ rfl) rfl rfl (by conv => lhs; whnf)) rfl ?_
    refine AOps.gC rfl rfl (fun hC => Cert.ungd (k := 51) rfl (by first | exact hC | exact andL hC | exact andL (andL hC) | exact andL (andL (andL hC)) | exact andR hC | simp_all) (Cert.loadV (Try.tab_ok _ _ rfl) rfl rfl rfl)) rfl ?_
    refine AOps.gC rfl rfl (fun hC => Cert.ungd (k := 50) rfl (by first | exact hC | exact andL hC | exact andL (andL hC) | exact andL (andL (andL hC)) | exact andR hC | simp_all) (Cert.ungd (k := 52) rfl (by first | exact hC | exact andL hC | exact andL (andL hC) | exact andL (andL (andL hC)) | exact andR hC | simp_all) (Cert.callP (v := V.a (A.d (D.bool (L.contains (t.inputs.l[i]'hi3).type.name.1)))) rfl rfl (ref_has (some tk) L.isEmpty L hL4 (t.inputs.l[i]'hi3).type.name.1)))) rfl ?_
    refine AOps.gC rfl rfl (fun hC => Cert.ungd (k := 53) rfl (by first | exact hC | exact andL hC | exact andL (andL hC) | exact andL (andL (andL hC)) | exact andR hC | simp_all) (Cert.notB rfl)) rfl ?_
    refine AOps.s0 (Cert.pickAnd rfl rfl (fun h => by first | exact h | exact notT h | exact andI hC h | exact andI hC (notT h) | simp_all) rfl) rfl ?_
    refine AOps.nil ?_
    refine hK10 _ ?_
    clear hK10 K10
    refine AWp.cond rfl (fun hc1 => ?_) (fun hc1 => ?_)
    · first
      | (cases hc1; done)
      | skip
      refine AWp.region ?_
      refine AOps.s0 (Cert.move (by conv => lhs; whnf)) rfl ?_
      refine AOps.s0 (Cert.fieldV (Try.tab_ok _ _ rfl) rfl rfl (Try.tab_ok _ _ rfl) rfl rfl (by conv => lhs; whnf)) rfl ?_
      refine AOps.s0 (Cert.loadV (Try.tab_ok _ _ rfl) rfl rfl rfl) rfl ?_
      refine AOps.s0 (Cert.buildSlice (Try.tab_ok _ _ rfl) rfl (Try.tab_ok _ _ rfl) rfl rfl rfl rfl rfl rfl) rfl ?_
      refine AOps.sH (Cert.append (Try.tab_ok _ _ rfl) rfl (Try.tab_ok _ _ rfl) (Try.tab_ok _ _ rfl) (.inl ⟨_, rfl⟩) rfl rfl (by decide) rfl rfl (by first | exact .inl rfl | exact .inr rfl) (by first | exact .inl rfl | exact .inr rfl) (by (first | assumption | exact Heap.set_same _ _ _ | ((repeat (refine (Heap.set_other _ _ (by first | assumption | (apply Ne.symm; assumption))).trans ?_)); first | assumption | exact Heap.set_same _ _ _) | (simp only [Heap.set_set, Heap.set_same]; done) | (simp [Heap.set, *]; done))) (by first | rfl | (simp; done)) (by (first | assumption | (simp [maxN]; done) | (simp [maxN]; omega) | (simp [maxN, Nat.add_mul] at *; omega))) (by (first | assumption | (simp [maxN]; done) | (simp [maxN]; omega) | (simp [maxN, Nat.add_mul] at *; omega)))) rfl ?_
      refine AOps.s0 (Cert.assign (by conv => lhs; whnf)) rfl ?_
      refine AOps.nil ?_
      refine hK7 _ ?_
      clear hK7 K7
      refine AWp.region ?_
      refine AOps.s0 (Cert.move (by conv => lhs; whnf)) rfl ?_
      refine AOps.s0 (Cert.addI rfl rfl (by first | omega | (dsimp only; omega)) (by first | omega | (dsimp only; omega))) rfl ?_
      refine AOps.s0 (Cert.assign (by conv => lhs; whnf)) rfl ?_
      refine AOps.nil ?_
      have hi' := map_lt hc0
      first
      | (refine hK4 _ (i + 1, L ++ [(t.inputs.l[i]'hi').type.name.1]) (Weak.to (by repeat (first | exact Keeps.nil | refine Keeps.c rfl rfl ?_ | refine Keeps.c (by (first | (first | rfl | ((conv => lhs; whnf); first | (simp [cellsA, faultsT, faultsD, namesD, Fault.mk_c, Nat.add_assoc, empty_append, Bool.and_assoc]; done) | (simp [cellsA, faultsT, faultsD, namesD, Nat.add_assoc, empty_append, Bool.and_assoc]; repeat (first | rfl | constructor)))) | rfl | (simp only [get_same, ev]; done) | (simp [*, cellsA]; done) | (show V.a (A.d (D.slice _ _ _ _)) = V.a (A.d (D.slice _ _ _ _)); simp [*, cellsA]; done))) rfl ?_)) (by repeat (first | exact Pfx.nil | apply Pfx.cons)) (by first | rfl | (first | rfl | (simp only [Heap.set_set, List.length_append, List.length_nil, List.length_cons, List.length_map, List.length_singleton, Nat.zero_add]; done) | (simp [Heap.set_set, Nat.add_assoc]; done)) | (((funext n; simp only [Heap.set]; (repeat' split) <;> simp_all)) <;> first | rfl | exact ⟨rfl, rfl⟩))) ⟨hi', ?_, by simp; omega⟩ (by dsimp only; omega)
         dsimp only
         rw [next_succ _ _ _ _ i hi', ← hL]; unfold nextStep; exact (if_pos hc1).symm)
      | (refine hK4 _ (i + 1, L) (Weak.to (by repeat (first | exact Keeps.nil | refine Keeps.c rfl rfl ?_ | refine Keeps.c (by (first | (first | rfl | ((conv => lhs; whnf); first | (simp [cellsA, faultsT, faultsD, namesD, Fault.mk_c, Nat.add_assoc, empty_append, Bool.and_assoc]; done) | (simp [cellsA, faultsT, faultsD, namesD, Nat.add_assoc, empty_append, Bool.and_assoc]; repeat (first | rfl | constructor)))) | rfl | (simp only [get_same, ev]; done) | (simp [*, cellsA]; done) | (show V.a (A.d (D.slice _ _ _ _)) = V.a (A.d (D.slice _ _ _ _)); simp [*, cellsA]; done))) rfl ?_)) (by repeat (first | exact Pfx.nil | apply Pfx.cons)) (by first | rfl | (first | rfl | (simp only [Heap.set_set, List.length_append, List.length_nil, List.length_cons, List.length_map, List.length_singleton, Nat.zero_add]; done) | (simp [Heap.set_set, Nat.add_assoc]; done)) | (((funext n; simp only [Heap.set]; (repeat' split) <;> simp_all)) <;> first | rfl | exact ⟨rfl, rfl⟩))) ⟨hi', ?_, by dsimp only; omega⟩ (by dsimp only; omega)
         dsimp only
         rw [next_succ _ _ _ _ i hi', ← hL]; unfold nextStep; have h : (goes d own (t.inputs.l[i]'hi') && !L.contains (t.inputs.l[i]'hi').type.name.1) = false := hc1
         rw [h]; rfl)
    · first
      | (cases hc1; done)
      | skip
      refine AWp.skip ?_
      refine hK7 _ ?_
      clear hK7 K7
      refine AWp.region ?_
      refine AOps.s0 (Cert.move (by conv => lhs; whnf)) rfl ?_
      refine AOps.s0 (Cert.addI rfl rfl (by first | omega | (dsimp only; omega)) (by first | omega | (dsimp only; omega))) rfl ?_
      refine AOps.s0 (Cert.assign (by conv => lhs; whnf)) rfl ?_
      refine AOps.nil ?_
      have hi' := map_lt hc0
      first
      | (refine hK4 _ (i + 1, L ++ [(t.inputs.l[i]'hi').type.name.1]) (Weak.to (by repeat (first | exact Keeps.nil | refine Keeps.c rfl rfl ?_ | refine Keeps.c (by (first | (first | rfl | ((conv => lhs; whnf); first | (simp [cellsA, faultsT, faultsD, namesD, Fault.mk_c, Nat.add_assoc, empty_append, Bool.and_assoc]; done) | (simp [cellsA, faultsT, faultsD, namesD, Nat.add_assoc, empty_append, Bool.and_assoc]; repeat (first | rfl | constructor)))) | rfl | (simp only [get_same, ev]; done) | (simp [*, cellsA]; done) | (show V.a (A.d (D.slice _ _ _ _)) = V.a (A.d (D.slice _ _ _ _)); simp [*, cellsA]; done))) rfl ?_)) (by repeat (first | exact Pfx.nil | apply Pfx.cons)) (by first | rfl | (first | rfl | (simp only [Heap.set_set, List.length_append, List.length_nil, List.length_cons, List.length_map, List.length_singleton, Nat.zero_add]; done) | (simp [Heap.set_set, Nat.add_assoc]; done)) | (((funext n; simp only [Heap.set]; (repeat' split) <;> simp_all)) <;> first | rfl | exact ⟨rfl, rfl⟩))) ⟨hi', ?_, by simp; omega⟩ (by dsimp only; omega)
         dsimp only
         rw [next_succ _ _ _ _ i hi', ← hL]; unfold nextStep; exact (if_pos hc1).symm)
      | (refine hK4 _ (i + 1, L) (Weak.to (by repeat (first | exact Keeps.nil | refine Keeps.c rfl rfl ?_ | refine Keeps.c (by (first | (first | rfl | ((conv => lhs; whnf); first | (simp [cellsA, faultsT, faultsD, namesD, Fault.mk_c, Nat.add_assoc, empty_append, Bool.and_assoc]; done) | (simp [cellsA, faultsT, faultsD, namesD, Nat.add_assoc, empty_append, Bool.and_assoc]; repeat (first | rfl | constructor)))) | rfl | (simp only [get_same, ev]; done) | (simp [*, cellsA]; done) | (show V.a (A.d (D.slice _ _ _ _)) = V.a (A.d (D.slice _ _ _ _)); simp [*, cellsA]; done))) rfl ?_)) (by repeat (first | exact Pfx.nil | apply Pfx.cons)) (by first | rfl | (first | rfl | (simp only [Heap.set_set, List.length_append, List.length_nil, List.length_cons, List.length_map, List.length_singleton, Nat.zero_add]; done) | (simp [Heap.set_set, Nat.add_assoc]; done)) | (((funext n; simp only [Heap.set]; (repeat' split) <;> simp_all)) <;> first | rfl | exact ⟨rfl, rfl⟩))) ⟨hi', ?_, by dsimp only; omega⟩ (by dsimp only; omega)
         dsimp only
         rw [next_succ _ _ _ _ i hi', ← hL]; unfold nextStep; have h : (goes d own (t.inputs.l[i]'hi') && !L.contains (t.inputs.l[i]'hi').type.name.1) = false := hc1
         rw [h]; rfl)
  · first
    | (cases hc0; done)
    | skip
    refine AWp.exit ?_
    refine hK2 _ ?_
    clear hK5 K5 hK4 K4 hK2 K2
    refine AWp.seqK fun K11 hK11 => ?_
    refine AWp.region ?_
    refine AOps.s0 (Cert.move (by conv => lhs; whnf)) rfl ?_
    refine AOps.s0 (Cert.assign (by conv => lhs; whnf)) rfl ?_
    refine AOps.nil ?_
    refine hK11 _ ?_
    clear hK11 K11
    refine AWp.ret ?_
    repeat (first | refine xBlock_ret ?_ | refine xThen_ret ?_)
    refine retQ.ret rfl ?_
    have e : L = next d t.inputs.l own l := by rw [hL, List.take_of_length_le (map_ge hc0)]
    subst e
    exact ⟨rfl, rfl⟩
end Go.Proofs


namespace Go.Proofs
open Go Go.Ab Go.Ab.Sch
set_option maxRecDepth 100000 in
theorem ref_circular (d : Doc) (hs : Small d) (t : Def) (ht : t.inputs.l.length ≤ 2048) (H : Heap) :
    ACalls Try.prog 45 [.agg d.c, .agg t.c] H fun r h' => r = .a (.d (.bool (circB d t))) ∧ h' = H := by
  refine ACalls.of_wp (fn := Try.f45) (c := _) Try.tab_ok (fun _ _ => Try.call45 _ _) Try.func45 rfl (n := 42) rfl (rs := [.tmp 4]) rfl rfl ?_
  refine AWp.tok 1 fun tk htk => ?_
  refine AWp.seqK fun K1 hK1 => ?_
  refine AWp.region ?_
  refine AOps.s0 (Cert.boxV rfl) rfl ?_
  refine AOps.s0 (Cert.boxV rfl) rfl ?_
  refine AOps.s0 (Cert.assign (by conv => lhs; whnf)) rfl ?_
  refine AOps.nil ?_
  refine hK1 _ ?_
  clear hK1 K1
  refine AWp.seqK fun K2 hK2 => ?_
  refine AWp.seqK fun K3 hK3 => ?_
  refine AWp.region ?_
  refine AOps.s0 (Cert.fieldV (Try.tab_ok _ _ rfl) rfl rfl (Try.tab_ok _ _ rfl) rfl rfl (by conv => lhs; whnf)) rfl ?_
  refine AOps.s0 (Cert.loadV (Try.tab_ok _ _ rfl) rfl rfl rfl) rfl ?_
  refine AOps.s0 (Cert.binI rfl rfl rfl) rfl ?_
  refine AOps.nil ?_
  refine hK3 _ ?_
  clear hK3 K3
  refine AWp.cond rfl (fun hc0 => ?_) (fun hc0 => ?_)
  · first
    | (cases hc0; done)
    | skip
    refine AWp.seqK fun K4 hK4 => ?_
    refine AWp.region ?_
    refine AOps.s0 (Cert.assign (by conv => lhs; whnf)) rfl ?_
    refine AOps.nil ?_
    refine hK4 _ ?_
    clear hK4 K4
    refine AWp.ret ?_
    repeat (first | refine xBlock_ret ?_ | refine xThen_ret ?_)
    first
    | (refine retQ.retF H rfl ⟨?_, rfl⟩ (by simp only [Heap.set_set]; exact Heap.sub_set htk)
       have e : circB d t = L.contains t.name.1 := by
         unfold circB
         have h0 : (!decide (t.kind = 5)) = false := hc0
         have h1 : decide (t.kind = 5) = true := by cases h : decide (t.kind = 5) <;> simp_all
         rw [hw.end (map_ge hc1), h1, Bool.true_and]
       rw [e]; rfl)
    | (refine retQ.retF H rfl ⟨?_, rfl⟩ (Heap.sub_set htk)
       have e : circB d t = false := by
         unfold circB
         have h0 : (!decide (t.kind = 5)) = true := hc0
         simp at h0
         simp [h0]
       rw [e]; rfl)
  · first
    | (cases hc0; done)
    | skip
    refine AWp.skip ?_
    refine hK2 _ ?_
    clear hK2 K2
    refine AWp.seqK fun K5 hK5 => ?_
    refine AWp.region ?_
    refine AOps.s0 (Cert.loadV (Try.tab_ok _ _ rfl) rfl rfl rfl) rfl ?_
    refine AOps.s0 (Cert.loadV (Try.tab_ok _ _ rfl) rfl rfl rfl) rfl ?_
    refine AOps.s0 (Cert.fieldV (Try.tab_ok _ _ rfl) rfl rfl (Try.tab_ok _ _ rfl) rfl rfl (by conv => lhs; whnf)) rfl ?_
    refine AOps.s0 (Cert.loadV (Try.tab_ok _ _ rfl) rfl rfl rfl) rfl ?_
    refine AOps.sH (Cert.callH rfl rfl (ACalls.asArgs (.cons (.refl _) (.cons (.refl _) (.cons (.refl _) (.cons (.nil (Heap.set_same _ _ _)) .nil)))) (ref_next d t t.name.1 [] tk (by simp; omega) _ (Heap.set_same _ _ _)))) rfl ?_
    refine AOps.s0 (Cert.assign (by conv => lhs; whnf)) rfl ?_
    refine AOps.nil ?_
    refine hK5 _ ?_
    clear hK5 K5
    refine AWp.seqK fun K6 hK6 => ?_
    refine AWp.seqK fun K7 hK7 => ?_
    refine AWp.region ?_
    refine AOps.s0 (Cert.assign (by conv => lhs; whnf)) rfl ?_
    refine AOps.nil ?_
    refine hK7 _ ?_
    clear hK7 K7
    refine AWp.block ?_
    refine AWp.loopH (KeepsT.cons (k := 2) (by conv => lhs; whnf) (KeepsT.cons (k := 3) (by conv => lhs; whnf) KeepsT.nil)) (fun (x : Nat × List (List UInt8)) => [(6, .a (.d (.int .i64 x.1))), (5, .a (.d (namesD (some tk) x.2)))]) (fun x => H.set tk (some (.tok 1 x.2.length)))
      (fun x => d.defs.l.length + 1 - x.1) (fun x => Work d t.name.1 t.inputs.l x.1 x.2) (0, next d t.inputs.l t.name.1 []) (Work.start _ _ _) (Weak.to (by repeat (first | exact Keeps.nil | refine Keeps.c rfl rfl ?_ | refine Keeps.c (by (first | (first | rfl | ((conv => lhs; whnf); first | (simp [cellsA, faultsT, faultsD, namesD, Fault.mk_c, Nat.add_assoc, empty_append, Bool.and_assoc]; done) | (simp [cellsA, faultsT, faultsD, namesD, Nat.add_assoc, empty_append, Bool.and_assoc]; repeat (first | rfl | constructor)))) | rfl | (simp only [get_same, ev]; done) | (simp [*, cellsA]; done) | (show V.a (A.d (D.slice _ _ _ _)) = V.a (A.d (D.slice _ _ _ _)); simp [*, cellsA]; done))) rfl ?_)) (by repeat (first | exact Pfx.nil | apply Pfx.cons)) (by first | rfl | (first | rfl | (simp only [Heap.set_set, List.length_append, List.length_nil, List.length_cons, List.length_map, List.length_singleton, Nat.zero_add]; done) | (simp [Heap.set_set, Nat.add_assoc]; done)) | (((funext n; simp only [Heap.set]; (repeat' split) <;> simp_all)) <;> first | rfl | exact ⟨rfl, rfl⟩))) ?_
    rintro ⟨i, L⟩ hw K8 hK8
    dsimp only at hw
    have hi5 : i ≤ L.length := hw.le
    have hL4 : L.length ≤ 140737488355328 := by have := hw.len; have := hs.defs; omega
    refine AWp.seqK fun K9 hK9 => ?_
    refine AWp.seqK fun K10 hK10 => ?_
    refine AWp.region ?_
    refine AOps.s0 (Cert.move (by conv => lhs; whnf)) rfl ?_
    refine AOps.s0 (Cert.move (by conv => lhs; whnf)) rfl ?_
    refine AOps.s0 (Cert.lenA (Try.tab_ok _ _ rfl) rfl rfl rfl) rfl ?_
    refine AOps.s0 (Cert.binI rfl rfl rfl) rfl ?_
    refine AOps.nil ?_
    refine hK10 _ ?_
    clear hK10 K10
    refine AWp.cond rfl (fun hc1 => ?_) (fun hc1 => ?_)
    · first
      | (cases hc1; done)
      | skip
      refine AWp.skip ?_
      refine hK9 _ ?_
      clear hK9 K9
      refine AWp.seqK fun K11 hK11 => ?_
      refine AWp.block ?_
      refine AWp.seqK fun K12 hK12 => ?_
      refine AWp.draw rfl ?_
      have hi3 := map_lt hc1
      refine DOps.s0 (Cert.loadV (Try.tab_ok _ _ rfl) rfl rfl rfl) rfl ?_
      refine DOps.s0 (Cert.move (by conv => lhs; whnf)) rfl ?_
      refine DOps.s0 (Cert.move (by conv => lhs; whnf)) rfl ?_
      refine DOps.s0 (Cert.indexA (Try.tab_ok _ _ rfl) rfl (Try.tab_ok _ _ rfl) rfl rfl rfl (by omega) (map_get (by assumption))) rfl ?_
      refine DOps.s0 (Cert.loadV (Try.tab_ok _ _ rfl) rfl rfl rfl) rfl ?_
      refine DOps.s0 (Cert.callP rfl rfl (ref_Find d _)) rfl ?_
      refine DOps.s0 (Cert.move (by conv => lhs; whnf)) rfl ?_
      refine DOps.s0 (Cert.extract rfl rfl) rfl ?_
      refine DOps.s0 (Cert.extract rfl rfl) rfl ?_
      refine DOps.sL (Cert.allocL (Try.tab_ok _ _ rfl) rfl (by repeat (first | exact Snoc.nil | apply Snoc.cons))) rfl ?_
      refine DOps.sLn (Cert.storeLF (Try.tab_ok _ _ rfl) rfl rfl rfl rfl rfl (by repeat (first | exact SetAt.zero | apply SetAt.succ))) ?_
      refine DOps.s0 (Cert.assign (by conv => lhs; whnf)) rfl ?_
      refine DOps.nil (by decide +kernel) ?_
      refine hK12 _ ?_
      clear hK12 K12
      refine AWp.freeze 7 _ rfl (by repeat (first | exact Snoc.nil | apply Snoc.cons)) (Keeps.c (k := 2) (by conv => lhs; whnf) (by rfl) (Keeps.c (k := 3) (by conv => lhs; whnf) (by rfl) (Keeps.c (k := 5) (by conv => lhs; whnf) (by rfl) (Keeps.c (k := 6) (by conv => lhs; whnf) (by rfl) Keeps.nil)))) ?_
      refine AWp.region ?_
      refine AOps.s0 (Cert.loadV (Try.tab_ok _ _ rfl) rfl rfl rfl) rfl ?_
      refine AOps.s0 (Cert.loadV (Try.tab_ok _ _ rfl) rfl rfl rfl) rfl ?_
      refine AOps.s0 (Cert.fieldV (Try.tab_ok _ _ rfl) rfl rfl (Try.tab_ok _ _ rfl) rfl rfl (by conv => lhs; whnf)) rfl ?_
      refine AOps.s0 (Cert.loadV (Try.tab_ok _ _ rfl) rfl rfl rfl) rfl ?_
      refine AOps.s0 (Cert.move (by conv => lhs; whnf)) rfl ?_
      refine AOps.sH (Cert.callH rfl rfl (ref_next d (defOf d (L[i]'hi3)) t.name.1 L tk (by have := hs.defOf (L[i]'hi3); have := hw.len; have := hs.defs; omega) _ (Heap.set_same _ _ _))) rfl ?_
      refine AOps.s0 (Cert.assign (by conv => lhs; whnf)) rfl ?_
      refine AOps.nil ?_
      refine hK11 _ ?_
      clear hK11 K11
      refine AWp.region ?_
      refine AOps.s0 (Cert.move (by conv => lhs; whnf)) rfl ?_
      refine AOps.s0 (Cert.addI rfl rfl (by first | omega | (dsimp only; omega)) (by first | omega | (dsimp only; omega))) rfl ?_
      refine AOps.s0 (Cert.assign (by conv => lhs; whnf)) rfl ?_
      refine AOps.nil ?_
      refine hK8 _ (i + 1, next d (defOf d (L[i]'hi3)).inputs.l t.name.1 L) (Weak.to (by repeat (first | exact Keeps.nil | refine Keeps.c rfl rfl ?_ | refine Keeps.c (by (first | (first | rfl | ((conv => lhs; whnf); first | (simp [cellsA, faultsT, faultsD, namesD, Fault.mk_c, Nat.add_assoc, empty_append, Bool.and_assoc]; done) | (simp [cellsA, faultsT, faultsD, namesD, Nat.add_assoc, empty_append, Bool.and_assoc]; repeat (first | rfl | constructor)))) | rfl | (simp only [get_same, ev]; done) | (simp [*, cellsA]; done) | (show V.a (A.d (D.slice _ _ _ _)) = V.a (A.d (D.slice _ _ _ _)); simp [*, cellsA]; done))) rfl ?_)) (by repeat (first | exact Pfx.nil | apply Pfx.cons)) (by first | rfl | (first | rfl | (simp only [Heap.set_set, List.length_append, List.length_nil, List.length_cons, List.length_map, List.length_singleton, Nat.zero_add]; done) | (simp [Heap.set_set, Nat.add_assoc]; done)) | (((funext n; simp only [Heap.set]; (repeat' split) <;> simp_all)) <;> first | rfl | exact ⟨rfl, rfl⟩))) (hw.step hi3) ?_
      have := (hw.step hi3).len
      have := (hw.step hi3).le
      dsimp only; omega
    · first
      | (cases hc1; done)
      | skip
      refine AWp.exit ?_
      refine hK6 _ ?_
      clear hK9 K9 hK8 K8 hK6 K6
      refine AWp.seqK fun K13 hK13 => ?_
      refine AWp.region ?_
      refine AOps.s0 (Cert.move (by conv => lhs; whnf)) rfl ?_
      refine AOps.s0 (Cert.fieldV (Try.tab_ok _ _ rfl) rfl rfl (Try.tab_ok _ _ rfl) rfl rfl (by conv => lhs; whnf)) rfl ?_
      refine AOps.s0 (Cert.loadV (Try.tab_ok _ _ rfl) rfl rfl rfl) rfl ?_
      refine AOps.s0 (Cert.callP (v := V.a (A.d (D.bool (L.contains t.name.1)))) rfl rfl (ref_has (some tk) _ L hL4 t.name.1)) rfl ?_
      refine AOps.s0 (Cert.assign (by conv => lhs; whnf)) rfl ?_
      refine AOps.nil ?_
      refine hK13 _ ?_
      clear hK13 K13
      refine AWp.ret ?_
      repeat (first | refine xBlock_ret ?_ | refine xThen_ret ?_)
      first
      | (refine retQ.retF H rfl ⟨?_, rfl⟩ (by simp only [Heap.set_set]; exact Heap.sub_set htk)
         have e : circB d t = L.contains t.name.1 := by
           unfold circB
           have h0 : (!decide (t.kind = 5)) = false := hc0
           have h1 : decide (t.kind = 5) = true := by cases h : decide (t.kind = 5) <;> simp_all
           rw [hw.end (map_ge hc1), h1, Bool.true_and]
         rw [e]; rfl)
      | (refine retQ.retF H rfl ⟨?_, rfl⟩ (Heap.sub_set htk)
         have e : circB d t = false := by
           unfold circB
           have h0 : (!decide (t.kind = 5)) = true := hc0
           simp at h0
           simp [h0]
         rw [e]; rfl)
end Go.Proofs


namespace Go.Proofs
open Go Go.Ab Go.Ab.Sch
theorem part_map {α : Type} (f : α → List D) (l : List α) (i : Nat) : ((l.map f).take (i : Int).toNat).drop 0 = (l.take i).map f := by simp [List.map_take]
theorem ref_InputOf_part (l : List Ab.Input) (hl : l.length ≤ 2048) (i : Nat) (name : List UInt8) (H : Heap) : ACalls Try.prog 28 [.d (.slice 10 none false (((l.map Input.c).take (i : Int).toNat).drop 0)), .d (.str name)] H fun r h' => r = inputV (inputOf (l.take i) name) ∧ h' = H := by
  rw [part_map]; exact ref_InputOf none false (l.take i) (by simp; omega) name H
set_option maxRecDepth 100000 in
set_option maxHeartbeats 1000000 in
theorem ref_inputs (d : Doc) (nl : Bool) (l : List Ab.Input) (hl : l.length ≤ 2048) (b e : List UInt8) (hb : b.length ≤ 1152921504606846976) (he : e.length ≤ 1152921504606846976) (H : Heap) :
    ACalls Try.prog 34 [.agg d.c, .d (.slice 10 none nl (l.map Input.c)), .d (.str b), .d (.str e)] H fun r h' => r = .a (.d (faultsD (inputsF d l b e l.length))) ∧ h' = H := by
  refine ACalls.of_wp (fn := Try.f34) (c := _) Try.tab_ok (fun _ _ => Try.call34 _ _) Try.func34 rfl (n := 80) rfl (rs := [.tmp 8]) rfl rfl ?_
  refine AWp.tok 2 fun tk htk => ?_
  refine AWp.seqK fun K1 hK1 => ?_
  refine AWp.region ?_
  refine AOps.s0 (Cert.boxV rfl) rfl ?_
  refine AOps.s0 (Cert.assign (by conv => lhs; whnf)) rfl ?_
  refine AOps.nil ?_
  refine hK1 _ ?_
  clear hK1 K1
  refine AWp.seqK fun K2 hK2 => ?_
  refine AWp.region ?_
  refine AOps.s0 (Cert.assign (by conv => lhs; whnf)) rfl ?_
  refine AOps.nil ?_
  refine hK2 _ ?_
  clear hK2 K2
  refine AWp.seqK fun K3 hK3 => ?_
  refine AWp.nilTok 9 2 tk rfl (Heap.set_same _ _ _) ?_
  refine AWp.seqK fun K4 hK4 => ?_
  refine AWp.region ?_
  refine AOps.s0 (Cert.assign (by conv => lhs; whnf)) rfl ?_
  refine AOps.nil ?_
  refine hK4 _ ?_
  clear hK4 K4
  refine AWp.block ?_
  refine AWp.loopH (KeepsT.cons (k := 1) (by conv => lhs; whnf) (KeepsT.cons (k := 2) (by conv => lhs; whnf) (KeepsT.cons (k := 3) (by conv => lhs; whnf) (KeepsT.cons (k := 4) (by conv => lhs; whnf) KeepsT.nil)))) (fun (x : Nat × List Fault) => [(10, .a (.d (.int .i64 x.1))), (9, .a (.d (faultsT tk x.2)))]) (fun x => H.set tk (some (.tok 2 x.2.length)))
    (fun x => l.length - x.1) (fun x => x.1 ≤ l.length ∧ x.2 = inputsF d l b e x.1 ∧ x.2.length ≤ 3 * x.1) (0, []) ⟨Nat.zero_le _, rfl, Nat.le_refl _⟩ (Weak.to (by repeat (first | exact Keeps.nil | refine Keeps.c rfl rfl ?_ | refine Keeps.c (by (first | (first | rfl | ((conv => lhs; whnf); first | (simp [cellsA, faultsT, faultsD, namesD, Fault.mk_c, Nat.add_assoc, empty_append, Bool.and_assoc]; done) | (simp [cellsA, faultsT, faultsD, namesD, Nat.add_assoc, empty_append, Bool.and_assoc]; repeat (first | rfl | constructor)))) | rfl | (simp only [get_same, ev]; done) | (simp [*, cellsA]; done) | (show V.a (A.d (D.slice _ _ _ _)) = V.a (A.d (D.slice _ _ _ _)); simp [*, cellsA]; done))) rfl ?_)) (by repeat (first | exact Pfx.nil | apply Pfx.cons)) (by first | rfl | (first | rfl | (simp only [Heap.set_set, List.length_append, List.length_nil, List.length_cons, List.length_map, List.length_singleton, Nat.zero_add]; done) | (simp [Heap.set_set, Nat.add_assoc]; done)) | (((funext n; simp only [Heap.set]; (repeat' split) <;> simp_all)) <;> first | rfl | exact ⟨rfl, rfl⟩))) ?_
  rintro ⟨i, F⟩ ⟨hi, hF, hF2⟩ K5 hK5
  dsimp only at hi hF hF2
  refine AWp.seqK fun K6 hK6 => ?_
  refine AWp.seqK fun K7 hK7 => ?_
  refine AWp.region ?_
  refine AOps.s0 (Cert.move (by conv => lhs; whnf)) rfl ?_
  refine AOps.s0 (Cert.move (by conv => lhs; whnf)) rfl ?_
  refine AOps.s0 (Cert.lenA (Try.tab_ok _ _ rfl) rfl rfl rfl) rfl ?_
  refine AOps.s0 (Cert.binI rfl rfl rfl) rfl ?_
  refine AOps.nil ?_
  refine hK7 _ ?_
  clear hK7 K7
  refine AWp.cond rfl (fun hc0 => ?_) (fun hc0 => ?_)
  · first
    | (cases hc0; done)
    | skip
    refine AWp.skip ?_
    refine hK6 _ ?_
    clear hK6 K6
    refine AWp.seqK fun K8 hK8 => ?_
    refine AWp.block ?_
    refine AWp.seqK fun K9 hK9 => ?_
    refine AWp.region ?_
    have hi3 := map_lt hc0
    have hx : (l[i]'hi3).name.1.length ≤ 140737488355328 := (l[i]'hi3).name.2
    have hn := names_len (l[i]'hi3).name.1 false (inputOf (l.take i) (l[i]'hi3).name.1).isSome (b ++ (l[i]'hi3).name.1 ++ e)
    refine AOps.s0 (Cert.move (by conv => lhs; whnf)) rfl ?_
    refine AOps.s0 (Cert.move (by conv => lhs; whnf)) rfl ?_
    refine AOps.s0 (Cert.move (by conv => lhs; whnf)) rfl ?_
    refine AOps.s0 (Cert.indexA (Try.tab_ok _ _ rfl) rfl (Try.tab_ok _ _ rfl) rfl rfl rfl (by omega) (map_get (by assumption))) rfl ?_
    refine AOps.s0 (Cert.fieldV (Try.tab_ok _ _ rfl) rfl rfl (Try.tab_ok _ _ rfl) rfl rfl (by conv => lhs; whnf)) rfl ?_
    refine AOps.s0 (Cert.loadV (Try.tab_ok _ _ rfl) rfl rfl rfl) rfl ?_
    refine AOps.s0 (Cert.concat rfl rfl (by first | omega | (show _ ≤ 4611686018427387904; simp only [List.length_append, List.length_cons, List.length_nil]; omega))) rfl ?_
    refine AOps.s0 (Cert.move (by conv => lhs; whnf)) rfl ?_
    refine AOps.s0 (Cert.concat rfl rfl (by first | omega | (show _ ≤ 4611686018427387904; simp only [List.length_append, List.length_cons, List.length_nil]; omega))) rfl ?_
    refine AOps.s0 (Cert.assign (by conv => lhs; whnf)) rfl ?_
    refine AOps.nil ?_
    refine hK9 _ ?_
    clear hK9 K9
    refine AWp.seqK fun K10 hK10 => ?_
    refine AWp.draw rfl ?_
    refine DOps.s0 (Cert.move (by conv => lhs; whnf)) rfl ?_
    refine DOps.s0 (Cert.move (by conv => lhs; whnf)) rfl ?_
    refine DOps.s0 (Cert.partN (Try.tab_ok _ _ rfl) rfl (Try.tab_ok _ _ rfl) rfl rfl (by first | omega | (simp; omega)) rfl ⟨_, _, rfl, by omega, rfl⟩ (by first | exact Nat.zero_le _ | omega) (by first | exact Nat.le_refl _ | omega | (simp; omega))) rfl ?_
    refine DOps.s0 (Cert.move (by conv => lhs; whnf)) rfl ?_
    refine DOps.s0 (Cert.move (by conv => lhs; whnf)) rfl ?_
    refine DOps.s0 (Cert.indexA (Try.tab_ok _ _ rfl) rfl (Try.tab_ok _ _ rfl) rfl rfl rfl (by omega) (map_get (by assumption))) rfl ?_
    refine DOps.s0 (Cert.fieldV (Try.tab_ok _ _ rfl) rfl rfl (Try.tab_ok _ _ rfl) rfl rfl (by conv => lhs; whnf)) rfl ?_
    refine DOps.s0 (Cert.loadV (Try.tab_ok _ _ rfl) rfl rfl rfl) rfl ?_
    refine DOps.s0 (Cert.callP rfl rfl (ref_InputOf_part l hl i (l[i]'hi3).name.1)) rfl ?_
    refine DOps.s0 (Cert.move (by conv => lhs; whnf)) rfl ?_
    refine DOps.s0 (Cert.extract rfl rfl) rfl ?_
    refine DOps.s0 (Cert.extract rfl rfl) rfl ?_
    refine DOps.sL (Cert.allocL (Try.tab_ok _ _ rfl) rfl (by repeat (first | exact Snoc.nil | apply Snoc.cons))) rfl ?_
    refine DOps.sLn (Cert.storeLF (Try.tab_ok _ _ rfl) rfl rfl rfl rfl rfl (by repeat (first | exact SetAt.zero | apply SetAt.succ))) ?_
    refine DOps.s0 (Cert.assign (by conv => lhs; whnf)) rfl ?_
    refine DOps.nil (by decide +kernel) ?_
    refine hK10 _ ?_
    clear hK10 K10
    refine AWp.freeze 12 _ rfl (by repeat (first | exact Snoc.nil | apply Snoc.cons)) (Keeps.c (k := 1) (by conv => lhs; whnf) (by rfl) (Keeps.c (k := 2) (by conv => lhs; whnf) (by rfl) (Keeps.c (k := 3) (by conv => lhs; whnf) (by rfl) (Keeps.c (k := 4) (by conv => lhs; whnf) (by rfl) (Keeps.c (k := 9) (by conv => lhs; whnf) (by rfl) (Keeps.c (k := 10) (by conv => lhs; whnf) (by rfl) (Keeps.c (k := 11) (by conv => lhs; whnf) (by rfl) (Keeps.c (k := 13) (by conv => lhs; whnf) (by rfl) Keeps.nil)))))))) ?_
    refine AWp.seqK fun K11 hK11 => ?_
    refine AWp.region ?_
    refine AOps.s0 (Cert.move (by conv => lhs; whnf)) rfl ?_
    refine AOps.s0 (Cert.move (by conv => lhs; whnf)) rfl ?_
    refine AOps.s0 (Cert.move (by conv => lhs; whnf)) rfl ?_
    refine AOps.s0 (Cert.indexA (Try.tab_ok _ _ rfl) rfl (Try.tab_ok _ _ rfl) rfl rfl rfl (by omega) (map_get (by assumption))) rfl ?_
    refine AOps.s0 (Cert.fieldV (Try.tab_ok _ _ rfl) rfl rfl (Try.tab_ok _ _ rfl) rfl rfl (by conv => lhs; whnf)) rfl ?_
    refine AOps.s0 (Cert.loadV (Try.tab_ok _ _ rfl) rfl rfl rfl) rfl ?_
    refine AOps.s0 (Cert.move (by conv => lhs; whnf)) rfl ?_
    refine AOps.s0 (Cert.move (by conv => lhs; whnf)) rfl ?_
    refine AOps.s0 (Cert.callP rfl rfl (ref_names (l[i]'hi3).name.1 false (inputOf (l.take i) (l[i]'hi3).name.1).isSome (b ++ (l[i]'hi3).name.1 ++ e))) rfl ?_
    refine AOps.sH (Cert.append (Try.tab_ok _ _ rfl) rfl (Try.tab_ok _ _ rfl) (Try.tab_ok _ _ rfl) (.inl ⟨_, rfl⟩) rfl rfl (by decide) rfl rfl (by first | exact .inl rfl | exact .inr rfl) (by first | exact .inl rfl | exact .inr rfl) (by (first | assumption | exact Heap.set_same _ _ _ | ((repeat (refine (Heap.set_other _ _ (by first | assumption | (apply Ne.symm; assumption))).trans ?_)); first | assumption | exact Heap.set_same _ _ _) | (simp only [Heap.set_set, Heap.set_same]; done) | (simp [Heap.set, *]; done))) (by first | rfl | (simp; done)) (by (first | assumption | (simp [maxN]; done) | (simp [maxN]; omega) | (simp [maxN, Nat.add_mul] at *; omega))) (by (first | assumption | (simp [maxN]; done) | (simp [maxN]; omega) | (simp [maxN, Nat.add_mul] at *; omega)))) rfl ?_
    refine AOps.s0 (Cert.assign (by conv => lhs; whnf)) rfl ?_
    refine AOps.nil ?_
    refine hK11 _ ?_
    clear hK11 K11
    refine AWp.seqK fun K12 hK12 => ?_
    refine AWp.draw rfl ?_
    refine DOps.s0 (Cert.loadV (Try.tab_ok _ _ rfl) rfl rfl rfl) rfl ?_
    refine DOps.s0 (Cert.move (by conv => lhs; whnf)) rfl ?_
    refine DOps.s0 (Cert.move (by conv => lhs; whnf)) rfl ?_
    refine DOps.s0 (Cert.indexA (Try.tab_ok _ _ rfl) rfl (Try.tab_ok _ _ rfl) rfl rfl rfl (by omega) (map_get (by assumption))) rfl ?_
    refine DOps.s0 (Cert.fieldV (Try.tab_ok _ _ rfl) rfl rfl (Try.tab_ok _ _ rfl) rfl rfl (by conv => lhs; whnf)) rfl ?_
    refine DOps.s0 (Cert.fieldV (Try.tab_ok _ _ rfl) rfl rfl (Try.tab_ok _ _ rfl) rfl rfl (by conv => lhs; whnf)) rfl ?_
    refine DOps.s0 (Cert.loadV (Try.tab_ok _ _ rfl) rfl rfl rfl) rfl ?_
    refine DOps.s0 (Cert.callP rfl rfl (ref_known d (l[i]'hi3).type.name.1)) rfl ?_
    refine DOps.s0 (Cert.notB rfl) rfl ?_
    refine DOps.nil (by decide +kernel) ?_
    refine hK12 _ ?_
    clear hK12 K12
    refine AWp.cond rfl (fun hc1 => ?_) (fun hc1 => ?_)
    · first
      | (cases hc1; done)
      | skip
      refine AWp.region ?_
      refine AOps.s0 (Cert.move (by conv => lhs; whnf)) rfl ?_
      refine AOps.s0 (Cert.move (by conv => lhs; whnf)) rfl ?_
      refine AOps.s0 (Cert.build Try.tab_ok rfl rfl rfl rfl rfl rfl) rfl ?_
      refine AOps.s0 (Cert.buildSlice (Try.tab_ok _ _ rfl) rfl (Try.tab_ok _ _ rfl) rfl rfl rfl rfl rfl rfl) rfl ?_
      refine AOps.sH (Cert.append (Try.tab_ok _ _ rfl) rfl (Try.tab_ok _ _ rfl) (Try.tab_ok _ _ rfl) (.inl ⟨_, rfl⟩) rfl rfl (by decide) rfl rfl (by first | exact .inl rfl | exact .inr rfl) (by first | exact .inl rfl | exact .inr rfl) (by (first | assumption | exact Heap.set_same _ _ _ | ((repeat (refine (Heap.set_other _ _ (by first | assumption | (apply Ne.symm; assumption))).trans ?_)); first | assumption | exact Heap.set_same _ _ _) | (simp only [Heap.set_set, Heap.set_same]; done) | (simp [Heap.set, *]; done))) (by first | rfl | (simp; done)) (by (first | assumption | (simp [maxN]; done) | (simp [maxN]; omega) | (simp [maxN, Nat.add_mul] at *; omega))) (by (first | assumption | (simp [maxN]; done) | (simp [maxN]; omega) | (simp [maxN, Nat.add_mul] at *; omega)))) rfl ?_
      refine AOps.s0 (Cert.assign (by conv => lhs; whnf)) rfl ?_
      refine AOps.nil ?_
      refine hK8 _ ?_
      clear hK8 K8
      refine AWp.region ?_
      refine AOps.s0 (Cert.move (by conv => lhs; whnf)) rfl ?_
      refine AOps.s0 (Cert.addI rfl rfl (by first | omega | (dsimp only; omega)) (by first | omega | (dsimp only; omega))) rfl ?_
      refine AOps.s0 (Cert.assign (by conv => lhs; whnf)) rfl ?_
      refine AOps.nil ?_
      have hi4 : i < l.length := hi3
      have hm : inputF d l b e i = names (l[i]'hi4).name.1 false (inputOf (l.take i) (l[i]'hi4).name.1).isSome (b ++ (l[i]'hi4).name.1 ++ e) ++ (if knownB d (l[i]'hi4).type.name.1 then one (!isInputR d (l[i]'hi4).type.name.1) 10 (b ++ (l[i]'hi4).name.1 ++ e) else one true 8 (b ++ (l[i]'hi4).name.1 ++ e)) := by
        unfold inputF; rw [getD_eq l i hi4]
      have hsucc := inputsF_succ d l b e i
      rw [hm, ← hF] at hsucc
      have hlen := inputsF_len d l b e (i + 1)
      rw [hsucc] at hlen
      first
      | (refine hK5 _ (i + 1, F ++ names (l[i]'hi4).name.1 false (inputOf (l.take i) (l[i]'hi4).name.1).isSome (b ++ (l[i]'hi4).name.1 ++ e) ++ [⟨8, b ++ (l[i]'hi4).name.1 ++ e⟩]) (Weak.to (by repeat (first | exact Keeps.nil | refine Keeps.c rfl rfl ?_ | refine Keeps.c (by (first | (first | rfl | ((conv => lhs; whnf); first | (simp [cellsA, faultsT, faultsD, namesD, Fault.mk_c, Nat.add_assoc, empty_append, Bool.and_assoc]; done) | (simp [cellsA, faultsT, faultsD, namesD, Nat.add_assoc, empty_append, Bool.and_assoc]; repeat (first | rfl | constructor)))) | rfl | (simp only [get_same, ev]; done) | (simp [*, cellsA]; done) | (show V.a (A.d (D.slice _ _ _ _)) = V.a (A.d (D.slice _ _ _ _)); simp [*, cellsA]; done))) rfl ?_)) (by repeat (first | exact Pfx.nil | apply Pfx.cons)) (by first | rfl | (first | rfl | (simp only [Heap.set_set, List.length_append, List.length_nil, List.length_cons, List.length_map, List.length_singleton, Nat.zero_add]; done) | (simp [Heap.set_set, Nat.add_assoc]; done)) | (((funext n; simp only [Heap.set]; (repeat' split) <;> simp_all)) <;> first | rfl | exact ⟨rfl, rfl⟩))) ?_ (by dsimp only; omega)
         have h1 : (!knownB d (l[i]'hi4).type.name.1) = true := hc1
         have h2 : knownB d (l[i]'hi4).type.name.1 = false := by simpa using h1
         rw [h2] at hsucc hlen
         refine ⟨hi4, ?_, ?_⟩
         · rw [hsucc]; simp [one]
         · simp [one] at hlen ⊢; omega)
      | (refine hK5 _ (i + 1, F ++ names (l[i]'hi4).name.1 false (inputOf (l.take i) (l[i]'hi4).name.1).isSome (b ++ (l[i]'hi4).name.1 ++ e) ++ [⟨10, b ++ (l[i]'hi4).name.1 ++ e⟩]) (Weak.to (by repeat (first | exact Keeps.nil | refine Keeps.c rfl rfl ?_ | refine Keeps.c (by (first | (first | rfl | ((conv => lhs; whnf); first | (simp [cellsA, faultsT, faultsD, namesD, Fault.mk_c, Nat.add_assoc, empty_append, Bool.and_assoc]; done) | (simp [cellsA, faultsT, faultsD, namesD, Nat.add_assoc, empty_append, Bool.and_assoc]; repeat (first | rfl | constructor)))) | rfl | (simp only [get_same, ev]; done) | (simp [*, cellsA]; done) | (show V.a (A.d (D.slice _ _ _ _)) = V.a (A.d (D.slice _ _ _ _)); simp [*, cellsA]; done))) rfl ?_)) (by repeat (first | exact Pfx.nil | apply Pfx.cons)) (by first | rfl | (first | rfl | (simp only [Heap.set_set, List.length_append, List.length_nil, List.length_cons, List.length_map, List.length_singleton, Nat.zero_add]; done) | (simp [Heap.set_set, Nat.add_assoc]; done)) | (((funext n; simp only [Heap.set]; (repeat' split) <;> simp_all)) <;> first | rfl | exact ⟨rfl, rfl⟩))) ?_ (by dsimp only; omega)
         have h1 : (!knownB d (l[i]'hi4).type.name.1) = false := hc1
         have h2 : knownB d (l[i]'hi4).type.name.1 = true := by simpa using h1
         have h3 : (!isInputR d (l[i]'hi4).type.name.1) = true := hc2
         rw [h2, h3] at hsucc hlen
         refine ⟨hi4, ?_, ?_⟩
         · rw [hsucc]; simp [one]
         · simp [one] at hlen ⊢; omega)
      | (refine hK5 _ (i + 1, F ++ names (l[i]'hi4).name.1 false (inputOf (l.take i) (l[i]'hi4).name.1).isSome (b ++ (l[i]'hi4).name.1 ++ e)) (Weak.to (by repeat (first | exact Keeps.nil | refine Keeps.c rfl rfl ?_ | refine Keeps.c (by (first | (first | rfl | ((conv => lhs; whnf); first | (simp [cellsA, faultsT, faultsD, namesD, Fault.mk_c, Nat.add_assoc, empty_append, Bool.and_assoc]; done) | (simp [cellsA, faultsT, faultsD, namesD, Nat.add_assoc, empty_append, Bool.and_assoc]; repeat (first | rfl | constructor)))) | rfl | (simp only [get_same, ev]; done) | (simp [*, cellsA]; done) | (show V.a (A.d (D.slice _ _ _ _)) = V.a (A.d (D.slice _ _ _ _)); simp [*, cellsA]; done))) rfl ?_)) (by repeat (first | exact Pfx.nil | apply Pfx.cons)) (by first | rfl | (first | rfl | (simp only [Heap.set_set, List.length_append, List.length_nil, List.length_cons, List.length_map, List.length_singleton, Nat.zero_add]; done) | (simp [Heap.set_set, Nat.add_assoc]; done)) | (((funext n; simp only [Heap.set]; (repeat' split) <;> simp_all)) <;> first | rfl | exact ⟨rfl, rfl⟩))) ?_ (by dsimp only; omega)
         have h1 : (!knownB d (l[i]'hi4).type.name.1) = false := hc1
         have h2 : knownB d (l[i]'hi4).type.name.1 = true := by simpa using h1
         have h3 : (!isInputR d (l[i]'hi4).type.name.1) = false := hc2
         rw [h2, h3] at hsucc hlen
         refine ⟨hi4, ?_, ?_⟩
         · rw [hsucc]; simp [one]
         · simp [one] at hlen ⊢; omega)
    · first
      | (cases hc1; done)
      | skip
      refine AWp.seqK fun K13 hK13 => ?_
      refine AWp.draw rfl ?_
      refine DOps.s0 (Cert.loadV (Try.tab_ok _ _ rfl) rfl rfl rfl) rfl ?_
      refine DOps.s0 (Cert.move (by conv => lhs; whnf)) rfl ?_
      refine DOps.s0 (Cert.move (by conv => lhs; whnf)) rfl ?_
      refine DOps.s0 (Cert.indexA (Try.tab_ok _ _ rfl) rfl (Try.tab_ok _ _ rfl) rfl rfl rfl (by omega) (map_get (by assumption))) rfl ?_
      refine DOps.s0 (Cert.fieldV (Try.tab_ok _ _ rfl) rfl rfl (Try.tab_ok _ _ rfl) rfl rfl (by conv => lhs; whnf)) rfl ?_
      refine DOps.s0 (Cert.fieldV (Try.tab_ok _ _ rfl) rfl rfl (Try.tab_ok _ _ rfl) rfl rfl (by conv => lhs; whnf)) rfl ?_
      refine DOps.s0 (Cert.loadV (Try.tab_ok _ _ rfl) rfl rfl rfl) rfl ?_
      refine DOps.s0 (Cert.callP rfl rfl (ref_IsInput d (l[i]'hi3).type.name.1)) rfl ?_
      refine DOps.s0 (Cert.notB rfl) rfl ?_
      refine DOps.nil (by decide +kernel) ?_
      refine hK13 _ ?_
      clear hK13 K13
      refine AWp.cond rfl (fun hc2 => ?_) (fun hc2 => ?_)
      · first
        | (cases hc2; done)
        | skip
        refine AWp.region ?_
        refine AOps.s0 (Cert.move (by conv => lhs; whnf)) rfl ?_
        refine AOps.s0 (Cert.move (by conv => lhs; whnf)) rfl ?_
        refine AOps.s0 (Cert.build Try.tab_ok rfl rfl rfl rfl rfl rfl) rfl ?_
        refine AOps.s0 (Cert.buildSlice (Try.tab_ok _ _ rfl) rfl (Try.tab_ok _ _ rfl) rfl rfl rfl rfl rfl rfl) rfl ?_
        refine AOps.sH (Cert.append (Try.tab_ok _ _ rfl) rfl (Try.tab_ok _ _ rfl) (Try.tab_ok _ _ rfl) (.inl ⟨_, rfl⟩) rfl rfl (by decide) rfl rfl (by first | exact .inl rfl | exact .inr rfl) (by first | exact .inl rfl | exact .inr rfl) (by (first | assumption | exact Heap.set_same _ _ _ | ((repeat (refine (Heap.set_other _ _ (by first | assumption | (apply Ne.symm; assumption))).trans ?_)); first | assumption | exact Heap.set_same _ _ _) | (simp only [Heap.set_set, Heap.set_same]; done) | (simp [Heap.set, *]; done))) (by first | rfl | (simp; done)) (by (first | assumption | (simp [maxN]; done) | (simp [maxN]; omega) | (simp [maxN, Nat.add_mul] at *; omega))) (by (first | assumption | (simp [maxN]; done) | (simp [maxN]; omega) | (simp [maxN, Nat.add_mul] at *; omega)))) rfl ?_
        refine AOps.s0 (Cert.assign (by conv => lhs; whnf)) rfl ?_
        refine AOps.nil ?_
        refine hK8 _ ?_
        clear hK8 K8
        refine AWp.region ?_
        refine AOps.s0 (Cert.move (by conv => lhs; whnf)) rfl ?_
        refine AOps.s0 (Cert.addI rfl rfl (by first | omega | (dsimp only; omega)) (by first | omega | (dsimp only; omega))) rfl ?_
        refine AOps.s0 (Cert.assign (by conv => lhs; whnf)) rfl ?_
        refine AOps.nil ?_
        have hi4 : i < l.length := hi3
        have hm : inputF d l b e i = names (l[i]'hi4).name.1 false (inputOf (l.take i) (l[i]'hi4).name.1).isSome (b ++ (l[i]'hi4).name.1 ++ e) ++ (if knownB d (l[i]'hi4).type.name.1 then one (!isInputR d (l[i]'hi4).type.name.1) 10 (b ++ (l[i]'hi4).name.1 ++ e) else one true 8 (b ++ (l[i]'hi4).name.1 ++ e)) := by
          unfold inputF; rw [getD_eq l i hi4]
        have hsucc := inputsF_succ d l b e i
        rw [hm, ← hF] at hsucc
        have hlen := inputsF_len d l b e (i + 1)
        rw [hsucc] at hlen
        first
        | (refine hK5 _ (i + 1, F ++ names (l[i]'hi4).name.1 false (inputOf (l.take i) (l[i]'hi4).name.1).isSome (b ++ (l[i]'hi4).name.1 ++ e) ++ [⟨8, b ++ (l[i]'hi4).name.1 ++ e⟩]) (Weak.to (by repeat (first | exact Keeps.nil | refine Keeps.c rfl rfl ?_ | refine Keeps.c (by (first | (first | rfl | ((conv => lhs; whnf); first | (simp [cellsA, faultsT, faultsD, namesD, Fault.mk_c, Nat.add_assoc, empty_append, Bool.and_assoc]; done) | (simp [cellsA, faultsT, faultsD, namesD, Nat.add_assoc, empty_append, Bool.and_assoc]; repeat (first | rfl | constructor)))) | rfl | (simp only [get_same, ev]; done) | (simp [*, cellsA]; done) | (show V.a (A.d (D.slice _ _ _ _)) = V.a (A.d (D.slice _ _ _ _)); simp [*, cellsA]; done))) rfl ?_)) (by repeat (first | exact Pfx.nil | apply Pfx.cons)) (by first | rfl | (first | rfl | (simp only [Heap.set_set, List.length_append, List.length_nil, List.length_cons, List.length_map, List.length_singleton, Nat.zero_add]; done) | (simp [Heap.set_set, Nat.add_assoc]; done)) | (((funext n; simp only [Heap.set]; (repeat' split) <;> simp_all)) <;> first | rfl | exact ⟨rfl, rfl⟩))) ?_ (by dsimp only; omega)
           have h1 : (!knownB d (l[i]'hi4).type.name.1) = true := hc1
           have h2 : knownB d (l[i]'hi4).type.name.1 = false := by simpa using h1
           rw [h2] at hsucc hlen
           refine ⟨hi4, ?_, ?_⟩
           · rw [hsucc]; simp [one]
           · simp [one] at hlen ⊢; omega)
        | (refine hK5 _ (i + 1, F ++ names (l[i]'hi4).name.1 false (inputOf (l.take i) (l[i]'hi4).name.1).isSome (b ++ (l[i]'hi4).name.1 ++ e) ++ [⟨10, b ++ (l[i]'hi4).name.1 ++ e⟩]) (Weak.to (by repeat (first | exact Keeps.nil | refine Keeps.c rfl rfl ?_ | refine Keeps.c (by (first | (first | rfl | ((conv => lhs; whnf); first | (simp [cellsA, faultsT, faultsD, namesD, Fault.mk_c, Nat.add_assoc, empty_append, Bool.and_assoc]; done) | (simp [cellsA, faultsT, faultsD, namesD, Nat.add_assoc, empty_append, Bool.and_assoc]; repeat (first | rfl | constructor)))) | rfl | (simp only [get_same, ev]; done) | (simp [*, cellsA]; done) | (show V.a (A.d (D.slice _ _ _ _)) = V.a (A.d (D.slice _ _ _ _)); simp [*, cellsA]; done))) rfl ?_)) (by repeat (first | exact Pfx.nil | apply Pfx.cons)) (by first | rfl | (first | rfl | (simp only [Heap.set_set, List.length_append, List.length_nil, List.length_cons, List.length_map, List.length_singleton, Nat.zero_add]; done) | (simp [Heap.set_set, Nat.add_assoc]; done)) | (((funext n; simp only [Heap.set]; (repeat' split) <;> simp_all)) <;> first | rfl | exact ⟨rfl, rfl⟩))) ?_ (by dsimp only; omega)
           have h1 : (!knownB d (l[i]'hi4).type.name.1) = false := hc1
           have h2 : knownB d (l[i]'hi4).type.name.1 = true := by simpa using h1
           have h3 : (!isInputR d (l[i]'hi4).type.name.1) = true := hc2
           rw [h2, h3] at hsucc hlen
           refine ⟨hi4, ?_, ?_⟩
           · rw [hsucc]; simp [one]
           · simp [one] at hlen ⊢; omega)
        | (refine hK5 _ (i + 1, F ++ names (l[i]'hi4).name.1 false (inputOf (l.take i) (l[i]'hi4).name.1).isSome (b ++ (l[i]'hi4).name.1 ++ e)) (Weak.to (by repeat (first | exact Keeps.nil | refine Keeps.c rfl rfl ?_ | refine Keeps.c (by (first | (first | rfl | ((conv => lhs; whnf); first | (simp [cellsA, faultsT, faultsD, namesD, Fault.mk_c, Nat.add_assoc, empty_append, Bool.and_assoc]; done) | (simp [cellsA, faultsT, faultsD, namesD, Nat.add_assoc, empty_append, Bool.and_assoc]; repeat (first | rfl | constructor)))) | rfl | (simp only [get_same, ev]; done) | (simp [*, cellsA]; done) | (show V.a (A.d (D.slice _ _ _ _)) = V.a (A.d (D.slice _ _ _ _)); simp [*, cellsA]; done))) rfl ?_)) (by repeat (first | exact Pfx.nil | apply Pfx.cons)) (by first | rfl | (first | rfl | (simp only [Heap.set_set, List.length_append, List.length_nil, List.length_cons, List.length_map, List.length_singleton, Nat.zero_add]; done) | (simp [Heap.set_set, Nat.add_assoc]; done)) | (((funext n; simp only [Heap.set]; (repeat' split) <;> simp_all)) <;> first | rfl | exact ⟨rfl, rfl⟩))) ?_ (by dsimp only; omega)
           have h1 : (!knownB d (l[i]'hi4).type.name.1) = false := hc1
           have h2 : knownB d (l[i]'hi4).type.name.1 = true := by simpa using h1
           have h3 : (!isInputR d (l[i]'hi4).type.name.1) = false := hc2
           rw [h2, h3] at hsucc hlen
           refine ⟨hi4, ?_, ?_⟩
           · rw [hsucc]; simp [one]
           · simp [one] at hlen ⊢; omega)
      · first
        | (cases hc2; done)
        | skip
        refine AWp.skip ?_
        refine hK8 _ ?_
        clear hK8 K8
        refine AWp.region ?_
        refine AOps.s0 (Cert.move (by conv => lhs; whnf)) rfl ?_
        refine AOps.s0 (Cert.addI rfl rfl (by first | omega | (dsimp only; omega)) (by first | omega | (dsimp only; omega))) rfl ?_
        refine AOps.s0 (Cert.assign (by conv => lhs; whnf)) rfl ?_
        refine AOps.nil ?_
        have hi4 : i < l.length := hi3
        have hm : inputF d l b e i = names (l[i]'hi4).name.1 false (inputOf (l.take i) (l[i]'hi4).name.1).isSome (b ++ (l[i]'hi4).name.1 ++ e) ++ (if knownB d (l[i]'hi4).type.name.1 then one (!isInputR d (l[i]'hi4).type.name.1) 10 (b ++ (l[i]'hi4).name.1 ++ e) else one true 8 (b ++ (l[i]'hi4).name.1 ++ e)) := by
          unfold inputF; rw [getD_eq l i hi4]
        have hsucc := inputsF_succ d l b e i
        rw [hm, ← hF] at hsucc
        have hlen := inputsF_len d l b e (i + 1)
        rw [hsucc] at hlen
        first
        | (refine hK5 _ (i + 1, F ++ names (l[i]'hi4).name.1 false (inputOf (l.take i) (l[i]'hi4).name.1).isSome (b ++ (l[i]'hi4).name.1 ++ e) ++ [⟨8, b ++ (l[i]'hi4).name.1 ++ e⟩]) (Weak.to (by repeat (first | exact Keeps.nil | refine Keeps.c rfl rfl ?_ | refine Keeps.c (by (first | (first | rfl | ((conv => lhs; whnf); first | (simp [cellsA, faultsT, faultsD, namesD, Fault.mk_c, Nat.add_assoc, empty_append, Bool.and_assoc]; done) | (simp [cellsA, faultsT, faultsD, namesD, Nat.add_assoc, empty_append, Bool.and_assoc]; repeat (first | rfl | constructor)))) | rfl | (simp only [get_same, ev]; done) | (simp [*, cellsA]; done) | (show V.a (A.d (D.slice _ _ _ _)) = V.a (A.d (D.slice _ _ _ _)); simp [*, cellsA]; done))) rfl ?_)) (by repeat (first | exact Pfx.nil | apply Pfx.cons)) (by first | rfl | (first | rfl | (simp only [Heap.set_set, List.length_append, List.length_nil, List.length_cons, List.length_map, List.length_singleton, Nat.zero_add]; done) | (simp [Heap.set_set, Nat.add_assoc]; done)) | (((funext n; simp only [Heap.set]; (repeat' split) <;> simp_all)) <;> first | rfl | exact ⟨rfl, rfl⟩))) ?_ (by dsimp only; omega)
           have h1 : (!knownB d (l[i]'hi4).type.name.1) = true := hc1
           have h2 : knownB d (l[i]'hi4).type.name.1 = false := by simpa using h1
           rw [h2] at hsucc hlen
           refine ⟨hi4, ?_, ?_⟩
           · rw [hsucc]; simp [one]
           · simp [one] at hlen ⊢; omega)
        | (refine hK5 _ (i + 1, F ++ names (l[i]'hi4).name.1 false (inputOf (l.take i) (l[i]'hi4).name.1).isSome (b ++ (l[i]'hi4).name.1 ++ e) ++ [⟨10, b ++ (l[i]'hi4).name.1 ++ e⟩]) (Weak.to (by repeat (first | exact Keeps.nil | refine Keeps.c rfl rfl ?_ | refine Keeps.c (by (first | (first | rfl | ((conv => lhs; whnf); first | (simp [cellsA, faultsT, faultsD, namesD, Fault.mk_c, Nat.add_assoc, empty_append, Bool.and_assoc]; done) | (simp [cellsA, faultsT, faultsD, namesD, Nat.add_assoc, empty_append, Bool.and_assoc]; repeat (first | rfl | constructor)))) | rfl | (simp only [get_same, ev]; done) | (simp [*, cellsA]; done) | (show V.a (A.d (D.slice _ _ _ _)) = V.a (A.d (D.slice _ _ _ _)); simp [*, cellsA]; done))) rfl ?_)) (by repeat (first | exact Pfx.nil | apply Pfx.cons)) (by first | rfl | (first | rfl | (simp only [Heap.set_set, List.length_append, List.length_nil, List.length_cons, List.length_map, List.length_singleton, Nat.zero_add]; done) | (simp [Heap.set_set, Nat.add_assoc]; done)) | (((funext n; simp only [Heap.set]; (repeat' split) <;> simp_all)) <;> first | rfl | exact ⟨rfl, rfl⟩))) ?_ (by dsimp only; omega)
           have h1 : (!knownB d (l[i]'hi4).type.name.1) = false := hc1
           have h2 : knownB d (l[i]'hi4).type.name.1 = true := by simpa using h1
           have h3 : (!isInputR d (l[i]'hi4).type.name.1) = true := hc2
           rw [h2, h3] at hsucc hlen
           refine ⟨hi4, ?_, ?_⟩
           · rw [hsucc]; simp [one]
           · simp [one] at hlen ⊢; omega)
        | (refine hK5 _ (i + 1, F ++ names (l[i]'hi4).name.1 false (inputOf (l.take i) (l[i]'hi4).name.1).isSome (b ++ (l[i]'hi4).name.1 ++ e)) (Weak.to (by repeat (first | exact Keeps.nil | refine Keeps.c rfl rfl ?_ | refine Keeps.c (by (first | (first | rfl | ((conv => lhs; whnf); first | (simp [cellsA, faultsT, faultsD, namesD, Fault.mk_c, Nat.add_assoc, empty_append, Bool.and_assoc]; done) | (simp [cellsA, faultsT, faultsD, namesD, Nat.add_assoc, empty_append, Bool.and_assoc]; repeat (first | rfl | constructor)))) | rfl | (simp only [get_same, ev]; done) | (simp [*, cellsA]; done) | (show V.a (A.d (D.slice _ _ _ _)) = V.a (A.d (D.slice _ _ _ _)); simp [*, cellsA]; done))) rfl ?_)) (by repeat (first | exact Pfx.nil | apply Pfx.cons)) (by first | rfl | (first | rfl | (simp only [Heap.set_set, List.length_append, List.length_nil, List.length_cons, List.length_map, List.length_singleton, Nat.zero_add]; done) | (simp [Heap.set_set, Nat.add_assoc]; done)) | (((funext n; simp only [Heap.set]; (repeat' split) <;> simp_all)) <;> first | rfl | exact ⟨rfl, rfl⟩))) ?_ (by dsimp only; omega)
           have h1 : (!knownB d (l[i]'hi4).type.name.1) = false := hc1
           have h2 : knownB d (l[i]'hi4).type.name.1 = true := by simpa using h1
           have h3 : (!isInputR d (l[i]'hi4).type.name.1) = false := hc2
           rw [h2, h3] at hsucc hlen
           refine ⟨hi4, ?_, ?_⟩
           · rw [hsucc]; simp [one]
           · simp [one] at hlen ⊢; omega)
  · first
    | (cases hc0; done)
    | skip
    refine AWp.exit ?_
    refine hK3 _ ?_
    clear hK6 K6 hK5 K5 hK3 K3
    refine AWp.dropTok 9 rfl ?_
    refine AWp.seqK fun K14 hK14 => ?_
    refine AWp.region ?_
    refine AOps.s0 (Cert.move (by conv => lhs; whnf)) rfl ?_
    refine AOps.s0 (Cert.assign (by conv => lhs; whnf)) rfl ?_
    refine AOps.nil ?_
    refine hK14 _ ?_
    clear hK14 K14
    refine AWp.ret ?_
    repeat (first | refine xBlock_ret ?_ | refine xThen_ret ?_)
    have h1 := map_ge hc0
    have h2 : i = l.length := Nat.le_antisymm hi h1
    subst h2
    rw [hF]
    exact retQ.retF H rfl ⟨rfl, rfl⟩ (Heap.sub_set htk)
end Go.Proofs


namespace Go.Proofs
open Go Go.Ab Go.Ab.Sch
set_option maxRecDepth 100000 in
set_option maxHeartbeats 1000000 in
theorem ref_whole (d : Doc) (hs : Small d) (i : Nat) (hi : i < d.defs.l.length) (H : Heap) :
    ACalls Try.prog 31 [.agg d.c, .d (.int .i64 i)] H fun r h' => r = .a (.d (faultsD (wholeF d i d.defs.l[i]))) ∧ h' = H := by
  refine ACalls.of_wp (fn := Try.f31) (c := _) Try.tab_ok (fun _ _ => Try.call31 _ _) Try.func31 rfl (n := 94) rfl (rs := [.tmp 4]) rfl rfl ?_
  refine AWp.seqK fun K1 hK1 => ?_
  refine AWp.region ?_
  refine AOps.s0 (Cert.boxV rfl) rfl ?_
  refine AOps.s0 (Cert.assign (by conv => lhs; whnf)) rfl ?_
  refine AOps.nil ?_
  refine hK1 _ ?_
  clear hK1 K1
  refine AWp.seqK fun K2 hK2 => ?_
  refine AWp.region ?_
  have hd := hs.defs
  refine AOps.s0 (Cert.fieldV (Try.tab_ok _ _ rfl) rfl rfl (Try.tab_ok _ _ rfl) rfl rfl (by conv => lhs; whnf)) rfl ?_
  refine AOps.s0 (Cert.loadV (Try.tab_ok _ _ rfl) rfl rfl rfl) rfl ?_
  refine AOps.s0 (Cert.move (by conv => lhs; whnf)) rfl ?_
  refine AOps.s0 (Cert.indexA (Try.tab_ok _ _ rfl) rfl (Try.tab_ok _ _ rfl) rfl rfl rfl (by omega) (map_get' hi)) rfl ?_
  refine AOps.s0 (Cert.loadV (Try.tab_ok _ _ rfl) rfl rfl rfl) rfl ?_
  refine AOps.sL (Cert.allocL (Try.tab_ok _ _ rfl) rfl (by repeat (first | exact Snoc.nil | apply Snoc.cons))) rfl ?_
  refine AOps.sLn (Cert.storeLF (Try.tab_ok _ _ rfl) rfl rfl rfl rfl rfl (by repeat (first | exact SetAt.zero | apply SetAt.succ))) ?_
  refine AOps.nil ?_
  refine hK2 _ ?_
  clear hK2 K2
  refine AWp.freeze 5 _ rfl (by repeat (first | exact Snoc.nil | apply Snoc.cons)) (Keeps.c (k := 1) (by conv => lhs; whnf) (by rfl) (Keeps.c (k := 2) (by conv => lhs; whnf) (by rfl) Keeps.nil)) ?_
  refine AWp.seqK fun K3 hK3 => ?_
  refine AWp.region ?_
  refine AOps.s0 (Cert.fieldV (Try.tab_ok _ _ rfl) rfl rfl (Try.tab_ok _ _ rfl) rfl rfl (by conv => lhs; whnf)) rfl ?_
  refine AOps.s0 (Cert.loadV (Try.tab_ok _ _ rfl) rfl rfl rfl) rfl ?_
  refine AOps.s0 (Cert.callP rfl rfl (ref_Scalar _)) rfl ?_
  refine AOps.s0 (Cert.assign (by conv => lhs; whnf)) rfl ?_
  refine AOps.nil ?_
  refine hK3 _ ?_
  clear hK3 K3
  refine AWp.seqK fun K4 hK4 => ?_
  refine AWp.seqK fun K5 hK5 => ?_
  refine AWp.region ?_
  refine AOps.s0 (Cert.assign (by conv => lhs; whnf)) rfl ?_
  refine AOps.nil ?_
  refine hK5 _ ?_
  clear hK5 K5
  refine AWp.block ?_
  refine AWp.loopC (KeepsT.cons (k := 1) (by conv => lhs; whnf) (KeepsT.cons (k := 2) (by conv => lhs; whnf) (KeepsT.cons (k := 5) (by conv => lhs; whnf) KeepsT.nil))) (fun (x : Nat × Bool) => [(7, .a (.d (.int .i64 x.1))), (6, .a (.d (.bool x.2)))])
    (fun x => i - x.1) (fun x => x.1 ≤ i ∧ x.2 = (scalar d.defs.l[i].name.1 || seenB d x.1 d.defs.l[i].name.1)) (0, scalar d.defs.l[i].name.1) ⟨Nat.zero_le _, by simp [seenB]⟩ (Weak.to (by repeat (first | exact Keeps.nil | refine Keeps.c rfl rfl ?_ | refine Keeps.c (by (first | (first | rfl | ((conv => lhs; whnf); first | (simp [cellsA, faultsT, faultsD, namesD, Fault.mk_c, Nat.add_assoc, empty_append, Bool.and_assoc]; done) | (simp [cellsA, faultsT, faultsD, namesD, Nat.add_assoc, empty_append, Bool.and_assoc]; repeat (first | rfl | constructor)))) | rfl | (simp only [get_same, ev]; done) | (simp [*, cellsA]; done) | (show V.a (A.d (D.slice _ _ _ _)) = V.a (A.d (D.slice _ _ _ _)); simp [*, cellsA]; done))) rfl ?_)) (by repeat (first | exact Pfx.nil | apply Pfx.cons)) (by first | rfl | (first | rfl | (simp only [Heap.set_set, List.length_append, List.length_nil, List.length_cons, List.length_map, List.length_singleton, Nat.zero_add]; done) | (simp [Heap.set_set, Nat.add_assoc]; done)) | (((funext n; simp only [Heap.set]; (repeat' split) <;> simp_all)) <;> first | rfl | exact ⟨rfl, rfl⟩))) ?_
  rintro ⟨k, B⟩ ⟨hk, hB⟩ K6 hK6
  dsimp only at hk hB
  refine AWp.seqK fun K7 hK7 => ?_
  refine AWp.seqK fun K8 hK8 => ?_
  refine AWp.region ?_
  refine AOps.s0 (Cert.move (by conv => lhs; whnf)) rfl ?_
  refine AOps.s0 (Cert.move (by conv => lhs; whnf)) rfl ?_
  refine AOps.s0 (Cert.binI rfl rfl rfl) rfl ?_
  refine AOps.nil ?_
  refine hK8 _ ?_
  clear hK8 K8
  refine AWp.cond rfl (fun hc0 => ?_) (fun hc0 => ?_)
  · first
    | (cases hc0; done)
    | skip
    refine AWp.skip ?_
    refine hK7 _ ?_
    clear hK7 K7
    refine AWp.seqK fun K9 hK9 => ?_
    refine AWp.block ?_
    refine AWp.draw rfl ?_
    have hk3 : k < d.defs.l.length := by have := of_decide_eq_true hc0; dsimp only at this; omega
    refine DOps.s0 (Cert.move (by conv => lhs; whnf)) rfl ?_
    refine DOps.s0 (Cert.move (by conv => lhs; whnf)) rfl ?_
    refine DOps.gC rfl rfl (fun hC => Cert.fieldV (Try.tab_ok _ _ rfl) rfl rfl (Try.tab_ok _ _ rfl) rfl rfl (by conv => lhs; whnf)) rfl ?_
    refine DOps.gC rfl rfl (fun hC => Cert.ungd (k := 25) rfl (by first | exact hC | exact andL hC | exact andL (andL hC) | exact andL (andL (andL hC)) | exact andR hC | simp_all) (Cert.loadV (Try.tab_ok _ _ rfl) rfl rfl rfl)) rfl ?_
    refine DOps.gC rfl rfl (fun hC => Cert.move (by conv => lhs; whnf)) rfl ?_
    refine DOps.gC rfl rfl (fun hC => Cert.ungd (k := 26) rfl (by first | exact hC | exact andL hC | exact andL (andL hC) | exact andL (andL (andL hC)) | exact andR hC | simp_all) (Cert.ungd (k := 27) rfl (by first | exact hC | exact andL hC | exact andL (andL hC) | exact andL (andL (andL hC)) | exact andR hC | simp_all) (Cert.indexA (Try.tab_ok _ _ rfl) rfl (Try.tab_ok _ _ rfl) rfl rfl rfl (by omega) (map_get' hk3)))) rfl ?_
    refine DOps.gC rfl rfl (fun hC => Cert.ungd (k := 28) rfl (by first | exact hC | exact andL hC | exact andL (andL hC) | exact andL (andL (andL hC)) | exact andR hC | simp_all) (Cert.fieldV (Try.tab_ok _ _ rfl) rfl rfl (Try.tab_ok _ _ rfl) rfl rfl (by conv => lhs; whnf))) rfl ?_
    refine DOps.gC rfl rfl (fun hC => Cert.ungd (k := 29) rfl (by first | exact hC | exact andL hC | exact andL (andL hC) | exact andL (andL (andL hC)) | exact andR hC | simp_all) (Cert.loadV (Try.tab_ok _ _ rfl) rfl rfl rfl)) rfl ?_
    refine DOps.gC rfl rfl (fun hC => Cert.fieldV (Try.tab_ok _ _ rfl) rfl rfl (Try.tab_ok _ _ rfl) rfl rfl (by conv => lhs; whnf)) rfl ?_
    refine DOps.gC rfl rfl (fun hC => Cert.ungd (k := 31) rfl (by first | exact hC | exact andL hC | exact andL (andL hC) | exact andL (andL (andL hC)) | exact andR hC | simp_all) (Cert.loadV (Try.tab_ok _ _ rfl) rfl rfl rfl)) rfl ?_
    refine DOps.gC rfl rfl (fun hC => Cert.ungd (k := 30) rfl (by first | exact hC | exact andL hC | exact andL (andL hC) | exact andL (andL (andL hC)) | exact andR hC | simp_all) (Cert.ungd (k := 32) rfl (by first | exact hC | exact andL hC | exact andL (andL hC) | exact andL (andL (andL hC)) | exact andR hC | simp_all) (Cert.binS rfl rfl rfl))) rfl ?_
    refine DOps.s0 (Cert.pickOr rfl rfl rfl (fun h => by first | exact h | exact notT h | exact andI hC h | exact andI hC (notT h) | simp_all)) rfl ?_
    refine DOps.s0 (Cert.assign (by conv => lhs; whnf)) rfl ?_
    refine DOps.nil (by decide +kernel) ?_
    refine hK9 _ ?_
    clear hK9 K9
    refine AWp.region ?_
    refine AOps.s0 (Cert.move (by conv => lhs; whnf)) rfl ?_
    refine AOps.s0 (Cert.addI rfl rfl (by first | omega | (dsimp only; omega)) (by first | omega | (dsimp only; omega))) rfl ?_
    refine AOps.s0 (Cert.assign (by conv => lhs; whnf)) rfl ?_
    refine AOps.nil ?_
    have hk4 := of_decide_eq_true hc0
    dsimp only at hk4
    refine hK6 _ (k + 1, (B || d.defs.l[k].name.1 == d.defs.l[i].name.1)) (Weak.to (by repeat (first | exact Keeps.nil | refine Keeps.c rfl rfl ?_ | refine Keeps.c (by (first | (first | rfl | ((conv => lhs; whnf); first | (simp [cellsA, faultsT, faultsD, namesD, Fault.mk_c, Nat.add_assoc, empty_append, Bool.and_assoc]; done) | (simp [cellsA, faultsT, faultsD, namesD, Nat.add_assoc, empty_append, Bool.and_assoc]; repeat (first | rfl | constructor)))) | rfl | (simp only [get_same, ev]; done) | (simp [*, cellsA]; done) | (show V.a (A.d (D.slice _ _ _ _)) = V.a (A.d (D.slice _ _ _ _)); simp [*, cellsA]; done))) rfl ?_)) (by repeat (first | exact Pfx.nil | apply Pfx.cons)) (by first | rfl | (first | rfl | (simp only [Heap.set_set, List.length_append, List.length_nil, List.length_cons, List.length_map, List.length_singleton, Nat.zero_add]; done) | (simp [Heap.set_set, Nat.add_assoc]; done)) | (((funext n; simp only [Heap.set]; (repeat' split) <;> simp_all)) <;> first | rfl | exact ⟨rfl, rfl⟩))) ⟨by dsimp only; omega, ?_⟩ (by dsimp only; omega)
    dsimp only
    rw [seenB_succ d k _ hk3, hB, Bool.or_assoc]
  · first
    | (cases hc0; done)
    | skip
    refine AWp.exit ?_
    refine hK4 _ ?_
    clear hK7 K7 hK6 K6 hK4 K4
    refine AWp.seqK fun K10 hK10 => ?_
    refine AWp.region ?_
    refine AOps.s0 (Cert.fieldV (Try.tab_ok _ _ rfl) rfl rfl (Try.tab_ok _ _ rfl) rfl rfl (by conv => lhs; whnf)) rfl ?_
    refine AOps.s0 (Cert.loadV (Try.tab_ok _ _ rfl) rfl rfl rfl) rfl ?_
    refine AOps.s0 (Cert.move (by conv => lhs; whnf)) rfl ?_
    refine AOps.s0 (Cert.fieldV (Try.tab_ok _ _ rfl) rfl rfl (Try.tab_ok _ _ rfl) rfl rfl (by conv => lhs; whnf)) rfl ?_
    refine AOps.s0 (Cert.loadV (Try.tab_ok _ _ rfl) rfl rfl rfl) rfl ?_
    refine AOps.sE (StepE.call rfl rfl (ref_namesT d.defs.l[i].name.1 false B d.defs.l[i].name.1 H)) rfl (fun _ _ _ ⟨⟨tk, htk, e1, e2⟩, e3⟩ => ?_); subst e1 e2 e3
    refine AOps.s0 (Cert.assign (by conv => lhs; whnf)) rfl ?_
    refine AOps.nil ?_
    refine hK10 _ ?_
    clear hK10 K10
    refine AWp.seqJH (KeepsT.cons (k := 2) (by conv => lhs; whnf) (KeepsT.cons (k := 5) (by conv => lhs; whnf) KeepsT.nil)) (fun (F : List Fault) => [(8, .a (.d (faultsT tk F)))]) (fun F => H.set tk (some (.tok 2 F.length))) (fun F => F = names d.defs.l[i].name.1 false B d.defs.l[i].name.1 ++ one (emptyB d.defs.l[i]) 8 d.defs.l[i].name.1) ?_ ?_
    · intro K11 hK11
      refine AWp.seqK fun K12 hK12 => ?_
      refine AWp.region ?_
      have hn := names_len d.defs.l[i].name.1 false B d.defs.l[i].name.1
      refine AOps.s0 (Cert.loadV (Try.tab_ok _ _ rfl) rfl rfl rfl) rfl ?_
      refine AOps.s0 (Cert.callP rfl rfl (ref_empty _)) rfl ?_
      refine AOps.nil ?_
      refine hK12 _ ?_
      clear hK12 K12
      refine AWp.cond rfl (fun hc1 => ?_) (fun hc1 => ?_)
      · first
        | (cases hc1; done)
        | skip
        refine AWp.region ?_
        refine AOps.s0 (Cert.move (by conv => lhs; whnf)) rfl ?_
        refine AOps.s0 (Cert.fieldV (Try.tab_ok _ _ rfl) rfl rfl (Try.tab_ok _ _ rfl) rfl rfl (by conv => lhs; whnf)) rfl ?_
        refine AOps.s0 (Cert.loadV (Try.tab_ok _ _ rfl) rfl rfl rfl) rfl ?_
        refine AOps.s0 (Cert.build Try.tab_ok rfl rfl rfl rfl rfl rfl) rfl ?_
        refine AOps.s0 (Cert.buildSlice (Try.tab_ok _ _ rfl) rfl (Try.tab_ok _ _ rfl) rfl rfl rfl rfl rfl rfl) rfl ?_
        refine AOps.sH (Cert.append (Try.tab_ok _ _ rfl) rfl (Try.tab_ok _ _ rfl) (Try.tab_ok _ _ rfl) (.inl ⟨_, rfl⟩) rfl rfl (by decide) rfl rfl (by first | exact .inl rfl | exact .inr rfl) (by first | exact .inl rfl | exact .inr rfl) (by (first | assumption | exact Heap.set_same _ _ _ | ((repeat (refine (Heap.set_other _ _ (by first | assumption | (apply Ne.symm; assumption))).trans ?_)); first | assumption | exact Heap.set_same _ _ _) | (simp only [Heap.set_set, Heap.set_same]; done) | (simp [Heap.set, *]; done))) (by first | rfl | (simp; done)) (by (first | assumption | (simp [maxN]; done) | (simp [maxN]; omega) | (simp [maxN, Nat.add_mul] at *; omega))) (by (first | assumption | (simp [maxN]; done) | (simp [maxN]; omega) | (simp [maxN, Nat.add_mul] at *; omega)))) rfl ?_
        refine AOps.s0 (Cert.assign (by conv => lhs; whnf)) rfl ?_
        refine AOps.nil ?_
        first
        | exact hK11 _ (names d.defs.l[i].name.1 false B d.defs.l[i].name.1 ++ [⟨8, d.defs.l[i].name.1⟩]) (Weak.to (by repeat (first | exact Keeps.nil | refine Keeps.c rfl rfl ?_ | refine Keeps.c (by (first | (first | rfl | ((conv => lhs; whnf); first | (simp [cellsA, faultsT, faultsD, namesD, Fault.mk_c, Nat.add_assoc, empty_append, Bool.and_assoc]; done) | (simp [cellsA, faultsT, faultsD, namesD, Nat.add_assoc, empty_append, Bool.and_assoc]; repeat (first | rfl | constructor)))) | rfl | (simp only [get_same, ev]; done) | (simp [*, cellsA]; done) | (show V.a (A.d (D.slice _ _ _ _)) = V.a (A.d (D.slice _ _ _ _)); simp [*, cellsA]; done))) rfl ?_)) (by repeat (first | exact Pfx.nil | apply Pfx.cons)) (by first | rfl | (first | rfl | (simp only [Heap.set_set, List.length_append, List.length_nil, List.length_cons, List.length_map, List.length_singleton, Nat.zero_add]; done) | (simp [Heap.set_set, Nat.add_assoc]; done)) | (((funext n; simp only [Heap.set]; (repeat' split) <;> simp_all)) <;> first | rfl | exact ⟨rfl, rfl⟩))) (by rw [hc1]; rfl)
        | exact hK11 _ (names d.defs.l[i].name.1 false B d.defs.l[i].name.1) (Weak.to (by repeat (first | exact Keeps.nil | refine Keeps.c rfl rfl ?_ | refine Keeps.c (by (first | (first | rfl | ((conv => lhs; whnf); first | (simp [cellsA, faultsT, faultsD, namesD, Fault.mk_c, Nat.add_assoc, empty_append, Bool.and_assoc]; done) | (simp [cellsA, faultsT, faultsD, namesD, Nat.add_assoc, empty_append, Bool.and_assoc]; repeat (first | rfl | constructor)))) | rfl | (simp only [get_same, ev]; done) | (simp [*, cellsA]; done) | (show V.a (A.d (D.slice _ _ _ _)) = V.a (A.d (D.slice _ _ _ _)); simp [*, cellsA]; done))) rfl ?_)) (by repeat (first | exact Pfx.nil | apply Pfx.cons)) (by first | rfl | (first | rfl | (simp only [Heap.set_set, List.length_append, List.length_nil, List.length_cons, List.length_map, List.length_singleton, Nat.zero_add]; done) | (simp [Heap.set_set, Nat.add_assoc]; done)) | (((funext n; simp only [Heap.set]; (repeat' split) <;> simp_all)) <;> first | rfl | exact ⟨rfl, rfl⟩))) (by rw [hc1]; simp [one])
      · first
        | (cases hc1; done)
        | skip
        refine AWp.skip ?_
        first
        | exact hK11 _ (names d.defs.l[i].name.1 false B d.defs.l[i].name.1 ++ [⟨8, d.defs.l[i].name.1⟩]) (Weak.to (by repeat (first | exact Keeps.nil | refine Keeps.c rfl rfl ?_ | refine Keeps.c (by (first | (first | rfl | ((conv => lhs; whnf); first | (simp [cellsA, faultsT, faultsD, namesD, Fault.mk_c, Nat.add_assoc, empty_append, Bool.and_assoc]; done) | (simp [cellsA, faultsT, faultsD, namesD, Nat.add_assoc, empty_append, Bool.and_assoc]; repeat (first | rfl | constructor)))) | rfl | (simp only [get_same, ev]; done) | (simp [*, cellsA]; done) | (show V.a (A.d (D.slice _ _ _ _)) = V.a (A.d (D.slice _ _ _ _)); simp [*, cellsA]; done))) rfl ?_)) (by repeat (first | exact Pfx.nil | apply Pfx.cons)) (by first | rfl | (first | rfl | (simp only [Heap.set_set, List.length_append, List.length_nil, List.length_cons, List.length_map, List.length_singleton, Nat.zero_add]; done) | (simp [Heap.set_set, Nat.add_assoc]; done)) | (((funext n; simp only [Heap.set]; (repeat' split) <;> simp_all)) <;> first | rfl | exact ⟨rfl, rfl⟩))) (by rw [hc1]; rfl)
        | exact hK11 _ (names d.defs.l[i].name.1 false B d.defs.l[i].name.1) (Weak.to (by repeat (first | exact Keeps.nil | refine Keeps.c rfl rfl ?_ | refine Keeps.c (by (first | (first | rfl | ((conv => lhs; whnf); first | (simp [cellsA, faultsT, faultsD, namesD, Fault.mk_c, Nat.add_assoc, empty_append, Bool.and_assoc]; done) | (simp [cellsA, faultsT, faultsD, namesD, Nat.add_assoc, empty_append, Bool.and_assoc]; repeat (first | rfl | constructor)))) | rfl | (simp only [get_same, ev]; done) | (simp [*, cellsA]; done) | (show V.a (A.d (D.slice _ _ _ _)) = V.a (A.d (D.slice _ _ _ _)); simp [*, cellsA]; done))) rfl ?_)) (by repeat (first | exact Pfx.nil | apply Pfx.cons)) (by first | rfl | (first | rfl | (simp only [Heap.set_set, List.length_append, List.length_nil, List.length_cons, List.length_map, List.length_singleton, Nat.zero_add]; done) | (simp [Heap.set_set, Nat.add_assoc]; done)) | (((funext n; simp only [Heap.set]; (repeat' split) <;> simp_all)) <;> first | rfl | exact ⟨rfl, rfl⟩))) (by rw [hc1]; simp [one])
    · intro F1 hF1
      have hl1 : F1.length ≤ 3 := by rw [hF1, List.length_append]; have := names_len d.defs.l[i].name.1 false B d.defs.l[i].name.1; have := one_len (emptyB d.defs.l[i]) 8 d.defs.l[i].name.1; omega
      refine AWp.seqK fun K13 hK13 => ?_
      refine AWp.region ?_
      refine AOps.s0 (Cert.fieldV (Try.tab_ok _ _ rfl) rfl rfl (Try.tab_ok _ _ rfl) rfl rfl (by conv => lhs; whnf)) rfl ?_
      refine AOps.s0 (Cert.loadV (Try.tab_ok _ _ rfl) rfl rfl rfl) rfl ?_
      refine AOps.s0 (Cert.binS rfl rfl rfl) rfl ?_
      refine AOps.s0 (Cert.move (by conv => lhs; whnf)) rfl ?_
      refine AOps.gC rfl rfl (fun hC => Cert.fieldV (Try.tab_ok _ _ rfl) rfl rfl (Try.tab_ok _ _ rfl) rfl rfl (by conv => lhs; whnf)) rfl ?_
      refine AOps.gC rfl rfl (fun hC => Cert.ungd (k := 53) rfl (by first | exact hC | exact andL hC | exact andL (andL hC) | exact andL (andL (andL hC)) | exact andR hC | simp_all) (Cert.loadV (Try.tab_ok _ _ rfl) rfl rfl rfl)) rfl ?_
      refine AOps.gC rfl rfl (fun hC => Cert.ungd (k := 54) rfl (by first | exact hC | exact andL hC | exact andL (andL hC) | exact andL (andL (andL hC)) | exact andR hC | simp_all) (Cert.binS rfl rfl rfl)) rfl ?_
      refine AOps.s0 (Cert.pickOr rfl rfl rfl (fun h => by first | exact h | exact notT h | exact andI hC h | exact andI hC (notT h) | simp_all)) rfl ?_
      refine AOps.s0 (Cert.move (by conv => lhs; whnf)) rfl ?_
      refine AOps.gC rfl rfl (fun hC => Cert.fieldV (Try.tab_ok _ _ rfl) rfl rfl (Try.tab_ok _ _ rfl) rfl rfl (by conv => lhs; whnf)) rfl ?_
      refine AOps.gC rfl rfl (fun hC => Cert.ungd (k := 58) rfl (by first | exact hC | exact andL hC | exact andL (andL hC) | exact andL (andL (andL hC)) | exact andR hC | simp_all) (Cert.loadV (Try.tab_ok _ _ rfl) rfl rfl rfl)) rfl ?_
      refine AOps.gC rfl rfl (fun hC => Cert.ungd (k := 59) rfl (by first | exact hC | exact andL hC | exact andL (andL hC) | exact andL (andL (andL hC)) | exact andR hC | simp_all) (Cert.binS rfl rfl rfl)) rfl ?_
      refine AOps.s0 (Cert.pickOr rfl rfl rfl (fun h => by first | exact h | exact notT h | exact andI hC h | exact andI hC (notT h) | simp_all)) rfl ?_
      refine AOps.s0 (Cert.assign (by conv => lhs; whnf)) rfl ?_
      refine AOps.nil ?_
      refine hK13 _ ?_
      clear hK13 K13
      refine AWp.seqJH (KeepsT.cons (k := 2) (by conv => lhs; whnf) (KeepsT.cons (k := 5) (by conv => lhs; whnf) (KeepsT.cons (k := 9) (by conv => lhs; whnf) KeepsT.nil))) (fun (F : List Fault) => [(8, .a (.d (faultsT tk F)))]) (fun F => H.set tk (some (.tok 2 F.length))) (fun F => F = F1 ++ one (kindBad d.defs.l[i]) 9 d.defs.l[i].name.1) ?_ ?_
      · intro K14 hK14
        refine AWp.seqK fun K15 hK15 => ?_
        refine AWp.region ?_
        refine AOps.s0 (Cert.move (by conv => lhs; whnf)) rfl ?_
        refine AOps.s0 (Cert.move (by conv => lhs; whnf)) rfl ?_
        refine AOps.gC rfl rfl (fun hC => Cert.fieldV (Try.tab_ok _ _ rfl) rfl rfl (Try.tab_ok _ _ rfl) rfl rfl (by conv => lhs; whnf)) rfl ?_
        refine AOps.gC rfl rfl (fun hC => Cert.ungd (k := 64) rfl (by first | exact hC | exact andL hC | exact andL (andL hC) | exact andL (andL (andL hC)) | exact andR hC | simp_all) (Cert.loadV (Try.tab_ok _ _ rfl) rfl rfl rfl)) rfl ?_
        refine AOps.gC rfl rfl (fun hC => Cert.ungd (k := 65) rfl (by first | exact hC | exact andL hC | exact andL (andL hC) | exact andL (andL (andL hC)) | exact andR hC | simp_all) (Cert.binI rfl rfl rfl)) rfl ?_
        refine AOps.s0 (Cert.pickAnd rfl rfl (fun h => by first | exact h | exact notT h | exact andI hC h | exact andI hC (notT h) | simp_all) rfl) rfl ?_
        refine AOps.s0 (Cert.move (by conv => lhs; whnf)) rfl ?_
        refine AOps.gC rfl rfl (fun hC => Cert.fieldV (Try.tab_ok _ _ rfl) rfl rfl (Try.tab_ok _ _ rfl) rfl rfl (by conv => lhs; whnf)) rfl ?_
        refine AOps.gC rfl rfl (fun hC => Cert.ungd (k := 69) rfl (by first | exact hC | exact andL hC | exact andL (andL hC) | exact andL (andL (andL hC)) | exact andR hC | simp_all) (Cert.loadV (Try.tab_ok _ _ rfl) rfl rfl rfl)) rfl ?_
        refine AOps.gC rfl rfl (fun hC => Cert.ungd (k := 70) rfl (by first | exact hC | exact andL hC | exact andL (andL hC) | exact andL (andL (andL hC)) | exact andR hC | simp_all) (Cert.binI rfl rfl rfl)) rfl ?_
        refine AOps.s0 (Cert.pickOr rfl rfl rfl (fun h => by first | exact h | exact notT h | exact andI hC h | exact andI hC (notT h) | simp_all)) rfl ?_
        refine AOps.s0 (Cert.move (by conv => lhs; whnf)) rfl ?_
        refine AOps.gC rfl rfl (fun hC => Cert.fieldV (Try.tab_ok _ _ rfl) rfl rfl (Try.tab_ok _ _ rfl) rfl rfl (by conv => lhs; whnf)) rfl ?_
        refine AOps.gC rfl rfl (fun hC => Cert.ungd (k := 74) rfl (by first | exact hC | exact andL hC | exact andL (andL hC) | exact andL (andL (andL hC)) | exact andR hC | simp_all) (Cert.loadV (Try.tab_ok _ _ rfl) rfl rfl rfl)) rfl ?_
        refine AOps.gC rfl rfl (fun hC => Cert.ungd (k := 75) rfl (by first | exact hC | exact andL hC | exact andL (andL hC) | exact andL (andL (andL hC)) | exact andR hC | simp_all) (Cert.binI rfl rfl rfl)) rfl ?_
        refine AOps.s0 (Cert.pickOr rfl rfl rfl (fun h => by first | exact h | exact notT h | exact andI hC h | exact andI hC (notT h) | simp_all)) rfl ?_
        refine AOps.nil ?_
        refine hK15 _ ?_
        clear hK15 K15
        refine AWp.cond rfl (fun hc2 => ?_) (fun hc2 => ?_)
        · first
          | (cases hc2; done)
          | skip
          refine AWp.region ?_
          refine AOps.s0 (Cert.move (by conv => lhs; whnf)) rfl ?_
          refine AOps.s0 (Cert.fieldV (Try.tab_ok _ _ rfl) rfl rfl (Try.tab_ok _ _ rfl) rfl rfl (by conv => lhs; whnf)) rfl ?_
          refine AOps.s0 (Cert.loadV (Try.tab_ok _ _ rfl) rfl rfl rfl) rfl ?_
          refine AOps.s0 (Cert.build Try.tab_ok rfl rfl rfl rfl rfl rfl) rfl ?_
          refine AOps.s0 (Cert.buildSlice (Try.tab_ok _ _ rfl) rfl (Try.tab_ok _ _ rfl) rfl rfl rfl rfl rfl rfl) rfl ?_
          refine AOps.sH (Cert.append (Try.tab_ok _ _ rfl) rfl (Try.tab_ok _ _ rfl) (Try.tab_ok _ _ rfl) (.inl ⟨_, rfl⟩) rfl rfl (by decide) rfl rfl (by first | exact .inl rfl | exact .inr rfl) (by first | exact .inl rfl | exact .inr rfl) (by (first | assumption | exact Heap.set_same _ _ _ | ((repeat (refine (Heap.set_other _ _ (by first | assumption | (apply Ne.symm; assumption))).trans ?_)); first | assumption | exact Heap.set_same _ _ _) | (simp only [Heap.set_set, Heap.set_same]; done) | (simp [Heap.set, *]; done))) (by first | rfl | (simp; done)) (by (first | assumption | (simp [maxN]; done) | (simp [maxN]; omega) | (simp [maxN, Nat.add_mul] at *; omega))) (by (first | assumption | (simp [maxN]; done) | (simp [maxN]; omega) | (simp [maxN, Nat.add_mul] at *; omega)))) rfl ?_
          refine AOps.s0 (Cert.assign (by conv => lhs; whnf)) rfl ?_
          refine AOps.nil ?_
          have hk2 : kindBad d.defs.l[i] = _ := hc2
          first
          | exact hK14 _ (F1 ++ [⟨9, d.defs.l[i].name.1⟩]) (Weak.to (by repeat (first | exact Keeps.nil | refine Keeps.c rfl rfl ?_ | refine Keeps.c (by (first | (first | rfl | ((conv => lhs; whnf); first | (simp [cellsA, faultsT, faultsD, namesD, Fault.mk_c, Nat.add_assoc, empty_append, Bool.and_assoc]; done) | (simp [cellsA, faultsT, faultsD, namesD, Nat.add_assoc, empty_append, Bool.and_assoc]; repeat (first | rfl | constructor)))) | rfl | (simp only [get_same, ev]; done) | (simp [*, cellsA]; done) | (show V.a (A.d (D.slice _ _ _ _)) = V.a (A.d (D.slice _ _ _ _)); simp [*, cellsA]; done))) rfl ?_)) (by repeat (first | exact Pfx.nil | apply Pfx.cons)) (by first | rfl | (first | rfl | (simp only [Heap.set_set, List.length_append, List.length_nil, List.length_cons, List.length_map, List.length_singleton, Nat.zero_add]; done) | (simp [Heap.set_set, Nat.add_assoc]; done)) | (((funext n; simp only [Heap.set]; (repeat' split) <;> simp_all)) <;> first | rfl | exact ⟨rfl, rfl⟩))) (by rw [hk2]; rfl)
          | exact hK14 _ F1 (Weak.to (by repeat (first | exact Keeps.nil | refine Keeps.c rfl rfl ?_ | refine Keeps.c (by (first | (first | rfl | ((conv => lhs; whnf); first | (simp [cellsA, faultsT, faultsD, namesD, Fault.mk_c, Nat.add_assoc, empty_append, Bool.and_assoc]; done) | (simp [cellsA, faultsT, faultsD, namesD, Nat.add_assoc, empty_append, Bool.and_assoc]; repeat (first | rfl | constructor)))) | rfl | (simp only [get_same, ev]; done) | (simp [*, cellsA]; done) | (show V.a (A.d (D.slice _ _ _ _)) = V.a (A.d (D.slice _ _ _ _)); simp [*, cellsA]; done))) rfl ?_)) (by repeat (first | exact Pfx.nil | apply Pfx.cons)) (by first | rfl | (first | rfl | (simp only [Heap.set_set, List.length_append, List.length_nil, List.length_cons, List.length_map, List.length_singleton, Nat.zero_add]; done) | (simp [Heap.set_set, Nat.add_assoc]; done)) | (((funext n; simp only [Heap.set]; (repeat' split) <;> simp_all)) <;> first | rfl | exact ⟨rfl, rfl⟩))) (by rw [hk2]; simp [one])
        · first
          | (cases hc2; done)
          | skip
          refine AWp.skip ?_
          have hk2 : kindBad d.defs.l[i] = _ := hc2
          first
          | exact hK14 _ (F1 ++ [⟨9, d.defs.l[i].name.1⟩]) (Weak.to (by repeat (first | exact Keeps.nil | refine Keeps.c rfl rfl ?_ | refine Keeps.c (by (first | (first | rfl | ((conv => lhs; whnf); first | (simp [cellsA, faultsT, faultsD, namesD, Fault.mk_c, Nat.add_assoc, empty_append, Bool.and_assoc]; done) | (simp [cellsA, faultsT, faultsD, namesD, Nat.add_assoc, empty_append, Bool.and_assoc]; repeat (first | rfl | constructor)))) | rfl | (simp only [get_same, ev]; done) | (simp [*, cellsA]; done) | (show V.a (A.d (D.slice _ _ _ _)) = V.a (A.d (D.slice _ _ _ _)); simp [*, cellsA]; done))) rfl ?_)) (by repeat (first | exact Pfx.nil | apply Pfx.cons)) (by first | rfl | (first | rfl | (simp only [Heap.set_set, List.length_append, List.length_nil, List.length_cons, List.length_map, List.length_singleton, Nat.zero_add]; done) | (simp [Heap.set_set, Nat.add_assoc]; done)) | (((funext n; simp only [Heap.set]; (repeat' split) <;> simp_all)) <;> first | rfl | exact ⟨rfl, rfl⟩))) (by rw [hk2]; rfl)
          | exact hK14 _ F1 (Weak.to (by repeat (first | exact Keeps.nil | refine Keeps.c rfl rfl ?_ | refine Keeps.c (by (first | (first | rfl | ((conv => lhs; whnf); first | (simp [cellsA, faultsT, faultsD, namesD, Fault.mk_c, Nat.add_assoc, empty_append, Bool.and_assoc]; done) | (simp [cellsA, faultsT, faultsD, namesD, Nat.add_assoc, empty_append, Bool.and_assoc]; repeat (first | rfl | constructor)))) | rfl | (simp only [get_same, ev]; done) | (simp [*, cellsA]; done) | (show V.a (A.d (D.slice _ _ _ _)) = V.a (A.d (D.slice _ _ _ _)); simp [*, cellsA]; done))) rfl ?_)) (by repeat (first | exact Pfx.nil | apply Pfx.cons)) (by first | rfl | (first | rfl | (simp only [Heap.set_set, List.length_append, List.length_nil, List.length_cons, List.length_map, List.length_singleton, Nat.zero_add]; done) | (simp [Heap.set_set, Nat.add_assoc]; done)) | (((funext n; simp only [Heap.set]; (repeat' split) <;> simp_all)) <;> first | rfl | exact ⟨rfl, rfl⟩))) (by rw [hk2]; simp [one])
      · intro F2 hF2
        have hl2 : F2.length ≤ 4 := by rw [hF2, List.length_append]; have := one_len (kindBad d.defs.l[i]) 9 d.defs.l[i].name.1; omega
        refine AWp.seqJH (KeepsT.cons (k := 2) (by conv => lhs; whnf) (KeepsT.cons (k := 5) (by conv => lhs; whnf) KeepsT.nil)) (fun (F : List Fault) => [(8, .a (.d (faultsT tk F)))]) (fun F => H.set tk (some (.tok 2 F.length))) (fun F => F = F2 ++ one (circB d d.defs.l[i]) 5 d.defs.l[i].name.1) ?_ ?_
        · intro K16 hK16
          refine AWp.seqK fun K17 hK17 => ?_
          refine AWp.region ?_
          refine AOps.s0 (Cert.loadV (Try.tab_ok _ _ rfl) rfl rfl rfl) rfl ?_
          refine AOps.s0 (Cert.loadV (Try.tab_ok _ _ rfl) rfl rfl rfl) rfl ?_
          refine AOps.s0 (Cert.callP rfl rfl (ref_circular d hs d.defs.l[i] (hs.inputs _ (List.getElem_mem hi)))) rfl ?_
          refine AOps.nil ?_
          refine hK17 _ ?_
          clear hK17 K17
          refine AWp.cond rfl (fun hc3 => ?_) (fun hc3 => ?_)
          · first
            | (cases hc3; done)
            | skip
            refine AWp.region ?_
            refine AOps.s0 (Cert.move (by conv => lhs; whnf)) rfl ?_
            refine AOps.s0 (Cert.fieldV (Try.tab_ok _ _ rfl) rfl rfl (Try.tab_ok _ _ rfl) rfl rfl (by conv => lhs; whnf)) rfl ?_
            refine AOps.s0 (Cert.loadV (Try.tab_ok _ _ rfl) rfl rfl rfl) rfl ?_
            refine AOps.s0 (Cert.build Try.tab_ok rfl rfl rfl rfl rfl rfl) rfl ?_
            refine AOps.s0 (Cert.buildSlice (Try.tab_ok _ _ rfl) rfl (Try.tab_ok _ _ rfl) rfl rfl rfl rfl rfl rfl) rfl ?_
            refine AOps.sH (Cert.append (Try.tab_ok _ _ rfl) rfl (Try.tab_ok _ _ rfl) (Try.tab_ok _ _ rfl) (.inl ⟨_, rfl⟩) rfl rfl (by decide) rfl rfl (by first | exact .inl rfl | exact .inr rfl) (by first | exact .inl rfl | exact .inr rfl) (by (first | assumption | exact Heap.set_same _ _ _ | ((repeat (refine (Heap.set_other _ _ (by first | assumption | (apply Ne.symm; assumption))).trans ?_)); first | assumption | exact Heap.set_same _ _ _) | (simp only [Heap.set_set, Heap.set_same]; done) | (simp [Heap.set, *]; done))) (by first | rfl | (simp; done)) (by (first | assumption | (simp [maxN]; done) | (simp [maxN]; omega) | (simp [maxN, Nat.add_mul] at *; omega))) (by (first | assumption | (simp [maxN]; done) | (simp [maxN]; omega) | (simp [maxN, Nat.add_mul] at *; omega)))) rfl ?_
            refine AOps.s0 (Cert.assign (by conv => lhs; whnf)) rfl ?_
            refine AOps.nil ?_
            first
            | exact hK16 _ (F2 ++ [⟨5, d.defs.l[i].name.1⟩]) (Weak.to (by repeat (first | exact Keeps.nil | refine Keeps.c rfl rfl ?_ | refine Keeps.c (by (first | (first | rfl | ((conv => lhs; whnf); first | (simp [cellsA, faultsT, faultsD, namesD, Fault.mk_c, Nat.add_assoc, empty_append, Bool.and_assoc]; done) | (simp [cellsA, faultsT, faultsD, namesD, Nat.add_assoc, empty_append, Bool.and_assoc]; repeat (first | rfl | constructor)))) | rfl | (simp only [get_same, ev]; done) | (simp [*, cellsA]; done) | (show V.a (A.d (D.slice _ _ _ _)) = V.a (A.d (D.slice _ _ _ _)); simp [*, cellsA]; done))) rfl ?_)) (by repeat (first | exact Pfx.nil | apply Pfx.cons)) (by first | rfl | (first | rfl | (simp only [Heap.set_set, List.length_append, List.length_nil, List.length_cons, List.length_map, List.length_singleton, Nat.zero_add]; done) | (simp [Heap.set_set, Nat.add_assoc]; done)) | (((funext n; simp only [Heap.set]; (repeat' split) <;> simp_all)) <;> first | rfl | exact ⟨rfl, rfl⟩))) (by rw [hc3]; rfl)
            | exact hK16 _ F2 (Weak.to (by repeat (first | exact Keeps.nil | refine Keeps.c rfl rfl ?_ | refine Keeps.c (by (first | (first | rfl | ((conv => lhs; whnf); first | (simp [cellsA, faultsT, faultsD, namesD, Fault.mk_c, Nat.add_assoc, empty_append, Bool.and_assoc]; done) | (simp [cellsA, faultsT, faultsD, namesD, Nat.add_assoc, empty_append, Bool.and_assoc]; repeat (first | rfl | constructor)))) | rfl | (simp only [get_same, ev]; done) | (simp [*, cellsA]; done) | (show V.a (A.d (D.slice _ _ _ _)) = V.a (A.d (D.slice _ _ _ _)); simp [*, cellsA]; done))) rfl ?_)) (by repeat (first | exact Pfx.nil | apply Pfx.cons)) (by first | rfl | (first | rfl | (simp only [Heap.set_set, List.length_append, List.length_nil, List.length_cons, List.length_map, List.length_singleton, Nat.zero_add]; done) | (simp [Heap.set_set, Nat.add_assoc]; done)) | (((funext n; simp only [Heap.set]; (repeat' split) <;> simp_all)) <;> first | rfl | exact ⟨rfl, rfl⟩))) (by rw [hc3]; simp [one])
          · first
            | (cases hc3; done)
            | skip
            refine AWp.skip ?_
            first
            | exact hK16 _ (F2 ++ [⟨5, d.defs.l[i].name.1⟩]) (Weak.to (by repeat (first | exact Keeps.nil | refine Keeps.c rfl rfl ?_ | refine Keeps.c (by (first | (first | rfl | ((conv => lhs; whnf); first | (simp [cellsA, faultsT, faultsD, namesD, Fault.mk_c, Nat.add_assoc, empty_append, Bool.and_assoc]; done) | (simp [cellsA, faultsT, faultsD, namesD, Nat.add_assoc, empty_append, Bool.and_assoc]; repeat (first | rfl | constructor)))) | rfl | (simp only [get_same, ev]; done) | (simp [*, cellsA]; done) | (show V.a (A.d (D.slice _ _ _ _)) = V.a (A.d (D.slice _ _ _ _)); simp [*, cellsA]; done))) rfl ?_)) (by repeat (first | exact Pfx.nil | apply Pfx.cons)) (by first | rfl | (first | rfl | (simp only [Heap.set_set, List.length_append, List.length_nil, List.length_cons, List.length_map, List.length_singleton, Nat.zero_add]; done) | (simp [Heap.set_set, Nat.add_assoc]; done)) | (((funext n; simp only [Heap.set]; (repeat' split) <;> simp_all)) <;> first | rfl | exact ⟨rfl, rfl⟩))) (by rw [hc3]; rfl)
            | exact hK16 _ F2 (Weak.to (by repeat (first | exact Keeps.nil | refine Keeps.c rfl rfl ?_ | refine Keeps.c (by (first | (first | rfl | ((conv => lhs; whnf); first | (simp [cellsA, faultsT, faultsD, namesD, Fault.mk_c, Nat.add_assoc, empty_append, Bool.and_assoc]; done) | (simp [cellsA, faultsT, faultsD, namesD, Nat.add_assoc, empty_append, Bool.and_assoc]; repeat (first | rfl | constructor)))) | rfl | (simp only [get_same, ev]; done) | (simp [*, cellsA]; done) | (show V.a (A.d (D.slice _ _ _ _)) = V.a (A.d (D.slice _ _ _ _)); simp [*, cellsA]; done))) rfl ?_)) (by repeat (first | exact Pfx.nil | apply Pfx.cons)) (by first | rfl | (first | rfl | (simp only [Heap.set_set, List.length_append, List.length_nil, List.length_cons, List.length_map, List.length_singleton, Nat.zero_add]; done) | (simp [Heap.set_set, Nat.add_assoc]; done)) | (((funext n; simp only [Heap.set]; (repeat' split) <;> simp_all)) <;> first | rfl | exact ⟨rfl, rfl⟩))) (by rw [hc3]; simp [one])
        · intro F3 hF3
          refine AWp.dropTok 8 rfl ?_
          refine AWp.seqK fun K18 hK18 => ?_
          refine AWp.region ?_
          refine AOps.s0 (Cert.move (by conv => lhs; whnf)) rfl ?_
          refine AOps.s0 (Cert.assign (by conv => lhs; whnf)) rfl ?_
          refine AOps.nil ?_
          refine hK18 _ ?_
          clear hK18 K18
          refine AWp.ret ?_
          repeat (first | refine xBlock_ret ?_ | refine xThen_ret ?_)
          have hk4 := of_decide_eq_false hc0
          dsimp only at hk4
          have hk5 : k = i := by omega
          subst hk5
          have e : F3 = wholeF d k d.defs.l[k] := by rw [hF3, hF2, hF1, hB]; rfl
          rw [e]
          exact retQ.retF H rfl ⟨rfl, rfl⟩ (Heap.sub_set htk)
end Go.Proofs


namespace Go.Proofs
open Go Go.Ab Go.Ab.Sch
set_option maxRecDepth 100000 in
set_option maxHeartbeats 1000000 in
theorem ref_members (t : Def) (hl : t.members.l.length ≤ 2048) (H : Heap) :
    ACalls Try.prog 33 [.agg t.c] H fun r h' => r = .a (.d (faultsD (membersF t.name.1 t.members.l t.members.l.length))) ∧ h' = H := by
  refine ACalls.of_wp (fn := Try.f33) (c := _) Try.tab_ok (fun _ _ => Try.call33 _ _) Try.func33 rfl (n := 58) rfl (rs := [.tmp 2]) rfl rfl ?_
  refine AWp.tok 2 fun tk htk => ?_
  refine AWp.seqK fun K1 hK1 => ?_
  refine AWp.region ?_
  refine AOps.s0 (Cert.boxV rfl) rfl ?_
  refine AOps.s0 (Cert.assign (by conv => lhs; whnf)) rfl ?_
  refine AOps.nil ?_
  refine hK1 _ ?_
  clear hK1 K1
  refine AWp.seqK fun K2 hK2 => ?_
  refine AWp.region ?_
  refine AOps.s0 (Cert.assign (by conv => lhs; whnf)) rfl ?_
  refine AOps.nil ?_
  refine hK2 _ ?_
  clear hK2 K2
  refine AWp.seqK fun K3 hK3 => ?_
  refine AWp.nilTok 3 2 tk rfl (Heap.set_same _ _ _) ?_
  refine AWp.seqK fun K4 hK4 => ?_
  refine AWp.region ?_
  refine AOps.s0 (Cert.assign (by conv => lhs; whnf)) rfl ?_
  refine AOps.nil ?_
  refine hK4 _ ?_
  clear hK4 K4
  refine AWp.block ?_
  refine AWp.loopH (KeepsT.cons (k := 1) (by conv => lhs; whnf) KeepsT.nil) (fun (x : Nat × List Fault) => [(4, .a (.d (.int .i64 x.1))), (3, .a (.d (faultsT tk x.2)))]) (fun x => H.set tk (some (.tok 2 x.2.length)))
    (fun x => t.members.l.length - x.1) (fun x => x.1 ≤ t.members.l.length ∧ x.2 = membersF t.name.1 t.members.l x.1 ∧ x.2.length ≤ 2 * x.1) (0, []) ⟨Nat.zero_le _, rfl, Nat.le_refl _⟩ (Weak.to (by repeat (first | exact Keeps.nil | refine Keeps.c rfl rfl ?_ | refine Keeps.c (by (first | (first | rfl | ((conv => lhs; whnf); first | (simp [cellsA, faultsT, faultsD, namesD, Fault.mk_c, Nat.add_assoc, empty_append, Bool.and_assoc]; done) | (simp [cellsA, faultsT, faultsD, namesD, Nat.add_assoc, empty_append, Bool.and_assoc]; repeat (first | rfl | constructor)))) | rfl | (simp only [get_same, ev]; done) | (simp [*, cellsA]; done) | (show V.a (A.d (D.slice _ _ _ _)) = V.a (A.d (D.slice _ _ _ _)); simp [*, cellsA]; done))) rfl ?_)) (by repeat (first | exact Pfx.nil | apply Pfx.cons)) (by first | rfl | (first | rfl | (simp only [Heap.set_set, List.length_append, List.length_nil, List.length_cons, List.length_map, List.length_singleton, Nat.zero_add]; done) | (simp [Heap.set_set, Nat.add_assoc]; done)) | (((funext n; simp only [Heap.set]; (repeat' split) <;> simp_all)) <;> first | rfl | exact ⟨rfl, rfl⟩))) ?_
  rintro ⟨i, F⟩ ⟨hi, hF, hF2⟩ K5 hK5
  dsimp only at hi hF hF2
  refine AWp.seqK fun K6 hK6 => ?_
  refine AWp.seqK fun K7 hK7 => ?_
  refine AWp.region ?_
  refine AOps.s0 (Cert.move (by conv => lhs; whnf)) rfl ?_
  refine AOps.s0 (Cert.fieldV (Try.tab_ok _ _ rfl) rfl rfl (Try.tab_ok _ _ rfl) rfl rfl (by conv => lhs; whnf)) rfl ?_
  refine AOps.s0 (Cert.loadV (Try.tab_ok _ _ rfl) rfl rfl rfl) rfl ?_
  refine AOps.s0 (Cert.lenA (Try.tab_ok _ _ rfl) rfl rfl rfl) rfl ?_
  refine AOps.s0 (Cert.binI rfl rfl rfl) rfl ?_
  refine AOps.nil ?_
  refine hK7 _ ?_
  clear hK7 K7
  refine AWp.cond rfl (fun hc0 => ?_) (fun hc0 => ?_)
  · first
    | (cases hc0; done)
    | skip
    refine AWp.skip ?_
    refine hK6 _ ?_
    clear hK6 K6
    refine AWp.seqK fun K8 hK8 => ?_
    refine AWp.block ?_
    refine AWp.seqK fun K9 hK9 => ?_
    refine AWp.region ?_
    have hi3 : i < t.members.l.length := map_lt hc0
    refine AOps.s0 (Cert.fieldV (Try.tab_ok _ _ rfl) rfl rfl (Try.tab_ok _ _ rfl) rfl rfl (by conv => lhs; whnf)) rfl ?_
    refine AOps.s0 (Cert.loadV (Try.tab_ok _ _ rfl) rfl rfl rfl) rfl ?_
    refine AOps.s0 (Cert.move (by conv => lhs; whnf)) rfl ?_
    refine AOps.s0 (Cert.indexA (Try.tab_ok _ _ rfl) rfl (Try.tab_ok _ _ rfl) rfl rfl rfl (by omega) (map_get (by assumption))) rfl ?_
    refine AOps.s0 (Cert.fieldV (Try.tab_ok _ _ rfl) rfl rfl (Try.tab_ok _ _ rfl) rfl rfl (by conv => lhs; whnf)) rfl ?_
    refine AOps.s0 (Cert.loadV (Try.tab_ok _ _ rfl) rfl rfl rfl) rfl ?_
    refine AOps.s0 (Cert.assign (by conv => lhs; whnf)) rfl ?_
    refine AOps.nil ?_
    refine hK9 _ ?_
    clear hK9 K9
    refine AWp.seqK fun K10 hK10 => ?_
    refine AWp.region ?_
    refine AOps.s0 (Cert.assign (by conv => lhs; whnf)) rfl ?_
    refine AOps.nil ?_
    refine hK10 _ ?_
    clear hK10 K10
    refine AWp.seqK fun K11 hK11 => ?_
    refine AWp.seqK fun K12 hK12 => ?_
    refine AWp.region ?_
    refine AOps.s0 (Cert.assign (by conv => lhs; whnf)) rfl ?_
    refine AOps.nil ?_
    refine hK12 _ ?_
    clear hK12 K12
    refine AWp.block ?_
    refine AWp.loopC (KeepsT.cons (k := 1) (by conv => lhs; whnf) (KeepsT.cons (k := 3) (by conv => lhs; whnf) (KeepsT.cons (k := 4) (by conv => lhs; whnf) (KeepsT.cons (k := 5) (by conv => lhs; whnf) KeepsT.nil)))) (fun (x : Nat × Bool) => [(7, .a (.d (.int .i64 x.1))), (6, .a (.d (.bool x.2)))])
      (fun x => i - x.1) (fun x => x.1 ≤ i ∧ x.2 = mseenB t.members.l x.1 (t.members.l[i]'hi3).name.1) (0, false) ⟨Nat.zero_le _, by simp [mseenB]⟩ (Weak.to (by repeat (first | exact Keeps.nil | refine Keeps.c rfl rfl ?_ | refine Keeps.c (by (first | (first | rfl | ((conv => lhs; whnf); first | (simp [cellsA, faultsT, faultsD, namesD, Fault.mk_c, Nat.add_assoc, empty_append, Bool.and_assoc]; done) | (simp [cellsA, faultsT, faultsD, namesD, Nat.add_assoc, empty_append, Bool.and_assoc]; repeat (first | rfl | constructor)))) | rfl | (simp only [get_same, ev]; done) | (simp [*, cellsA]; done) | (show V.a (A.d (D.slice _ _ _ _)) = V.a (A.d (D.slice _ _ _ _)); simp [*, cellsA]; done))) rfl ?_)) (by repeat (first | exact Pfx.nil | apply Pfx.cons)) (by first | rfl | (first | rfl | (simp only [Heap.set_set, List.length_append, List.length_nil, List.length_cons, List.length_map, List.length_singleton, Nat.zero_add]; done) | (simp [Heap.set_set, Nat.add_assoc]; done)) | (((funext n; simp only [Heap.set]; (repeat' split) <;> simp_all)) <;> first | rfl | exact ⟨rfl, rfl⟩))) ?_
    rintro ⟨k, B⟩ ⟨hk, hB⟩ K13 hK13
    dsimp only at hk hB
    refine AWp.seqK fun K14 hK14 => ?_
    refine AWp.seqK fun K15 hK15 => ?_
    refine AWp.region ?_
    refine AOps.s0 (Cert.move (by conv => lhs; whnf)) rfl ?_
    refine AOps.s0 (Cert.move (by conv => lhs; whnf)) rfl ?_
    refine AOps.s0 (Cert.binI rfl rfl rfl) rfl ?_
    refine AOps.nil ?_
    refine hK15 _ ?_
    clear hK15 K15
    refine AWp.cond rfl (fun hc1 => ?_) (fun hc1 => ?_)
    · first
      | (cases hc1; done)
      | skip
      refine AWp.skip ?_
      refine hK14 _ ?_
      clear hK14 K14
      refine AWp.seqK fun K16 hK16 => ?_
      refine AWp.block ?_
      refine AWp.region ?_
      have hk3 : k < t.members.l.length := by have := of_decide_eq_true hc1; dsimp only at this; omega
      refine AOps.s0 (Cert.move (by conv => lhs; whnf)) rfl ?_
      refine AOps.s0 (Cert.move (by conv => lhs; whnf)) rfl ?_
      refine AOps.gC rfl rfl (fun hC => Cert.fieldV (Try.tab_ok _ _ rfl) rfl rfl (Try.tab_ok _ _ rfl) rfl rfl (by conv => lhs; whnf)) rfl ?_
      refine AOps.gC rfl rfl (fun hC => Cert.ungd (k := 28) rfl (by first | exact hC | exact andL hC | exact andL (andL hC) | exact andL (andL (andL hC)) | exact andR hC | simp_all) (Cert.loadV (Try.tab_ok _ _ rfl) rfl rfl rfl)) rfl ?_
      refine AOps.gC rfl rfl (fun hC => Cert.move (by conv => lhs; whnf)) rfl ?_
      refine AOps.gC rfl rfl (fun hC => Cert.ungd (k := 29) rfl (by first | exact hC | exact andL hC | exact andL (andL hC) | exact andL (andL (andL hC)) | exact andR hC | simp_all) (Cert.ungd (k := 30) rfl (by first | exact hC | exact andL hC | exact andL (andL hC) | exact andL (andL (andL hC)) | exact andR hC | simp_all) (Cert.indexA (Try.tab_ok _ _ rfl) rfl (Try.tab_ok _ _ rfl) rfl rfl rfl (by omega) (map_get' hk3)))) rfl ?_
      refine AOps.gC rfl rfl (fun hC => Cert.ungd (k := 31) rfl (by first | exact hC | exact andL hC | exact andL (andL hC) | exact andL (andL (andL hC)) | exact andR hC | simp_all) (Cert.fieldV (Try.tab_ok _ _ rfl) rfl rfl (Try.tab_ok _ _ rfl) rfl rfl (by conv => lhs; whnf))) rfl ?_
      refine AOps.gC rfl rfl (fun hC => Cert.ungd (k := 32) rfl (by first | exact hC | exact andL hC | exact andL (andL hC) | exact andL (andL (andL hC)) | exact andR hC | simp_all) (Cert.loadV (Try.tab_ok _ _ rfl) rfl rfl rfl)) rfl ?_
      refine AOps.gC rfl rfl (fun hC => Cert.move (by conv => lhs; whnf)) rfl ?_
      refine AOps.gC rfl rfl (fun hC => Cert.ungd (k := 33) rfl (by first | exact hC | exact andL hC | exact andL (andL hC) | exact andL (andL (andL hC)) | exact andR hC | simp_all) (Cert.ungd (k := 34) rfl (by first | exact hC | exact andL hC | exact andL (andL hC) | exact andL (andL (andL hC)) | exact andR hC | simp_all) (Cert.binS rfl rfl rfl))) rfl ?_
      refine AOps.s0 (Cert.pickOr rfl rfl rfl (fun h => by first | exact h | exact notT h | exact andI hC h | exact andI hC (notT h) | simp_all)) rfl ?_
      refine AOps.s0 (Cert.assign (by conv => lhs; whnf)) rfl ?_
      refine AOps.nil ?_
      refine hK16 _ ?_
      clear hK16 K16
      refine AWp.region ?_
      refine AOps.s0 (Cert.move (by conv => lhs; whnf)) rfl ?_
      refine AOps.s0 (Cert.addI rfl rfl (by first | omega | (dsimp only; omega)) (by first | omega | (dsimp only; omega))) rfl ?_
      refine AOps.s0 (Cert.assign (by conv => lhs; whnf)) rfl ?_
      refine AOps.nil ?_
      have hk4 := of_decide_eq_true hc1
      dsimp only at hk4
      refine hK13 _ (k + 1, (B || (t.members.l[k]'hk3).name.1 == (t.members.l[i]'hi3).name.1)) (Weak.to (by repeat (first | exact Keeps.nil | refine Keeps.c rfl rfl ?_ | refine Keeps.c (by (first | (first | rfl | ((conv => lhs; whnf); first | (simp [cellsA, faultsT, faultsD, namesD, Fault.mk_c, Nat.add_assoc, empty_append, Bool.and_assoc]; done) | (simp [cellsA, faultsT, faultsD, namesD, Nat.add_assoc, empty_append, Bool.and_assoc]; repeat (first | rfl | constructor)))) | rfl | (simp only [get_same, ev]; done) | (simp [*, cellsA]; done) | (show V.a (A.d (D.slice _ _ _ _)) = V.a (A.d (D.slice _ _ _ _)); simp [*, cellsA]; done))) rfl ?_)) (by repeat (first | exact Pfx.nil | apply Pfx.cons)) (by first | rfl | (first | rfl | (simp only [Heap.set_set, List.length_append, List.length_nil, List.length_cons, List.length_map, List.length_singleton, Nat.zero_add]; done) | (simp [Heap.set_set, Nat.add_assoc]; done)) | (((funext n; simp only [Heap.set]; (repeat' split) <;> simp_all)) <;> first | rfl | exact ⟨rfl, rfl⟩))) ⟨by dsimp only; omega, ?_⟩ (by dsimp only; omega)
      dsimp only
      rw [mseenB_succ _ k _ hk3, hB]
    · first
      | (cases hc1; done)
      | skip
      refine AWp.exit ?_
      refine hK11 _ ?_
      clear hK14 K14 hK13 K13 hK11 K11
      refine AWp.region ?_
      have hx : (t.members.l[i]'hi3).name.1.length ≤ 140737488355328 := (t.members.l[i]'hi3).name.2
      have hx2 : t.name.1.length ≤ 140737488355328 := t.name.2
      have hn := names_len (t.members.l[i]'hi3).name.1 (wordB (t.members.l[i]'hi3).name.1) B (t.name.1 ++ dot ++ (t.members.l[i]'hi3).name.1)
      refine AOps.s0 (Cert.move (by conv => lhs; whnf)) rfl ?_
      refine AOps.s0 (Cert.move (by conv => lhs; whnf)) rfl ?_
      refine AOps.s0 (Cert.move (by conv => lhs; whnf)) rfl ?_
      refine AOps.s0 (Cert.binS rfl rfl rfl) rfl ?_
      refine AOps.s0 (Cert.move (by conv => lhs; whnf)) rfl ?_
      refine AOps.gC rfl rfl (fun hC => Cert.move (by conv => lhs; whnf)) rfl ?_
      refine AOps.gC rfl rfl (fun hC => Cert.ungd (k := 42) rfl (by first | exact hC | exact andL hC | exact andL (andL hC) | exact andL (andL (andL hC)) | exact andR hC | simp_all) (Cert.binS rfl rfl rfl)) rfl ?_
      refine AOps.s0 (Cert.pickOr rfl rfl rfl (fun h => by first | exact h | exact notT h | exact andI hC h | exact andI hC (notT h) | simp_all)) rfl ?_
      refine AOps.s0 (Cert.move (by conv => lhs; whnf)) rfl ?_
      refine AOps.gC rfl rfl (fun hC => Cert.move (by conv => lhs; whnf)) rfl ?_
      refine AOps.gC rfl rfl (fun hC => Cert.ungd (k := 46) rfl (by first | exact hC | exact andL hC | exact andL (andL hC) | exact andL (andL (andL hC)) | exact andR hC | simp_all) (Cert.binS rfl rfl rfl)) rfl ?_
      refine AOps.s0 (Cert.pickOr rfl rfl rfl (fun h => by first | exact h | exact notT h | exact andI hC h | exact andI hC (notT h) | simp_all)) rfl ?_
      refine AOps.s0 (Cert.move (by conv => lhs; whnf)) rfl ?_
      refine AOps.s0 (Cert.fieldV (Try.tab_ok _ _ rfl) rfl rfl (Try.tab_ok _ _ rfl) rfl rfl (by conv => lhs; whnf)) rfl ?_
      refine AOps.s0 (Cert.loadV (Try.tab_ok _ _ rfl) rfl rfl rfl) rfl ?_
      refine AOps.s0 (Cert.concat rfl rfl (by first | omega | (show _ ≤ 4611686018427387904; simp only [List.length_append, List.length_cons, List.length_nil]; omega))) rfl ?_
      refine AOps.s0 (Cert.move (by conv => lhs; whnf)) rfl ?_
      refine AOps.s0 (Cert.concat rfl rfl (by first | omega | (show _ ≤ 4611686018427387904; simp only [List.length_append, List.length_cons, List.length_nil]; omega))) rfl ?_
      refine AOps.s0 (Cert.callP rfl rfl (ref_names (t.members.l[i]'hi3).name.1 (wordB (t.members.l[i]'hi3).name.1) B (t.name.1 ++ dot ++ (t.members.l[i]'hi3).name.1))) rfl ?_
      refine AOps.sH (Cert.append (Try.tab_ok _ _ rfl) rfl (Try.tab_ok _ _ rfl) (Try.tab_ok _ _ rfl) (.inl ⟨_, rfl⟩) rfl rfl (by decide) rfl rfl (by first | exact .inl rfl | exact .inr rfl) (by first | exact .inl rfl | exact .inr rfl) (by (first | assumption | exact Heap.set_same _ _ _ | ((repeat (refine (Heap.set_other _ _ (by first | assumption | (apply Ne.symm; assumption))).trans ?_)); first | assumption | exact Heap.set_same _ _ _) | (simp only [Heap.set_set, Heap.set_same]; done) | (simp [Heap.set, *]; done))) (by first | rfl | (simp; done)) (by (first | assumption | (simp [maxN]; done) | (simp [maxN]; omega) | (simp [maxN, Nat.add_mul] at *; omega))) (by (first | assumption | (simp [maxN]; done) | (simp [maxN]; omega) | (simp [maxN, Nat.add_mul] at *; omega)))) rfl ?_
      refine AOps.s0 (Cert.assign (by conv => lhs; whnf)) rfl ?_
      refine AOps.nil ?_
      refine hK8 _ ?_
      clear hK8 K8
      refine AWp.region ?_
      refine AOps.s0 (Cert.move (by conv => lhs; whnf)) rfl ?_
      refine AOps.s0 (Cert.addI rfl rfl (by first | omega | (dsimp only; omega)) (by first | omega | (dsimp only; omega))) rfl ?_
      refine AOps.s0 (Cert.assign (by conv => lhs; whnf)) rfl ?_
      refine AOps.nil ?_
      have hk4 := of_decide_eq_false hc1
      dsimp only at hk4
      have hk5 : k = i := by omega
      have hm : membersF t.name.1 t.members.l (i + 1) = F ++ names (t.members.l[i]'hi3).name.1 (wordB (t.members.l[i]'hi3).name.1) B (t.name.1 ++ dot ++ (t.members.l[i]'hi3).name.1) := by
        rw [membersF_succ, hF, hB, hk5]; unfold memberF; rw [getD_eq _ i hi3]
      refine hK5 _ (i + 1, F ++ names (t.members.l[i]'hi3).name.1 (wordB (t.members.l[i]'hi3).name.1) B (t.name.1 ++ dot ++ (t.members.l[i]'hi3).name.1)) (Weak.to (by repeat (first | exact Keeps.nil | refine Keeps.c rfl rfl ?_ | refine Keeps.c (by (first | (first | rfl | ((conv => lhs; whnf); first | (simp [cellsA, faultsT, faultsD, namesD, Fault.mk_c, Nat.add_assoc, empty_append, Bool.and_assoc]; done) | (simp [cellsA, faultsT, faultsD, namesD, Nat.add_assoc, empty_append, Bool.and_assoc]; repeat (first | rfl | constructor)))) | rfl | (simp only [get_same, ev]; done) | (simp [*, cellsA]; done) | (show V.a (A.d (D.slice _ _ _ _)) = V.a (A.d (D.slice _ _ _ _)); simp [*, cellsA]; done))) rfl ?_)) (by repeat (first | exact Pfx.nil | apply Pfx.cons)) (by first | rfl | (first | rfl | (simp only [Heap.set_set, List.length_append, List.length_nil, List.length_cons, List.length_map, List.length_singleton, Nat.zero_add]; done) | (simp [Heap.set_set, Nat.add_assoc]; done)) | (((funext n; simp only [Heap.set]; (repeat' split) <;> simp_all)) <;> first | rfl | exact ⟨rfl, rfl⟩))) ⟨hi3, hm.symm, ?_⟩ (by dsimp only; omega)
      have := membersF_len t.name.1 t.members.l (i + 1)
      rw [hm] at this; exact this
  · first
    | (cases hc0; done)
    | skip
    refine AWp.exit ?_
    refine hK3 _ ?_
    clear hK6 K6 hK5 K5 hK3 K3
    refine AWp.dropTok 3 rfl ?_
    refine AWp.seqK fun K17 hK17 => ?_
    refine AWp.region ?_
    refine AOps.s0 (Cert.move (by conv => lhs; whnf)) rfl ?_
    refine AOps.s0 (Cert.assign (by conv => lhs; whnf)) rfl ?_
    refine AOps.nil ?_
    refine hK17 _ ?_
    clear hK17 K17
    refine AWp.ret ?_
    repeat (first | refine xBlock_ret ?_ | refine xThen_ret ?_)
    have h1 := map_ge hc0
    have h2 : i = t.members.l.length := Nat.le_antisymm hi h1
    subst h2
    rw [hF]
    exact retQ.retF H rfl ⟨rfl, rfl⟩ (Heap.sub_set htk)
end Go.Proofs

