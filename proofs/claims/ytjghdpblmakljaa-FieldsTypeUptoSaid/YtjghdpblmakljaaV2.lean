import Derived.Test.YtjghdpblmakljaaV1
import Derived.Test.YtjghdpblmakljaaTab
set_option linter.unusedVariables false
set_option linter.unusedSimpArgs false
namespace Go.Proofs
open Go Go.Ab
def fields_Type (a0 : TDoc) (a1 : Bs) (a2 : Bs) : Option (TRef × Bool) := (schema_Composite a0 a1).bind fun x4 => bif (!x4) then (some ((TRef.mk ([] : Bs) (Sl.nil : Sl Int)), false)) else (bif ((a2 == ([95, 95, 116, 121, 112, 101, 110, 97, 109, 101] : Bs))) then ((typeref_Named ([83, 116, 114, 105, 110, 103] : Bs)).bind fun x11 => (typeref_NonNull x11).bind fun x12 => some (x12, true)) else ((schema_Find a0 a1).bind fun x14 => (schema_FieldOf x14.1 a2).bind fun x16 => bif (!x16.2) then (some ((TRef.mk ([] : Bs) (Sl.nil : Sl Int)), false)) else ((slices_Clone_intint x16.1.FType.FWraps).bind fun x22 => some ((TRef.mk x16.1.FType.FName x22), true))))
set_option maxRecDepth 100000 in
set_option maxHeartbeats 2000000 in
theorem fields_Type_walk {a0 : TDoc} {a1 : Bs} {a2 : Bs}   {r : (TRef × Bool)} (hE : fields_Type a0 a1 a2 = some r) (H : Heap)  : ACalls Try.prog 7 [.agg (TDoc.c a0), .d (.str a1), .d (.str a2)] H fun v h' => v = .tup [.agg (TRef.c r.1), .d (.bool r.2)] ∧ h' = H := by
  unfold fields_Type at hE
  refine ACalls.of_wp (fn := Try.f7) (c := _) Try.tab_ok (fun _ _ => Try.call7 _ _) Try.func7 rfl (n := 44) rfl (rs := [.cell 6 29, .tmp 7]) rfl rfl ?_
  refine AWp.seqK fun K1 hK1 => ?_
  refine AWp.region ?_
  refine AOps.s0 (Cert.boxV rfl) rfl ?_
  refine AOps.sL (Cert.allocL (Try.tab_ok _ _ rfl) rfl (by repeat (first | exact Snoc.nil | apply Snoc.cons))) rfl ?_
  refine AOps.s0 (Cert.assign (by conv => lhs; whnf)) rfl ?_
  refine AOps.nil ?_
  refine hK1 _ ?_
  clear hK1 K1
  refine AWp.seqK fun K2 hK2 => ?_
  refine AWp.seqK fun K3 hK3 => ?_
  refine AWp.region ?_
  refine AOps.s0 (Cert.loadV (Try.tab_ok _ _ rfl) rfl rfl rfl) rfl ?_
  refine AOps.s0 (Cert.move (by conv => lhs; whnf)) rfl ?_
  obtain ⟨x4, gx4, hE⟩ := bindO_some hE
  refine AOps.s0 (Cert.callP rfl rfl (fun H => schema_Composite_walk gx4 H)) rfl ?_
  refine AOps.s0 (Cert.notB rfl) rfl ?_
  refine AOps.nil ?_
  refine hK3 _ ?_
  clear hK3 K3
  refine AWp.cond rfl (fun hc5 => ?_) (fun hc5 => ?_)
  · have hE := condT hc5 hE
    try dsimp only at hc5
    refine AWp.seqK fun K6 hK6 => ?_
    refine AWp.region ?_
    refine AOps.s0 (Cert.build Try.tab_ok rfl rfl rfl rfl rfl rfl) rfl ?_
    refine AOps.sLn (Cert.storeLF (Try.tab_ok _ _ rfl) rfl rfl rfl rfl rfl (by repeat (first | exact SetAt.zero | apply SetAt.succ))) ?_
    refine AOps.s0 (Cert.assign (by conv => lhs; whnf)) rfl ?_
    refine AOps.nil ?_
    refine hK6 _ ?_
    clear hK6 K6
    refine AWp.ret ?_
    repeat (first | refine xBlock_ret ?_ | refine xThen_ret ?_)
    obtain rfl := Option.some.inj hE
    refine retQ.retF H rfl ⟨rfl, rfl⟩ ?_
    exact (fun _ _ h => h)
  · have hE := condF hc5 hE
    try dsimp only at hc5
    refine AWp.skip ?_
    refine hK2 _ ?_
    clear hK2 K2
    refine AWp.seqK fun K7 hK7 => ?_
    refine AWp.seqK fun K8 hK8 => ?_
    refine AWp.region ?_
    refine AOps.s0 (Cert.move (by conv => lhs; whnf)) rfl ?_
    refine AOps.s0 (Cert.binS rfl rfl rfl) rfl ?_
    refine AOps.nil ?_
    refine hK8 _ ?_
    clear hK8 K8
    refine AWp.cond rfl (fun hc9 => ?_) (fun hc9 => ?_)
    · have hE := condT hc9 hE
      try dsimp only at hc9
      refine AWp.seqK fun K10 hK10 => ?_
      refine AWp.region ?_
      obtain ⟨x11, gx11, hE⟩ := bindO_some hE
      refine AOps.s0 (Cert.callP rfl rfl (fun H => typeref_Named_walk gx11 H)) rfl ?_
      obtain ⟨x12, gx12, hE⟩ := bindO_some hE
      refine AOps.s0 (Cert.callP rfl rfl (fun H => typeref_NonNull_walk gx12 H)) rfl ?_
      refine AOps.sLn (Cert.storeLF (Try.tab_ok _ _ rfl) rfl rfl rfl rfl rfl (by repeat (first | exact SetAt.zero | apply SetAt.succ))) ?_
      refine AOps.s0 (Cert.assign (by conv => lhs; whnf)) rfl ?_
      refine AOps.nil ?_
      refine hK10 _ ?_
      clear hK10 K10
      refine AWp.ret ?_
      repeat (first | refine xBlock_ret ?_ | refine xThen_ret ?_)
      obtain rfl := Option.some.inj hE
      refine retQ.retF H rfl ⟨rfl, rfl⟩ ?_
      exact (fun _ _ h => h)
    · have hE := condF hc9 hE
      try dsimp only at hc9
      refine AWp.skip ?_
      refine hK7 _ ?_
      clear hK7 K7
      refine AWp.seqK fun K13 hK13 => ?_
      refine AWp.region ?_
      refine AOps.s0 (Cert.loadV (Try.tab_ok _ _ rfl) rfl rfl rfl) rfl ?_
      refine AOps.s0 (Cert.move (by conv => lhs; whnf)) rfl ?_
      obtain ⟨x14, gx14, hE⟩ := bindO_some hE
      refine AOps.s0 (Cert.callP rfl rfl (fun H => schema_Find_walk gx14 H)) rfl ?_
      refine AOps.s0 (Cert.move (by conv => lhs; whnf)) rfl ?_
      refine AOps.s0 (Cert.extract rfl rfl) rfl ?_
      refine AOps.s0 (Cert.extract rfl rfl) rfl ?_
      refine AOps.sL (Cert.allocL (Try.tab_ok _ _ rfl) rfl (by repeat (first | exact Snoc.nil | apply Snoc.cons))) rfl ?_
      refine AOps.sLn (Cert.storeLF (Try.tab_ok _ _ rfl) rfl rfl rfl rfl rfl (by repeat (first | exact SetAt.zero | apply SetAt.succ))) ?_
      refine AOps.s0 (Cert.assign (by conv => lhs; whnf)) rfl ?_
      refine AOps.nil ?_
      refine hK13 _ ?_
      clear hK13 K13
      refine AWp.freeze 8 _ rfl (by repeat (first | exact Snoc.nil | apply Snoc.cons)) (Keeps.c (k := 2) (by conv => lhs; whnf) (by rfl) (Keeps.c (k := 6) (by conv => lhs; whnf) (by rfl) Keeps.nil)) ?_
      refine AWp.seqK fun K15 hK15 => ?_
      refine AWp.region ?_
      refine AOps.s0 (Cert.loadV (Try.tab_ok _ _ rfl) rfl rfl rfl) rfl ?_
      refine AOps.s0 (Cert.move (by conv => lhs; whnf)) rfl ?_
      obtain ⟨x16, gx16, hE⟩ := bindO_some hE
      refine AOps.s0 (Cert.callP rfl rfl (fun H => schema_FieldOf_walk gx16 H)) rfl ?_
      refine AOps.s0 (Cert.move (by conv => lhs; whnf)) rfl ?_
      refine AOps.s0 (Cert.extract rfl rfl) rfl ?_
      refine AOps.s0 (Cert.extract rfl rfl) rfl ?_
      refine AOps.sL (Cert.allocL (Try.tab_ok _ _ rfl) rfl (by repeat (first | exact Snoc.nil | apply Snoc.cons))) rfl ?_
      refine AOps.sLn (Cert.storeLF (Try.tab_ok _ _ rfl) rfl rfl rfl rfl rfl (by repeat (first | exact SetAt.zero | apply SetAt.succ))) ?_
      refine AOps.s0 (Cert.assign (by conv => lhs; whnf)) rfl ?_
      refine AOps.nil ?_
      refine hK15 _ ?_
      clear hK15 K15
      refine AWp.freeze 10 _ rfl (by repeat (first | exact Snoc.nil | apply Snoc.cons)) (Keeps.c (k := 6) (by conv => lhs; whnf) (by rfl) (Keeps.c (k := 11) (by conv => lhs; whnf) (by rfl) Keeps.nil)) ?_
      refine AWp.seqK fun K17 hK17 => ?_
      refine AWp.seqK fun K18 hK18 => ?_
      refine AWp.region ?_
      refine AOps.s0 (Cert.move (by conv => lhs; whnf)) rfl ?_
      refine AOps.s0 (Cert.notB rfl) rfl ?_
      refine AOps.nil ?_
      refine hK18 _ ?_
      clear hK18 K18
      refine AWp.cond rfl (fun hc19 => ?_) (fun hc19 => ?_)
      · have hE := condT hc19 hE
        try dsimp only at hc19
        refine AWp.seqK fun K20 hK20 => ?_
        refine AWp.region ?_
        refine AOps.s0 (Cert.build Try.tab_ok rfl rfl rfl rfl rfl rfl) rfl ?_
        refine AOps.sLn (Cert.storeLF (Try.tab_ok _ _ rfl) rfl rfl rfl rfl rfl (by repeat (first | exact SetAt.zero | apply SetAt.succ))) ?_
        refine AOps.s0 (Cert.assign (by conv => lhs; whnf)) rfl ?_
        refine AOps.nil ?_
        refine hK20 _ ?_
        clear hK20 K20
        refine AWp.ret ?_
        repeat (first | refine xBlock_ret ?_ | refine xThen_ret ?_)
        obtain rfl := Option.some.inj hE
        refine retQ.retF H rfl ⟨rfl, rfl⟩ ?_
        exact (fun _ _ h => h)
      · have hE := condF hc19 hE
        try dsimp only at hc19
        refine AWp.skip ?_
        refine hK17 _ ?_
        clear hK17 K17
        refine AWp.seqK fun K21 hK21 => ?_
        refine AWp.draw rfl ?_
        refine DOps.s0 (Cert.fieldV (Try.tab_ok _ _ rfl) rfl rfl (Try.tab_ok _ _ rfl) rfl rfl (by conv => lhs; whnf)) rfl ?_
        refine DOps.s0 (Cert.fieldV (Try.tab_ok _ _ rfl) rfl rfl (Try.tab_ok _ _ rfl) rfl rfl (by conv => lhs; whnf)) rfl ?_
        refine DOps.s0 (Cert.loadV (Try.tab_ok _ _ rfl) rfl rfl rfl) rfl ?_
        refine DOps.s0 (Cert.fieldV (Try.tab_ok _ _ rfl) rfl rfl (Try.tab_ok _ _ rfl) rfl rfl (by conv => lhs; whnf)) rfl ?_
        refine DOps.s0 (Cert.fieldV (Try.tab_ok _ _ rfl) rfl rfl (Try.tab_ok _ _ rfl) rfl rfl (by conv => lhs; whnf)) rfl ?_
        refine DOps.s0 (Cert.loadV (Try.tab_ok _ _ rfl) rfl rfl rfl) rfl ?_
        obtain ⟨x22, gx22, hE⟩ := bindO_some hE
        refine DOps.s0 (Cert.callP rfl rfl (fun H => slices_Clone_intint_walk gx22 H)) rfl ?_
        refine DOps.s0 (Cert.build Try.tab_ok rfl rfl rfl rfl rfl rfl) rfl ?_
        refine DOps.sLn (Cert.storeLF (Try.tab_ok _ _ rfl) rfl rfl rfl rfl rfl (by repeat (first | exact SetAt.zero | apply SetAt.succ))) ?_
        refine DOps.s0 (Cert.assign (by conv => lhs; whnf)) rfl ?_
        refine DOps.nil (by decide +kernel) ?_
        refine hK21 _ ?_
        clear hK21 K21
        refine AWp.ret ?_
        repeat (first | refine xBlock_ret ?_ | refine xThen_ret ?_)
        obtain rfl := Option.some.inj hE
        refine retQ.retF H rfl ⟨rfl, rfl⟩ ?_
        exact (fun _ _ h => h)
def r05_same_j8 (a0 : (Sl Int)) (a1 : (Sl Int))   : Option Bool := some true
def r05_same_l11 (a0 : (Sl Int)) (a1 : (Sl Int))  : Nat → Nat → Option Bool
  | 0, _ => none
  | n11 + 1, s5_12 => bif (decide (((s5_12 : Nat) : Int) < ((a0.l.length : Nat) : Int))) then ((a0.l[s5_12]?).bind fun x19 => (a1.l[s5_12]?).bind fun x20 => bif (!decide (x19 = x20)) then (some false) else ((r05_same_l11 a0 a1 n11) (s5_12 + 1))) else (r05_same_j8 a0 a1  )
def r05_same (a0 : (Sl Int)) (a1 : (Sl Int)) : Option Bool := bif (!decide (((a0.l.length : Nat) : Int) = ((a1.l.length : Nat) : Int))) then (some false) else (r05_same_l11 a0 a1 F0 0)
set_option maxRecDepth 100000 in
set_option maxHeartbeats 2000000 in
theorem r05_same_walk {a0 : (Sl Int)} {a1 : (Sl Int)} {w0 : Option Nat} {w1 : Option Nat}  {r : Bool} (hE : r05_same a0 a1 = some r) (H : Heap)  : ACalls Try.prog 25 [.d (Sl.d 1 (intE .i64) w0 a0), .d (Sl.d 1 (intE .i64) w1 a1)] H fun v h' => v = .a (.d (.bool r)) ∧ h' = H := by
  unfold r05_same at hE
  refine ACalls.of_wp (fn := Try.f25) (c := _) Try.tab_ok (fun _ _ => Try.call25 _ _) Try.func25 rfl (n := 26) rfl (rs := [.tmp 4]) rfl rfl ?_
  refine AWp.seqK fun K1 hK1 => ?_
  refine AWp.region ?_
  refine AOps.s0 (Cert.assign (by conv => lhs; whnf)) rfl ?_
  refine AOps.nil ?_
  refine hK1 _ ?_
  clear hK1 K1
  refine AWp.seqK fun K2 hK2 => ?_
  refine AWp.seqK fun K3 hK3 => ?_
  refine AWp.region ?_
  refine AOps.s0 (Cert.move (by conv => lhs; whnf)) rfl ?_
  refine AOps.sLen (f := (intE .i64)) (s := a0) (Try.tab_ok _ _ rfl) rfl rfl rfl rfl fun hL4 => ?_
  refine AOps.s0 (Cert.move (by conv => lhs; whnf)) rfl ?_
  refine AOps.sLen (f := (intE .i64)) (s := a1) (Try.tab_ok _ _ rfl) rfl rfl rfl rfl fun hL5 => ?_
  refine AOps.s0 (Cert.binI rfl rfl rfl) rfl ?_
  refine AOps.nil ?_
  refine hK3 _ ?_
  clear hK3 K3
  refine AWp.cond rfl (fun hc6 => ?_) (fun hc6 => ?_)
  · have hE := condT hc6 hE
    try dsimp only at hc6
    refine AWp.seqK fun K7 hK7 => ?_
    refine AWp.region ?_
    refine AOps.s0 (Cert.assign (by conv => lhs; whnf)) rfl ?_
    refine AOps.nil ?_
    refine hK7 _ ?_
    clear hK7 K7
    refine AWp.ret ?_
    repeat (first | refine xBlock_ret ?_ | refine xThen_ret ?_)
    obtain rfl := Option.some.inj hE
    refine retQ.retF H rfl ⟨rfl, rfl⟩ ?_
    exact (fun _ _ h => h)
  · have hE := condF hc6 hE
    try dsimp only at hc6
    refine AWp.skip ?_
    refine hK2 _ ?_
    clear hK2 K2
    refine AWp.seqJH KeepsT.nil (fun (z : Unit) => []) (fun z => H) (fun z => r05_same_j8 a0 a1  = some r) ?_ ?_
    · intro K8 hK8
      refine AWp.seqK fun K10 hK10 => ?_
      refine AWp.region ?_
      refine AOps.s0 (Cert.assign (by conv => lhs; whnf)) rfl ?_
      refine AOps.nil ?_
      refine hK10 _ ?_
      clear hK10 K10
      refine AWp.block ?_
      refine AWp.loopH (KeepsT.cons (k := 0) (by conv => lhs; whnf) (KeepsT.cons (k := 1) (by conv => lhs; whnf) KeepsT.nil)) (fun (z : Nat × Nat) => [(5, .a (.d (.int .i64 ((z.2 : Nat) : Int))))]) (fun z => H) (fun z => z.1) (fun z => r05_same_l11 a0 a1 z.1 z.2 = some r) (F0, 0) hE (Weak.to (by repeat (first | exact Keeps.nil | refine Keeps.c rfl rfl ?_ | refine Keeps.c (by (first | (first | rfl | ((conv => lhs; whnf); first | (simp [cellsA, faultsT, faultsD, namesD, Fault.mk_c, Nat.add_assoc, empty_append, Bool.and_assoc]; done) | (simp [cellsA, faultsT, faultsD, namesD, Nat.add_assoc, empty_append, Bool.and_assoc]; repeat (first | rfl | constructor)))) | rfl | (simp only [get_same, ev]; done) | (simp [*, cellsA]; done) | (show V.a (A.d (D.slice _ _ _ _)) = V.a (A.d (D.slice _ _ _ _)); simp [*, cellsA]; done))) rfl ?_)) (by repeat (first | exact Pfx.nil | apply Pfx.cons)) (by first | rfl | (first | rfl | (simp only [Heap.set_set, List.length_append, List.length_nil, List.length_cons, List.length_map, List.length_singleton, Nat.zero_add]; done) | (simp [Heap.set_set, Nat.add_assoc]; done)) | (((funext n; simp only [Heap.set]; (repeat' split) <;> simp_all)) <;> first | rfl | exact ⟨rfl, rfl⟩))) ?_
      rintro ⟨n11, s5_12⟩ hE K11 hK11
      try dsimp only at hE
      cases n11 with
      | zero => cases hE
      | succ n11 =>
          rw [r05_same_l11] at hE
          refine AWp.seqK fun K13 hK13 => ?_
          refine AWp.seqK fun K14 hK14 => ?_
          refine AWp.region ?_
          refine AOps.s0 (Cert.move (by conv => lhs; whnf)) rfl ?_
          refine AOps.s0 (Cert.move (by conv => lhs; whnf)) rfl ?_
          refine AOps.sLen (f := (intE .i64)) (s := a0) (Try.tab_ok _ _ rfl) rfl rfl rfl rfl fun hL15 => ?_
          refine AOps.s0 (Cert.binI rfl rfl rfl) rfl ?_
          refine AOps.nil ?_
          refine hK14 _ ?_
          clear hK14 K14
          refine AWp.cond rfl (fun hc16 => ?_) (fun hc16 => ?_)
          · have hE := condT hc16 hE
            try dsimp only at hc16
            have hf16 := of_decide_eq_true hc16
            refine AWp.skip ?_
            refine hK13 _ ?_
            clear hK13 K13
            refine AWp.seqK fun K17 hK17 => ?_
            refine AWp.block ?_
            refine AWp.seqK fun K18 hK18 => ?_
            refine AWp.draw rfl ?_
            refine DOps.s0 (Cert.move (by conv => lhs; whnf)) rfl ?_
            refine DOps.s0 (Cert.move (by conv => lhs; whnf)) rfl ?_
            obtain ⟨x19, gx19, hE⟩ := bindO_some hE
            refine DOps.s0 (Cert.idxMn (f := (intE .i64)) (n := s5_12) (Try.tab_ok _ _ rfl) rfl (Try.tab_ok _ _ rfl) rfl rfl rfl gx19) rfl ?_
            refine DOps.s0 (Cert.loadV (Try.tab_ok _ _ rfl) rfl rfl rfl) rfl ?_
            refine DOps.s0 (Cert.move (by conv => lhs; whnf)) rfl ?_
            refine DOps.s0 (Cert.move (by conv => lhs; whnf)) rfl ?_
            obtain ⟨x20, gx20, hE⟩ := bindO_some hE
            refine DOps.s0 (Cert.idxMn (f := (intE .i64)) (n := s5_12) (Try.tab_ok _ _ rfl) rfl (Try.tab_ok _ _ rfl) rfl rfl rfl gx20) rfl ?_
            refine DOps.s0 (Cert.loadV (Try.tab_ok _ _ rfl) rfl rfl rfl) rfl ?_
            refine DOps.s0 (Cert.binI rfl rfl rfl) rfl ?_
            refine DOps.nil (by decide +kernel) ?_
            refine hK18 _ ?_
            clear hK18 K18
            refine AWp.cond rfl (fun hc21 => ?_) (fun hc21 => ?_)
            · have hE := condT hc21 hE
              try dsimp only at hc21
              refine AWp.seqK fun K22 hK22 => ?_
              refine AWp.region ?_
              refine AOps.s0 (Cert.assign (by conv => lhs; whnf)) rfl ?_
              refine AOps.nil ?_
              refine hK22 _ ?_
              clear hK22 K22
              refine AWp.ret ?_
              repeat (first | refine xBlock_ret ?_ | refine xThen_ret ?_)
              obtain rfl := Option.some.inj hE
              refine retQ.retF H rfl ⟨rfl, rfl⟩ ?_
              exact (fun _ _ h => h)
            · have hE := condF hc21 hE
              try dsimp only at hc21
              refine AWp.skip ?_
              refine hK17 _ ?_
              clear hK17 K17
              refine AWp.region ?_
              refine AOps.s0 (Cert.move (by conv => lhs; whnf)) rfl ?_
              refine AOps.s0 (Cert.addI rfl rfl (by first | omega | (dsimp only; omega)) (by first | omega | (dsimp only; omega))) rfl ?_
              refine AOps.s0 (Cert.assign (by conv => lhs; whnf)) rfl ?_
              refine AOps.nil ?_
              exact hK11 _ (n11, (s5_12 + 1)) (Weak.to (by repeat (first | exact Keeps.nil | refine Keeps.c rfl rfl ?_ | refine Keeps.c (by (first | (first | rfl | ((conv => lhs; whnf); first | (simp [cellsA, faultsT, faultsD, namesD, Fault.mk_c, Nat.add_assoc, empty_append, Bool.and_assoc]; done) | (simp [cellsA, faultsT, faultsD, namesD, Nat.add_assoc, empty_append, Bool.and_assoc]; repeat (first | rfl | constructor)))) | rfl | (simp only [get_same, ev]; done) | (simp [*, cellsA]; done) | (show V.a (A.d (D.slice _ _ _ _)) = V.a (A.d (D.slice _ _ _ _)); simp [*, cellsA]; done))) rfl ?_)) (by repeat (first | exact Pfx.nil | apply Pfx.cons)) (by first | rfl | (first | rfl | (simp only [Heap.set_set, List.length_append, List.length_nil, List.length_cons, List.length_map, List.length_singleton, Nat.zero_add]; done) | (simp [Heap.set_set, Nat.add_assoc]; done)) | (((funext n; simp only [Heap.set]; (repeat' split) <;> simp_all)) <;> first | rfl | exact ⟨rfl, rfl⟩))) hE (Nat.lt_succ_self _)
          · have hE := condF hc16 hE
            try dsimp only at hc16
            refine AWp.exit ?_
            exact hK8 _ () (Weak.to (by repeat (first | exact Keeps.nil | refine Keeps.c rfl rfl ?_ | refine Keeps.c (by (first | (first | rfl | ((conv => lhs; whnf); first | (simp [cellsA, faultsT, faultsD, namesD, Fault.mk_c, Nat.add_assoc, empty_append, Bool.and_assoc]; done) | (simp [cellsA, faultsT, faultsD, namesD, Nat.add_assoc, empty_append, Bool.and_assoc]; repeat (first | rfl | constructor)))) | rfl | (simp only [get_same, ev]; done) | (simp [*, cellsA]; done) | (show V.a (A.d (D.slice _ _ _ _)) = V.a (A.d (D.slice _ _ _ _)); simp [*, cellsA]; done))) rfl ?_)) (by repeat (first | exact Pfx.nil | apply Pfx.cons)) (by first | rfl | (first | rfl | (simp only [Heap.set_set, List.length_append, List.length_nil, List.length_cons, List.length_map, List.length_singleton, Nat.zero_add]; done) | (simp [Heap.set_set, Nat.add_assoc]; done)) | (((funext n; simp only [Heap.set]; (repeat' split) <;> simp_all)) <;> first | rfl | exact ⟨rfl, rfl⟩))) hE
    · rintro _ hE
      try dsimp only at hE
      unfold r05_same_j8 at hE
      refine AWp.seqK fun K9 hK9 => ?_
      refine AWp.region ?_
      refine AOps.s0 (Cert.assign (by conv => lhs; whnf)) rfl ?_
      refine AOps.nil ?_
      refine hK9 _ ?_
      clear hK9 K9
      refine AWp.ret ?_
      repeat (first | refine xBlock_ret ?_ | refine xThen_ret ?_)
      obtain rfl := Option.some.inj hE
      refine retQ.retF H rfl ⟨rfl, rfl⟩ ?_
      exact (fun _ _ h => h)
def r05_Same (a0 : TRef) (a1 : TRef) : Option Bool := guardO (((a0.FName == a1.FName))) (r05_same a0.FWraps a1.FWraps) false fun x3 => some (((a0.FName == a1.FName)) && x3)
set_option maxRecDepth 100000 in
set_option maxHeartbeats 2000000 in
theorem r05_Same_walk {a0 : TRef} {a1 : TRef}   {r : Bool} (hE : r05_Same a0 a1 = some r) (H : Heap)  : ACalls Try.prog 9 [.agg (TRef.c a0), .agg (TRef.c a1)] H fun v h' => v = .a (.d (.bool r)) ∧ h' = H := by
  unfold r05_Same at hE
  refine ACalls.of_wp (fn := Try.f9) (c := _) Try.tab_ok (fun _ _ => Try.call9 _ _) Try.func9 rfl (n := 17) rfl (rs := [.tmp 4]) rfl rfl ?_
  refine AWp.seqK fun K1 hK1 => ?_
  refine AWp.region ?_
  refine AOps.s0 (Cert.boxV rfl) rfl ?_
  refine AOps.s0 (Cert.boxV rfl) rfl ?_
  refine AOps.s0 (Cert.assign (by conv => lhs; whnf)) rfl ?_
  refine AOps.nil ?_
  refine hK1 _ ?_
  clear hK1 K1
  refine AWp.seqK fun K2 hK2 => ?_
  refine AWp.region ?_
  refine AOps.s0 (Cert.fieldV (Try.tab_ok _ _ rfl) rfl rfl (Try.tab_ok _ _ rfl) rfl rfl (by conv => lhs; whnf)) rfl ?_
  refine AOps.s0 (Cert.loadV (Try.tab_ok _ _ rfl) rfl rfl rfl) rfl ?_
  refine AOps.s0 (Cert.fieldV (Try.tab_ok _ _ rfl) rfl rfl (Try.tab_ok _ _ rfl) rfl rfl (by conv => lhs; whnf)) rfl ?_
  refine AOps.s0 (Cert.loadV (Try.tab_ok _ _ rfl) rfl rfl rfl) rfl ?_
  refine AOps.s0 (Cert.binS rfl rfl rfl) rfl ?_
  refine AOps.s0 (Cert.move (by conv => lhs; whnf)) rfl ?_
  refine AOps.gC rfl rfl (fun hC => Cert.fieldV (Try.tab_ok _ _ rfl) rfl rfl (Try.tab_ok _ _ rfl) rfl rfl (by conv => lhs; whnf)) rfl ?_
  refine AOps.gC rfl rfl (fun hC => Cert.ungd (k := 11) rfl (by first | exact hC | exact andL hC | exact andL (andL hC) | exact andL (andL (andL hC)) | exact andR hC | simp_all) (Cert.loadV (Try.tab_ok _ _ rfl) rfl rfl rfl)) rfl ?_
  refine AOps.gC rfl rfl (fun hC => Cert.fieldV (Try.tab_ok _ _ rfl) rfl rfl (Try.tab_ok _ _ rfl) rfl rfl (by conv => lhs; whnf)) rfl ?_
  refine AOps.gC rfl rfl (fun hC => Cert.ungd (k := 13) rfl (by first | exact hC | exact andL hC | exact andL (andL hC) | exact andL (andL (andL hC)) | exact andR hC | simp_all) (Cert.loadV (Try.tab_ok _ _ rfl) rfl rfl rfl)) rfl ?_
  obtain ⟨x3, gx3, hE⟩ := guardO_some hE
  refine AOps.gC rfl rfl (fun hC => Cert.ungd (k := 12) rfl (by first | exact hC | exact andL hC | exact andL (andL hC) | exact andL (andL (andL hC)) | exact andR hC | simp_all) (Cert.ungd (k := 14) rfl (by first | exact hC | exact andL hC | exact andL (andL hC) | exact andL (andL (andL hC)) | exact andR hC | simp_all) (Cert.callP rfl rfl (fun H => r05_same_walk (gx3 hC) H)))) rfl ?_
  refine AOps.s0 (Cert.pickAnd rfl rfl (fun h => by first | exact h | exact notT h | exact andI hC h | exact andI hC (notT h) | simp_all) rfl) rfl ?_
  refine AOps.s0 (Cert.assign (by conv => lhs; whnf)) rfl ?_
  refine AOps.nil ?_
  refine hK2 _ ?_
  clear hK2 K2
  refine AWp.ret ?_
  repeat (first | refine xBlock_ret ?_ | refine xThen_ret ?_)
  obtain rfl := Option.some.inj hE
  refine retQ.retF H rfl ⟨rfl, rfl⟩ ?_
  exact (fun _ _ h => h)
def schema_Root (a0 : Int) : Option Bs := bif (decide (a0 = (1 : Int))) then (some ([81, 117, 101, 114, 121] : Bs)) else (bif (decide (a0 = (2 : Int))) then (some ([77, 117, 116, 97, 116, 105, 111, 110] : Bs)) else (bif (decide (a0 = (3 : Int))) then (some ([83, 117, 98, 115, 99, 114, 105, 112, 116, 105, 111, 110] : Bs)) else (some ([] : Bs))))
set_option maxRecDepth 100000 in
set_option maxHeartbeats 2000000 in
theorem schema_Root_walk {a0 : Int}   {r : Bs} (hE : schema_Root a0 = some r) (H : Heap)  : ACalls Try.prog 29 [.d (.int .i64 a0)] H fun v h' => v = .a (.d (.str r)) ∧ h' = H := by
  unfold schema_Root at hE
  refine ACalls.of_wp (fn := Try.f29) (c := _) Try.tab_ok (fun _ _ => Try.call29 _ _) Try.func29 rfl (n := 10) rfl (rs := [.tmp 2]) rfl rfl ?_
  refine AWp.seqK fun K1 hK1 => ?_
  refine AWp.region ?_
  refine AOps.s0 (Cert.assign (by conv => lhs; whnf)) rfl ?_
  refine AOps.nil ?_
  refine hK1 _ ?_
  clear hK1 K1
  refine AWp.seqK fun K2 hK2 => ?_
  refine AWp.seqK fun K3 hK3 => ?_
  refine AWp.region ?_
  refine AOps.s0 (Cert.move (by conv => lhs; whnf)) rfl ?_
  refine AOps.nil ?_
  refine hK3 _ ?_
  clear hK3 K3
  refine AWp.block ?_
  refine AWp.seqK fun K4 hK4 => ?_
  refine AWp.region ?_
  refine AOps.s0 (Cert.binI rfl rfl rfl) rfl ?_
  refine AOps.s0 (Cert.assign (by conv => lhs; whnf)) rfl ?_
  refine AOps.nil ?_
  refine hK4 _ ?_
  clear hK4 K4
  refine AWp.cond rfl (fun hc5 => ?_) (fun hc5 => ?_)
  · have hE := condT hc5 hE
    try dsimp only at hc5
    refine AWp.seqK fun K6 hK6 => ?_
    refine AWp.region ?_
    refine AOps.s0 (Cert.assign (by conv => lhs; whnf)) rfl ?_
    refine AOps.nil ?_
    refine hK6 _ ?_
    clear hK6 K6
    refine AWp.ret ?_
    repeat (first | refine xBlock_ret ?_ | refine xThen_ret ?_)
    obtain rfl := Option.some.inj hE
    refine retQ.retF H rfl ⟨rfl, rfl⟩ ?_
    exact (fun _ _ h => h)
  · have hE := condF hc5 hE
    try dsimp only at hc5
    refine AWp.seqK fun K7 hK7 => ?_
    refine AWp.region ?_
    refine AOps.s0 (Cert.binI rfl rfl rfl) rfl ?_
    refine AOps.s0 (Cert.assign (by conv => lhs; whnf)) rfl ?_
    refine AOps.nil ?_
    refine hK7 _ ?_
    clear hK7 K7
    refine AWp.cond rfl (fun hc8 => ?_) (fun hc8 => ?_)
    · have hE := condT hc8 hE
      try dsimp only at hc8
      refine AWp.seqK fun K9 hK9 => ?_
      refine AWp.region ?_
      refine AOps.s0 (Cert.assign (by conv => lhs; whnf)) rfl ?_
      refine AOps.nil ?_
      refine hK9 _ ?_
      clear hK9 K9
      refine AWp.ret ?_
      repeat (first | refine xBlock_ret ?_ | refine xThen_ret ?_)
      obtain rfl := Option.some.inj hE
      refine retQ.retF H rfl ⟨rfl, rfl⟩ ?_
      exact (fun _ _ h => h)
    · have hE := condF hc8 hE
      try dsimp only at hc8
      refine AWp.seqK fun K10 hK10 => ?_
      refine AWp.region ?_
      refine AOps.s0 (Cert.binI rfl rfl rfl) rfl ?_
      refine AOps.s0 (Cert.assign (by conv => lhs; whnf)) rfl ?_
      refine AOps.nil ?_
      refine hK10 _ ?_
      clear hK10 K10
      refine AWp.cond rfl (fun hc11 => ?_) (fun hc11 => ?_)
      · have hE := condT hc11 hE
        try dsimp only at hc11
        refine AWp.seqK fun K12 hK12 => ?_
        refine AWp.region ?_
        refine AOps.s0 (Cert.assign (by conv => lhs; whnf)) rfl ?_
        refine AOps.nil ?_
        refine hK12 _ ?_
        clear hK12 K12
        refine AWp.ret ?_
        repeat (first | refine xBlock_ret ?_ | refine xThen_ret ?_)
        obtain rfl := Option.some.inj hE
        refine retQ.retF H rfl ⟨rfl, rfl⟩ ?_
        exact (fun _ _ h => h)
      · have hE := condF hc11 hE
        try dsimp only at hc11
        refine AWp.skip ?_
        refine hK2 _ ?_
        clear hK2 K2
        refine AWp.seqK fun K13 hK13 => ?_
        refine AWp.region ?_
        refine AOps.s0 (Cert.assign (by conv => lhs; whnf)) rfl ?_
        refine AOps.nil ?_
        refine hK13 _ ?_
        clear hK13 K13
        refine AWp.ret ?_
        repeat (first | refine xBlock_ret ?_ | refine xThen_ret ?_)
        obtain rfl := Option.some.inj hE
        refine retQ.retF H rfl ⟨rfl, rfl⟩ ?_
        exact (fun _ _ h => h)
def fields_checker_roots_j10 (a0 : Fields_checker) (a1 : (Sl TSel)) (a2 : (List Bs)) (a3 : (List Bs)) (n3 : Nat) (s14_4 : Nat) (y5_c2 : (List Bs)) (y6_c3 : (List Bs)) (k_next_3 : Nat → (List Bs) → (List Bs) → Option ((List Bs) × (List Bs))) (y11_c2 : (List Bs)) (y12_c3 : (List Bs)) : Option ((List Bs) × (List Bs)) := k_next_3 (s14_4 + 1) y11_c2 y12_c3
def fields_checker_roots_j30 (a0 : Fields_checker) (a1 : (Sl TSel)) (a2 : (List Bs)) (a3 : (List Bs)) (n3 : Nat) (s14_4 : Nat) (y5_c2 : (List Bs)) (y6_c3 : (List Bs)) (x14 : TSel) (n23 : Nat) (s45_24 : Nat) (y25_c2 : (List Bs)) (y26_c3 : (List Bs)) (k_next_23 : Nat → (List Bs) → (List Bs) → Option ((List Bs) × (List Bs))) (y31_c2 : (List Bs)) (y32_c3 : (List Bs)) : Option ((List Bs) × (List Bs)) := k_next_23 (s45_24 + 1) y31_c2 y32_c3
def fields_checker_roots_l23 (a0 : Fields_checker) (a1 : (Sl TSel)) (a2 : (List Bs)) (a3 : (List Bs)) (n3 : Nat) (s14_4 : Nat) (y5_c2 : (List Bs)) (y6_c3 : (List Bs)) (x14 : TSel) (k_next_3 : Nat → (List Bs) → (List Bs) → Option ((List Bs) × (List Bs))) (k_rec_30 : Fields_checker → (Sl TSel) → (List Bs) → (List Bs) → Option ((List Bs) × (List Bs))) : Nat → Nat → (List Bs) → (List Bs) → Option ((List Bs) × (List Bs))
  | 0, _, _, _ => none
  | n23 + 1, s45_24, y25_c2, y26_c3 => bif (decide (((s45_24 : Nat) : Int) < ((a0.Fq.FFrags.l.length : Nat) : Int))) then ((a0.Fq.FFrags.l[s45_24]?).bind fun x34 => bif (((x34.FName == x14.FName)) && (!(y26_c3.contains x14.FName))) then ((k_rec_30 a0 x34.FSels y25_c2 (insS y26_c3 x14.FName)).bind fun x38 => fields_checker_roots_j30 a0 a1 a2 a3 n3 s14_4 y5_c2 y6_c3 x14 n23 s45_24 y25_c2 y26_c3 ((fields_checker_roots_l23 a0 a1 a2 a3 n3 s14_4 y5_c2 y6_c3 x14 k_next_3 k_rec_30 n23)) x38.1 x38.2) else (fields_checker_roots_j30 a0 a1 a2 a3 n3 s14_4 y5_c2 y6_c3 x14 n23 s45_24 y25_c2 y26_c3 ((fields_checker_roots_l23 a0 a1 a2 a3 n3 s14_4 y5_c2 y6_c3 x14 k_next_3 k_rec_30 n23)) y25_c2 y26_c3)) else (fields_checker_roots_j10 a0 a1 a2 a3 n3 s14_4 y5_c2 y6_c3 k_next_3 y25_c2 y26_c3)
def fields_checker_roots_l3 (a0 : Fields_checker) (a1 : (Sl TSel)) (a2 : (List Bs)) (a3 : (List Bs)) (k_rec_30 : Fields_checker → (Sl TSel) → (List Bs) → (List Bs) → Option ((List Bs) × (List Bs))) : Nat → Nat → (List Bs) → (List Bs) → Option ((List Bs) × (List Bs))
  | 0, _, _, _ => none
  | n3 + 1, s14_4, y5_c2, y6_c3 => bif (decide (((s14_4 : Nat) : Int) < ((a1.l.length : Nat) : Int))) then ((a1.l[s14_4]?).bind fun x14 => bif (decide (x14.FKind = (3 : Int))) then ((k_rec_30 a0 x14.FSels y5_c2 y6_c3).bind fun x18 => fields_checker_roots_j10 a0 a1 a2 a3 n3 s14_4 y5_c2 y6_c3 ((fields_checker_roots_l3 a0 a1 a2 a3 k_rec_30 n3)) x18.1 x18.2) else (bif (decide (x14.FKind = (2 : Int))) then (fields_checker_roots_l23 a0 a1 a2 a3 n3 s14_4 y5_c2 y6_c3 x14 ((fields_checker_roots_l3 a0 a1 a2 a3 k_rec_30 n3)) k_rec_30 F0 0 y5_c2 y6_c3) else (bif (!(x14.FAlias == ([] : Bs))) then (fields_checker_roots_j10 a0 a1 a2 a3 n3 s14_4 y5_c2 y6_c3 ((fields_checker_roots_l3 a0 a1 a2 a3 k_rec_30 n3)) (insS y5_c2 x14.FAlias) y6_c3) else (fields_checker_roots_j10 a0 a1 a2 a3 n3 s14_4 y5_c2 y6_c3 ((fields_checker_roots_l3 a0 a1 a2 a3 k_rec_30 n3)) (insS y5_c2 x14.FName) y6_c3)))) else (some (y5_c2, y6_c3))
def fields_checker_roots_n : Nat → Fields_checker → (Sl TSel) → (List Bs) → (List Bs) → Option ((List Bs) × (List Bs))
  | 0, _, _, _, _ => none
  | n + 1, a0, a1, a2, a3 => fields_checker_roots_l3 a0 a1 a2 a3 (fields_checker_roots_n n) F0 0 a2 a3
set_option maxRecDepth 100000 in
set_option maxHeartbeats 2000000 in
theorem fields_checker_roots_step (n : Nat) (ih_30 : ∀ {a0 : Fields_checker} {a1 : (Sl TSel)} {a2 : (List Bs)} {a3 : (List Bs)} {w1 : Option Nat} {q0_2 : Option Nat} {c0 : Nat} {c2 : Nat} {c3 : Nat} {r : ((List Bs) × (List Bs))}, fields_checker_roots_n n a0 a1 a2 a3 = some r → ∀ (H : Heap) (hc0 : H c0 = some (.cells (Fields_checker.cg q0_2 a0))) (hc2 : H c2 = some (.map (seenM a2))) (hc3 : H c3 = some (.map (seenM a3))) (ne_c3_c2 : c3 ≠ c2), ACalls Try.prog 30 [.d (.ptr c0 0), .d (Sl.d 7 TSel.c w1 a1), .d (.map c2), .d (.map c3)] H fun v h' => v = .tup [] ∧ h' = ((H.set c2 (some (.map (seenM r.1)))).set c3 (some (.map (seenM r.2))))) : ∀ {a0 : Fields_checker} {a1 : (Sl TSel)} {a2 : (List Bs)} {a3 : (List Bs)} {w1 : Option Nat} {q0_2 : Option Nat} {c0 : Nat} {c2 : Nat} {c3 : Nat} {r : ((List Bs) × (List Bs))}, fields_checker_roots_n (n + 1) a0 a1 a2 a3 = some r → ∀ (H : Heap) (hc0 : H c0 = some (.cells (Fields_checker.cg q0_2 a0))) (hc2 : H c2 = some (.map (seenM a2))) (hc3 : H c3 = some (.map (seenM a3))) (ne_c3_c2 : c3 ≠ c2), ACalls Try.prog 30 [.d (.ptr c0 0), .d (Sl.d 7 TSel.c w1 a1), .d (.map c2), .d (.map c3)] H fun v h' => v = .tup [] ∧ h' = ((H.set c2 (some (.map (seenM r.1)))).set c3 (some (.map (seenM r.2)))) := by
  intro a0 a1 a2 a3 w1 q0_2 c0 c2 c3 r hE H hc0 hc2 hc3 ne_c3_c2
  rw [fields_checker_roots_n] at hE
  refine ACalls.of_wp (fn := Try.f30) (c := _) Try.tab_ok (fun _ _ => Try.call30 _ _) Try.func30 rfl (n := 72) rfl (rs := []) rfl rfl ?_
  have ne_c2_c0 : c2 ≠ c0 := fun e_ => by subst e_; simp_all
  have ne_c3_c0 : c3 ≠ c0 := fun e_ => by subst e_; simp_all
  refine AWp.heqA (h' := ((H.set c2 (some (.map (seenM a2)))).set c3 (some (.map (seenM a3))))) (by funext n_; simp only [Heap.set]; (repeat' split) <;> simp_all) ?_
  refine AWp.seqK fun K1 hK1 => ?_
  refine AWp.region ?_
  refine AOps.s0 (Cert.move (by conv => lhs; whnf)) rfl ?_
  refine AOps.sLen (f := TSel.c) (s := a1) (Try.tab_ok _ _ rfl) rfl rfl rfl rfl fun hL2 => ?_
  refine AOps.s0 (Cert.move (by conv => lhs; whnf)) rfl ?_
  refine AOps.nil ?_
  refine hK1 _ ?_
  clear hK1 K1
  refine AWp.block ?_
  refine AWp.loopH (KeepsT.cons (k := 0) (by conv => lhs; whnf) (KeepsT.cons (k := 2) (by conv => lhs; whnf) (KeepsT.cons (k := 3) (by conv => lhs; whnf) (KeepsT.cons (k := 12) (by conv => lhs; whnf) (KeepsT.cons (k := 13) (by conv => lhs; whnf) KeepsT.nil))))) (fun (z : Nat × Nat × (List Bs) × (List Bs)) => [(14, .a (.d (.int .i64 ((z.2.1 : Nat) : Int))))]) (fun z => ((H.set c2 (some (.map (seenM z.2.2.1)))).set c3 (some (.map (seenM z.2.2.2))))) (fun z => z.1) (fun z => fields_checker_roots_l3 a0 a1 a2 a3 (fields_checker_roots_n n) z.1 z.2.1 z.2.2.1 z.2.2.2 = some r) (F0, 0, a2, a3) hE (Weak.to (by repeat (first | exact Keeps.nil | refine Keeps.c rfl rfl ?_ | refine Keeps.c (by (first | (first | rfl | ((conv => lhs; whnf); first | (simp [cellsA, faultsT, faultsD, namesD, Fault.mk_c, Nat.add_assoc, empty_append, Bool.and_assoc]; done) | (simp [cellsA, faultsT, faultsD, namesD, Nat.add_assoc, empty_append, Bool.and_assoc]; repeat (first | rfl | constructor)))) | rfl | (simp only [get_same, ev]; done) | (simp [*, cellsA]; done) | (show V.a (A.d (D.slice _ _ _ _)) = V.a (A.d (D.slice _ _ _ _)); simp [*, cellsA]; done))) rfl ?_)) (by repeat (first | exact Pfx.nil | apply Pfx.cons)) (by first | rfl | (first | rfl | (simp only [Heap.set_set, List.length_append, List.length_nil, List.length_cons, List.length_map, List.length_singleton, Nat.zero_add]; done) | (simp [Heap.set_set, Nat.add_assoc]; done)) | (((funext n; simp only [Heap.set]; (repeat' split) <;> simp_all)) <;> first | rfl | exact ⟨rfl, rfl⟩))) ?_
  rintro ⟨n3, s14_4, y5_c2, y6_c3⟩ hE K3 hK3
  try dsimp only at hE
  cases n3 with
  | zero => cases hE
  | succ n3 =>
      rw [fields_checker_roots_l3] at hE
      refine AWp.seqK fun K7 hK7 => ?_
      refine AWp.region ?_
      refine AOps.s0 (Cert.binI rfl rfl rfl) rfl ?_
      refine AOps.nil ?_
      refine hK7 _ ?_
      clear hK7 K7
      refine AWp.seqK fun K8 hK8 => ?_
      refine AWp.cond rfl (fun hc9 => ?_) (fun hc9 => ?_)
      · have hE := condT hc9 hE
        try dsimp only at hc9
        have hf9 := of_decide_eq_true hc9
        refine AWp.skip ?_
        refine hK8 _ ?_
        clear hK8 K8
        refine AWp.seqJH (KeepsT.cons (k := 0) (by conv => lhs; whnf) (KeepsT.cons (k := 2) (by conv => lhs; whnf) (KeepsT.cons (k := 3) (by conv => lhs; whnf) (KeepsT.cons (k := 12) (by conv => lhs; whnf) (KeepsT.cons (k := 13) (by conv => lhs; whnf) (KeepsT.cons (k := 14) (by conv => lhs; whnf) KeepsT.nil)))))) (fun (z : (List Bs) × (List Bs)) => []) (fun z => ((H.set c2 (some (.map (seenM z.1)))).set c3 (some (.map (seenM z.2))))) (fun z => fields_checker_roots_j10 a0 a1 a2 a3 n3 s14_4 y5_c2 y6_c3 ((fields_checker_roots_l3 a0 a1 a2 a3 (fields_checker_roots_n n) n3)) z.1 z.2 = some r) ?_ ?_
        · intro K10 hK10
          refine AWp.block ?_
          refine AWp.seqK fun K13 hK13 => ?_
          refine AWp.region ?_
          obtain ⟨x14, gx14, hE⟩ := bindO_some hE
          refine AOps.s0 (Cert.idxMn (f := TSel.c) (n := s14_4) (Try.tab_ok _ _ rfl) rfl (Try.tab_ok _ _ rfl) rfl rfl rfl gx14) rfl ?_
          refine AOps.s0 (Cert.loadV (Try.tab_ok _ _ rfl) rfl rfl rfl) rfl ?_
          refine AOps.sL (Cert.allocL (Try.tab_ok _ _ rfl) rfl (by repeat (first | exact Snoc.nil | apply Snoc.cons))) rfl ?_
          refine AOps.sLn (Cert.storeLF (Try.tab_ok _ _ rfl) rfl rfl rfl rfl rfl (by repeat (first | exact SetAt.zero | apply SetAt.succ))) ?_
          refine AOps.nil ?_
          refine hK13 _ ?_
          clear hK13 K13
          refine AWp.freeze 9 _ rfl (by repeat (first | exact Snoc.nil | apply Snoc.cons)) (Keeps.c (k := 0) (by conv => lhs; whnf) (by rfl) (Keeps.c (k := 2) (by conv => lhs; whnf) (by rfl) (Keeps.c (k := 3) (by conv => lhs; whnf) (by rfl) (Keeps.c (k := 12) (by conv => lhs; whnf) (by rfl) (Keeps.c (k := 13) (by conv => lhs; whnf) (by rfl) (Keeps.c (k := 14) (by conv => lhs; whnf) (by rfl) Keeps.nil)))))) ?_
          refine AWp.seqK fun K15 hK15 => ?_
          refine AWp.region ?_
          refine AOps.s0 (Cert.fieldV (Try.tab_ok _ _ rfl) rfl rfl (Try.tab_ok _ _ rfl) rfl rfl (by conv => lhs; whnf)) rfl ?_
          refine AOps.s0 (Cert.loadV (Try.tab_ok _ _ rfl) rfl rfl rfl) rfl ?_
          refine AOps.nil ?_
          refine hK15 _ ?_
          clear hK15 K15
          refine AWp.block ?_
          refine AWp.seqK fun K16 hK16 => ?_
          refine AWp.region ?_
          refine AOps.s0 (Cert.binI rfl rfl rfl) rfl ?_
          refine AOps.s0 (Cert.assign (by conv => lhs; whnf)) rfl ?_
          refine AOps.nil ?_
          refine hK16 _ ?_
          clear hK16 K16
          refine AWp.cond rfl (fun hc17 => ?_) (fun hc17 => ?_)
          · have hE := condT hc17 hE
            try dsimp only at hc17
            refine AWp.region ?_
            refine AOps.s0 (Cert.move (by conv => lhs; whnf)) rfl ?_
            refine AOps.s0 (Cert.fieldV (Try.tab_ok _ _ rfl) rfl rfl (Try.tab_ok _ _ rfl) rfl rfl (by conv => lhs; whnf)) rfl ?_
            refine AOps.s0 (Cert.loadV (Try.tab_ok _ _ rfl) rfl rfl (congrArg (fun x => some (A.d x)) (TSel.FSelsD_eq _))) rfl ?_
            refine AOps.s0 (Cert.move (by conv => lhs; whnf)) rfl ?_
            refine AOps.s0 (Cert.move (by conv => lhs; whnf)) rfl ?_
            obtain ⟨x18, gx18, hE⟩ := bindO_some hE
            refine AOps.sH (Cert.callH rfl rfl (ih_30 gx18 _ (by (first | assumption | exact Heap.set_same _ _ _ | ((repeat (refine (Heap.set_other _ _ (by first | assumption | (apply Ne.symm; assumption))).trans ?_)); first | assumption | exact Heap.set_same _ _ _) | (simp only [Heap.set_set, Heap.set_same]; done) | (simp [Heap.set, *]; done))) (by (first | assumption | exact Heap.set_same _ _ _ | ((repeat (refine (Heap.set_other _ _ (by first | assumption | (apply Ne.symm; assumption))).trans ?_)); first | assumption | exact Heap.set_same _ _ _) | (simp only [Heap.set_set, Heap.set_same]; done) | (simp [Heap.set, *]; done))) (by (first | assumption | exact Heap.set_same _ _ _ | ((repeat (refine (Heap.set_other _ _ (by first | assumption | (apply Ne.symm; assumption))).trans ?_)); first | assumption | exact Heap.set_same _ _ _) | (simp only [Heap.set_set, Heap.set_same]; done) | (simp [Heap.set, *]; done))) (by (first | assumption | exact Heap.set_same _ _ _ | ((repeat (refine (Heap.set_other _ _ (by first | assumption | (apply Ne.symm; assumption))).trans ?_)); first | assumption | exact Heap.set_same _ _ _) | (simp only [Heap.set_set, Heap.set_same]; done) | (simp [Heap.set, *]; done))))) rfl ?_
            refine AOps.heq (h' := ((H.set c2 (some (.map (seenM x18.1)))).set c3 (some (.map (seenM x18.2))))) (by first | rfl | (rw [Heap.set_set]; rfl) | (funext n_; simp only [Heap.set]; (repeat' split) <;> first | rfl | (exfalso; simp_all; done) | (simp_all; done))) ?_
            refine AOps.nil ?_
            exact hK10 _ (x18.1, x18.2) (Weak.to (by repeat (first | exact Keeps.nil | refine Keeps.c rfl rfl ?_ | refine Keeps.c (by (first | (first | rfl | ((conv => lhs; whnf); first | (simp [cellsA, faultsT, faultsD, namesD, Fault.mk_c, Nat.add_assoc, empty_append, Bool.and_assoc]; done) | (simp [cellsA, faultsT, faultsD, namesD, Nat.add_assoc, empty_append, Bool.and_assoc]; repeat (first | rfl | constructor)))) | rfl | (simp only [get_same, ev]; done) | (simp [*, cellsA]; done) | (show V.a (A.d (D.slice _ _ _ _)) = V.a (A.d (D.slice _ _ _ _)); simp [*, cellsA]; done))) rfl ?_)) (by repeat (first | exact Pfx.nil | apply Pfx.cons)) (by first | rfl | (first | rfl | (simp only [Heap.set_set, List.length_append, List.length_nil, List.length_cons, List.length_map, List.length_singleton, Nat.zero_add]; done) | (simp [Heap.set_set, Nat.add_assoc]; done)) | (((funext n; simp only [Heap.set]; (repeat' split) <;> simp_all)) <;> first | rfl | exact ⟨rfl, rfl⟩))) hE
          · have hE := condF hc17 hE
            try dsimp only at hc17
            refine AWp.seqK fun K19 hK19 => ?_
            refine AWp.region ?_
            refine AOps.s0 (Cert.binI rfl rfl rfl) rfl ?_
            refine AOps.s0 (Cert.assign (by conv => lhs; whnf)) rfl ?_
            refine AOps.nil ?_
            refine hK19 _ ?_
            clear hK19 K19
            refine AWp.cond rfl (fun hc20 => ?_) (fun hc20 => ?_)
            · have hE := condT hc20 hE
              try dsimp only at hc20
              refine AWp.seqK fun K21 hK21 => ?_
              refine AWp.region ?_
              refine AOps.s0 (Cert.move (by conv => lhs; whnf)) rfl ?_
              refine AOps.s0 (Cert.nilP rfl) rfl ?_
              refine AOps.s0 (Cert.fieldP (Try.tab_ok _ _ rfl) rfl rfl (Try.tab_ok _ _ rfl) rfl rfl) rfl ?_
              refine AOps.s0 (Cert.fieldP (Try.tab_ok _ _ rfl) rfl rfl (Try.tab_ok _ _ rfl) rfl rfl) rfl ?_
              refine AOps.s0 (Cert.loadP (Try.tab_ok _ _ rfl) rfl rfl (by (first | assumption | exact Heap.set_same _ _ _ | ((repeat (refine (Heap.set_other _ _ (by first | assumption | (apply Ne.symm; assumption))).trans ?_)); first | assumption | exact Heap.set_same _ _ _) | (simp only [Heap.set_set, Heap.set_same]; done) | (simp [Heap.set, *]; done))) rfl) rfl ?_
              refine AOps.sLen (f := TFrag.c) (s := a0.Fq.FFrags) (Try.tab_ok _ _ rfl) rfl rfl rfl rfl fun hL22 => ?_
              refine AOps.s0 (Cert.move (by conv => lhs; whnf)) rfl ?_
              refine AOps.nil ?_
              refine hK21 _ ?_
              clear hK21 K21
              refine AWp.block ?_
              refine AWp.loopH (KeepsT.cons (k := 0) (by conv => lhs; whnf) (KeepsT.cons (k := 2) (by conv => lhs; whnf) (KeepsT.cons (k := 3) (by conv => lhs; whnf) (KeepsT.cons (k := 9) (by conv => lhs; whnf) (KeepsT.cons (k := 12) (by conv => lhs; whnf) (KeepsT.cons (k := 13) (by conv => lhs; whnf) (KeepsT.cons (k := 14) (by conv => lhs; whnf) (KeepsT.cons (k := 43) (by conv => lhs; whnf) (KeepsT.cons (k := 44) (by conv => lhs; whnf) KeepsT.nil))))))))) (fun (z : Nat × Nat × (List Bs) × (List Bs)) => [(45, .a (.d (.int .i64 ((z.2.1 : Nat) : Int))))]) (fun z => ((H.set c2 (some (.map (seenM z.2.2.1)))).set c3 (some (.map (seenM z.2.2.2))))) (fun z => z.1) (fun z => fields_checker_roots_l23 a0 a1 a2 a3 n3 s14_4 y5_c2 y6_c3 x14 ((fields_checker_roots_l3 a0 a1 a2 a3 (fields_checker_roots_n n) n3)) (fields_checker_roots_n n) z.1 z.2.1 z.2.2.1 z.2.2.2 = some r) (F0, 0, y5_c2, y6_c3) hE (Weak.to (by repeat (first | exact Keeps.nil | refine Keeps.c rfl rfl ?_ | refine Keeps.c (by (first | (first | rfl | ((conv => lhs; whnf); first | (simp [cellsA, faultsT, faultsD, namesD, Fault.mk_c, Nat.add_assoc, empty_append, Bool.and_assoc]; done) | (simp [cellsA, faultsT, faultsD, namesD, Nat.add_assoc, empty_append, Bool.and_assoc]; repeat (first | rfl | constructor)))) | rfl | (simp only [get_same, ev]; done) | (simp [*, cellsA]; done) | (show V.a (A.d (D.slice _ _ _ _)) = V.a (A.d (D.slice _ _ _ _)); simp [*, cellsA]; done))) rfl ?_)) (by repeat (first | exact Pfx.nil | apply Pfx.cons)) (by first | rfl | (first | rfl | (simp only [Heap.set_set, List.length_append, List.length_nil, List.length_cons, List.length_map, List.length_singleton, Nat.zero_add]; done) | (simp [Heap.set_set, Nat.add_assoc]; done)) | (((funext n; simp only [Heap.set]; (repeat' split) <;> simp_all)) <;> first | rfl | exact ⟨rfl, rfl⟩))) ?_
              rintro ⟨n23, s45_24, y25_c2, y26_c3⟩ hE K23 hK23
              try dsimp only at hE
              cases n23 with
              | zero => cases hE
              | succ n23 =>
                  rw [fields_checker_roots_l23] at hE
                  refine AWp.seqK fun K27 hK27 => ?_
                  refine AWp.region ?_
                  refine AOps.s0 (Cert.binI rfl rfl rfl) rfl ?_
                  refine AOps.nil ?_
                  refine hK27 _ ?_
                  clear hK27 K27
                  refine AWp.seqK fun K28 hK28 => ?_
                  refine AWp.cond rfl (fun hc29 => ?_) (fun hc29 => ?_)
                  · have hE := condT hc29 hE
                    try dsimp only at hc29
                    have hf29 := of_decide_eq_true hc29
                    refine AWp.skip ?_
                    refine hK28 _ ?_
                    clear hK28 K28
                    refine AWp.seqJH (KeepsT.cons (k := 0) (by conv => lhs; whnf) (KeepsT.cons (k := 2) (by conv => lhs; whnf) (KeepsT.cons (k := 3) (by conv => lhs; whnf) (KeepsT.cons (k := 9) (by conv => lhs; whnf) (KeepsT.cons (k := 12) (by conv => lhs; whnf) (KeepsT.cons (k := 13) (by conv => lhs; whnf) (KeepsT.cons (k := 14) (by conv => lhs; whnf) (KeepsT.cons (k := 43) (by conv => lhs; whnf) (KeepsT.cons (k := 44) (by conv => lhs; whnf) (KeepsT.cons (k := 45) (by conv => lhs; whnf) KeepsT.nil)))))))))) (fun (z : (List Bs) × (List Bs)) => []) (fun z => ((H.set c2 (some (.map (seenM z.1)))).set c3 (some (.map (seenM z.2))))) (fun z => fields_checker_roots_j30 a0 a1 a2 a3 n3 s14_4 y5_c2 y6_c3 x14 n23 s45_24 y25_c2 y26_c3 ((fields_checker_roots_l23 a0 a1 a2 a3 n3 s14_4 y5_c2 y6_c3 x14 ((fields_checker_roots_l3 a0 a1 a2 a3 (fields_checker_roots_n n) n3)) (fields_checker_roots_n n) n23)) z.1 z.2 = some r) ?_ ?_
                    · intro K30 hK30
                      refine AWp.block ?_
                      refine AWp.seqK fun K33 hK33 => ?_
                      refine AWp.region ?_
                      obtain ⟨x34, gx34, hE⟩ := bindO_some hE
                      refine AOps.s0 (Cert.idxMn (f := TFrag.c) (n := s45_24) (Try.tab_ok _ _ rfl) rfl (Try.tab_ok _ _ rfl) rfl rfl rfl gx34) rfl ?_
                      refine AOps.s0 (Cert.loadV (Try.tab_ok _ _ rfl) rfl rfl rfl) rfl ?_
                      refine AOps.sL (Cert.allocL (Try.tab_ok _ _ rfl) rfl (by repeat (first | exact Snoc.nil | apply Snoc.cons))) rfl ?_
                      refine AOps.sLn (Cert.storeLF (Try.tab_ok _ _ rfl) rfl rfl rfl rfl rfl (by repeat (first | exact SetAt.zero | apply SetAt.succ))) ?_
                      refine AOps.nil ?_
                      refine hK33 _ ?_
                      clear hK33 K33
                      refine AWp.freeze 11 _ rfl (by repeat (first | exact Snoc.nil | apply Snoc.cons)) (Keeps.c (k := 0) (by conv => lhs; whnf) (by rfl) (Keeps.c (k := 2) (by conv => lhs; whnf) (by rfl) (Keeps.c (k := 3) (by conv => lhs; whnf) (by rfl) (Keeps.c (k := 9) (by conv => lhs; whnf) (by rfl) (Keeps.c (k := 12) (by conv => lhs; whnf) (by rfl) (Keeps.c (k := 13) (by conv => lhs; whnf) (by rfl) (Keeps.c (k := 14) (by conv => lhs; whnf) (by rfl) (Keeps.c (k := 43) (by conv => lhs; whnf) (by rfl) (Keeps.c (k := 44) (by conv => lhs; whnf) (by rfl) (Keeps.c (k := 45) (by conv => lhs; whnf) (by rfl) Keeps.nil)))))))))) ?_
                      refine AWp.seqK fun K35 hK35 => ?_
                      refine AWp.region ?_
                      refine AOps.s0 (Cert.fieldV (Try.tab_ok _ _ rfl) rfl rfl (Try.tab_ok _ _ rfl) rfl rfl (by conv => lhs; whnf)) rfl ?_
                      refine AOps.s0 (Cert.loadV (Try.tab_ok _ _ rfl) rfl rfl rfl) rfl ?_
                      refine AOps.s0 (Cert.fieldV (Try.tab_ok _ _ rfl) rfl rfl (Try.tab_ok _ _ rfl) rfl rfl (by conv => lhs; whnf)) rfl ?_
                      refine AOps.s0 (Cert.loadV (Try.tab_ok _ _ rfl) rfl rfl rfl) rfl ?_
                      refine AOps.s0 (Cert.binS rfl rfl rfl) rfl ?_
                      refine AOps.s0 (Cert.move (by conv => lhs; whnf)) rfl ?_
                      refine AOps.gC rfl rfl (fun hC => Cert.move (by conv => lhs; whnf)) rfl ?_
                      refine AOps.gC rfl rfl (fun hC => Cert.fieldV (Try.tab_ok _ _ rfl) rfl rfl (Try.tab_ok _ _ rfl) rfl rfl (by conv => lhs; whnf)) rfl ?_
                      refine AOps.gC rfl rfl (fun hC => Cert.ungd (k := 56) rfl (by first | exact hC | exact andL hC | exact andL (andL hC) | exact andL (andL (andL hC)) | exact andR hC | simp_all) (Cert.loadV (Try.tab_ok _ _ rfl) rfl rfl rfl)) rfl ?_
                      refine AOps.gC rfl rfl (fun hC => Cert.ungd (k := 55) rfl (by first | exact hC | exact andL hC | exact andL (andL hC) | exact andL (andL (andL hC)) | exact andR hC | simp_all) (Cert.ungd (k := 57) rfl (by first | exact hC | exact andL hC | exact andL (andL hC) | exact andL (andL (andL hC)) | exact andR hC | simp_all) (Cert.lookupSeen (Try.tab_ok _ _ rfl) rfl (Try.tab_ok _ _ rfl) (Try.tab_ok _ _ rfl) rfl rfl rfl rfl (by (first | assumption | exact Heap.set_same _ _ _ | ((repeat (refine (Heap.set_other _ _ (by first | assumption | (apply Ne.symm; assumption))).trans ?_)); first | assumption | exact Heap.set_same _ _ _) | (simp only [Heap.set_set, Heap.set_same]; done) | (simp [Heap.set, *]; done)))))) rfl ?_
                      refine AOps.gC rfl rfl (fun hC => Cert.ungd (k := 58) rfl (by first | exact hC | exact andL hC | exact andL (andL hC) | exact andL (andL (andL hC)) | exact andR hC | simp_all) (Cert.notB rfl)) rfl ?_
                      refine AOps.s0 (Cert.pickAnd rfl rfl (fun h => by first | exact h | exact notT h | exact andI hC h | exact andI hC (notT h) | simp_all) rfl) rfl ?_
                      refine AOps.nil ?_
                      refine hK35 _ ?_
                      clear hK35 K35
                      refine AWp.cond rfl (fun hc36 => ?_) (fun hc36 => ?_)
                      · have hE := condT hc36 hE
                        try dsimp only at hc36
                        refine AWp.seqK fun K37 hK37 => ?_
                        refine AWp.region ?_
                        refine AOps.s0 (Cert.move (by conv => lhs; whnf)) rfl ?_
                        refine AOps.s0 (Cert.fieldV (Try.tab_ok _ _ rfl) rfl rfl (Try.tab_ok _ _ rfl) rfl rfl (by conv => lhs; whnf)) rfl ?_
                        refine AOps.s0 (Cert.loadV (Try.tab_ok _ _ rfl) rfl rfl rfl) rfl ?_
                        refine AOps.sHn (Cert.mapUpdate (Try.tab_ok _ _ rfl) rfl (Try.tab_ok _ _ rfl) rfl rfl rfl rfl (by (first | assumption | exact Heap.set_same _ _ _ | ((repeat (refine (Heap.set_other _ _ (by first | assumption | (apply Ne.symm; assumption))).trans ?_)); first | assumption | exact Heap.set_same _ _ _) | (simp only [Heap.set_set, Heap.set_same]; done) | (simp [Heap.set, *]; done))) (seen_upd _ _) rfl) rfl rfl ?_
                        refine AOps.heq (h' := ((H.set c2 (some (.map (seenM y25_c2)))).set c3 (some (.map (seenM (insS y26_c3 x14.FName)))))) (by first | rfl | (rw [Heap.set_set]; rfl) | (funext n_; simp only [Heap.set]; (repeat' split) <;> first | rfl | (exfalso; simp_all; done) | (simp_all; done))) ?_
                        refine AOps.nil ?_
                        refine hK37 _ ?_
                        clear hK37 K37
                        refine AWp.region ?_
                        refine AOps.s0 (Cert.move (by conv => lhs; whnf)) rfl ?_
                        refine AOps.s0 (Cert.fieldV (Try.tab_ok _ _ rfl) rfl rfl (Try.tab_ok _ _ rfl) rfl rfl (by conv => lhs; whnf)) rfl ?_
                        refine AOps.s0 (Cert.loadV (Try.tab_ok _ _ rfl) rfl rfl rfl) rfl ?_
                        refine AOps.s0 (Cert.move (by conv => lhs; whnf)) rfl ?_
                        refine AOps.s0 (Cert.move (by conv => lhs; whnf)) rfl ?_
                        obtain ⟨x38, gx38, hE⟩ := bindO_some hE
                        refine AOps.sH (Cert.callH rfl rfl (ih_30 gx38 _ (by (first | assumption | exact Heap.set_same _ _ _ | ((repeat (refine (Heap.set_other _ _ (by first | assumption | (apply Ne.symm; assumption))).trans ?_)); first | assumption | exact Heap.set_same _ _ _) | (simp only [Heap.set_set, Heap.set_same]; done) | (simp [Heap.set, *]; done))) (by (first | assumption | exact Heap.set_same _ _ _ | ((repeat (refine (Heap.set_other _ _ (by first | assumption | (apply Ne.symm; assumption))).trans ?_)); first | assumption | exact Heap.set_same _ _ _) | (simp only [Heap.set_set, Heap.set_same]; done) | (simp [Heap.set, *]; done))) (by (first | assumption | exact Heap.set_same _ _ _ | ((repeat (refine (Heap.set_other _ _ (by first | assumption | (apply Ne.symm; assumption))).trans ?_)); first | assumption | exact Heap.set_same _ _ _) | (simp only [Heap.set_set, Heap.set_same]; done) | (simp [Heap.set, *]; done))) (by (first | assumption | exact Heap.set_same _ _ _ | ((repeat (refine (Heap.set_other _ _ (by first | assumption | (apply Ne.symm; assumption))).trans ?_)); first | assumption | exact Heap.set_same _ _ _) | (simp only [Heap.set_set, Heap.set_same]; done) | (simp [Heap.set, *]; done))))) rfl ?_
                        refine AOps.heq (h' := ((H.set c2 (some (.map (seenM x38.1)))).set c3 (some (.map (seenM x38.2))))) (by first | rfl | (rw [Heap.set_set]; rfl) | (funext n_; simp only [Heap.set]; (repeat' split) <;> first | rfl | (exfalso; simp_all; done) | (simp_all; done))) ?_
                        refine AOps.nil ?_
                        exact hK30 _ (x38.1, x38.2) (Weak.to (by repeat (first | exact Keeps.nil | refine Keeps.c rfl rfl ?_ | refine Keeps.c (by (first | (first | rfl | ((conv => lhs; whnf); first | (simp [cellsA, faultsT, faultsD, namesD, Fault.mk_c, Nat.add_assoc, empty_append, Bool.and_assoc]; done) | (simp [cellsA, faultsT, faultsD, namesD, Nat.add_assoc, empty_append, Bool.and_assoc]; repeat (first | rfl | constructor)))) | rfl | (simp only [get_same, ev]; done) | (simp [*, cellsA]; done) | (show V.a (A.d (D.slice _ _ _ _)) = V.a (A.d (D.slice _ _ _ _)); simp [*, cellsA]; done))) rfl ?_)) (by repeat (first | exact Pfx.nil | apply Pfx.cons)) (by first | rfl | (first | rfl | (simp only [Heap.set_set, List.length_append, List.length_nil, List.length_cons, List.length_map, List.length_singleton, Nat.zero_add]; done) | (simp [Heap.set_set, Nat.add_assoc]; done)) | (((funext n; simp only [Heap.set]; (repeat' split) <;> simp_all)) <;> first | rfl | exact ⟨rfl, rfl⟩))) hE
                      · have hE := condF hc36 hE
                        try dsimp only at hc36
                        refine AWp.skip ?_
                        exact hK30 _ (y25_c2, y26_c3) (Weak.to (by repeat (first | exact Keeps.nil | refine Keeps.c rfl rfl ?_ | refine Keeps.c (by (first | (first | rfl | ((conv => lhs; whnf); first | (simp [cellsA, faultsT, faultsD, namesD, Fault.mk_c, Nat.add_assoc, empty_append, Bool.and_assoc]; done) | (simp [cellsA, faultsT, faultsD, namesD, Nat.add_assoc, empty_append, Bool.and_assoc]; repeat (first | rfl | constructor)))) | rfl | (simp only [get_same, ev]; done) | (simp [*, cellsA]; done) | (show V.a (A.d (D.slice _ _ _ _)) = V.a (A.d (D.slice _ _ _ _)); simp [*, cellsA]; done))) rfl ?_)) (by repeat (first | exact Pfx.nil | apply Pfx.cons)) (by first | rfl | (first | rfl | (simp only [Heap.set_set, List.length_append, List.length_nil, List.length_cons, List.length_map, List.length_singleton, Nat.zero_add]; done) | (simp [Heap.set_set, Nat.add_assoc]; done)) | (((funext n; simp only [Heap.set]; (repeat' split) <;> simp_all)) <;> first | rfl | exact ⟨rfl, rfl⟩))) hE
                    · rintro ⟨y31_c2, y32_c3⟩ hE
                      try dsimp only at hE
                      unfold fields_checker_roots_j30 at hE
                      refine AWp.region ?_
                      refine AOps.s0 (Cert.addI rfl rfl (by first | omega | (dsimp only; omega)) (by first | omega | (dsimp only; omega))) rfl ?_
                      refine AOps.s0 (Cert.move (by conv => lhs; whnf)) rfl ?_
                      refine AOps.nil ?_
                      exact hK23 _ (n23, (s45_24 + 1), y31_c2, y32_c3) (Weak.to (by repeat (first | exact Keeps.nil | refine Keeps.c rfl rfl ?_ | refine Keeps.c (by (first | (first | rfl | ((conv => lhs; whnf); first | (simp [cellsA, faultsT, faultsD, namesD, Fault.mk_c, Nat.add_assoc, empty_append, Bool.and_assoc]; done) | (simp [cellsA, faultsT, faultsD, namesD, Nat.add_assoc, empty_append, Bool.and_assoc]; repeat (first | rfl | constructor)))) | rfl | (simp only [get_same, ev]; done) | (simp [*, cellsA]; done) | (show V.a (A.d (D.slice _ _ _ _)) = V.a (A.d (D.slice _ _ _ _)); simp [*, cellsA]; done))) rfl ?_)) (by repeat (first | exact Pfx.nil | apply Pfx.cons)) (by first | rfl | (first | rfl | (simp only [Heap.set_set, List.length_append, List.length_nil, List.length_cons, List.length_map, List.length_singleton, Nat.zero_add]; done) | (simp [Heap.set_set, Nat.add_assoc]; done)) | (((funext n; simp only [Heap.set]; (repeat' split) <;> simp_all)) <;> first | rfl | exact ⟨rfl, rfl⟩))) hE (Nat.lt_succ_self _)
                  · have hE := condF hc29 hE
                    try dsimp only at hc29
                    refine AWp.exit ?_
                    exact hK10 _ (y25_c2, y26_c3) (Weak.to (by repeat (first | exact Keeps.nil | refine Keeps.c rfl rfl ?_ | refine Keeps.c (by (first | (first | rfl | ((conv => lhs; whnf); first | (simp [cellsA, faultsT, faultsD, namesD, Fault.mk_c, Nat.add_assoc, empty_append, Bool.and_assoc]; done) | (simp [cellsA, faultsT, faultsD, namesD, Nat.add_assoc, empty_append, Bool.and_assoc]; repeat (first | rfl | constructor)))) | rfl | (simp only [get_same, ev]; done) | (simp [*, cellsA]; done) | (show V.a (A.d (D.slice _ _ _ _)) = V.a (A.d (D.slice _ _ _ _)); simp [*, cellsA]; done))) rfl ?_)) (by repeat (first | exact Pfx.nil | apply Pfx.cons)) (by first | rfl | (first | rfl | (simp only [Heap.set_set, List.length_append, List.length_nil, List.length_cons, List.length_map, List.length_singleton, Nat.zero_add]; done) | (simp [Heap.set_set, Nat.add_assoc]; done)) | (((funext n; simp only [Heap.set]; (repeat' split) <;> simp_all)) <;> first | rfl | exact ⟨rfl, rfl⟩))) hE
            · have hE := condF hc20 hE
              try dsimp only at hc20
              refine AWp.seqK fun K39 hK39 => ?_
              refine AWp.region ?_
              refine AOps.s0 (Cert.fieldV (Try.tab_ok _ _ rfl) rfl rfl (Try.tab_ok _ _ rfl) rfl rfl (by conv => lhs; whnf)) rfl ?_
              refine AOps.s0 (Cert.loadV (Try.tab_ok _ _ rfl) rfl rfl rfl) rfl ?_
              refine AOps.s0 (Cert.binS rfl rfl rfl) rfl ?_
              refine AOps.nil ?_
              refine hK39 _ ?_
              clear hK39 K39
              refine AWp.cond rfl (fun hc40 => ?_) (fun hc40 => ?_)
              · have hE := condT hc40 hE
                try dsimp only at hc40
                refine AWp.region ?_
                refine AOps.s0 (Cert.move (by conv => lhs; whnf)) rfl ?_
                refine AOps.s0 (Cert.fieldV (Try.tab_ok _ _ rfl) rfl rfl (Try.tab_ok _ _ rfl) rfl rfl (by conv => lhs; whnf)) rfl ?_
                refine AOps.s0 (Cert.loadV (Try.tab_ok _ _ rfl) rfl rfl rfl) rfl ?_
                refine AOps.sHn (Cert.mapUpdate (Try.tab_ok _ _ rfl) rfl (Try.tab_ok _ _ rfl) rfl rfl rfl rfl (by (first | assumption | exact Heap.set_same _ _ _ | ((repeat (refine (Heap.set_other _ _ (by first | assumption | (apply Ne.symm; assumption))).trans ?_)); first | assumption | exact Heap.set_same _ _ _) | (simp only [Heap.set_set, Heap.set_same]; done) | (simp [Heap.set, *]; done))) (seen_upd _ _) rfl) rfl rfl ?_
                refine AOps.heq (h' := ((H.set c2 (some (.map (seenM (insS y5_c2 x14.FAlias))))).set c3 (some (.map (seenM y6_c3))))) (by first | rfl | (rw [Heap.set_set]; rfl) | (funext n_; simp only [Heap.set]; (repeat' split) <;> first | rfl | (exfalso; simp_all; done) | (simp_all; done))) ?_
                refine AOps.nil ?_
                exact hK10 _ ((insS y5_c2 x14.FAlias), y6_c3) (Weak.to (by repeat (first | exact Keeps.nil | refine Keeps.c rfl rfl ?_ | refine Keeps.c (by (first | (first | rfl | ((conv => lhs; whnf); first | (simp [cellsA, faultsT, faultsD, namesD, Fault.mk_c, Nat.add_assoc, empty_append, Bool.and_assoc]; done) | (simp [cellsA, faultsT, faultsD, namesD, Nat.add_assoc, empty_append, Bool.and_assoc]; repeat (first | rfl | constructor)))) | rfl | (simp only [get_same, ev]; done) | (simp [*, cellsA]; done) | (show V.a (A.d (D.slice _ _ _ _)) = V.a (A.d (D.slice _ _ _ _)); simp [*, cellsA]; done))) rfl ?_)) (by repeat (first | exact Pfx.nil | apply Pfx.cons)) (by first | rfl | (first | rfl | (simp only [Heap.set_set, List.length_append, List.length_nil, List.length_cons, List.length_map, List.length_singleton, Nat.zero_add]; done) | (simp [Heap.set_set, Nat.add_assoc]; done)) | (((funext n; simp only [Heap.set]; (repeat' split) <;> simp_all)) <;> first | rfl | exact ⟨rfl, rfl⟩))) hE
              · have hE := condF hc40 hE
                try dsimp only at hc40
                refine AWp.region ?_
                refine AOps.s0 (Cert.move (by conv => lhs; whnf)) rfl ?_
                refine AOps.s0 (Cert.fieldV (Try.tab_ok _ _ rfl) rfl rfl (Try.tab_ok _ _ rfl) rfl rfl (by conv => lhs; whnf)) rfl ?_
                refine AOps.s0 (Cert.loadV (Try.tab_ok _ _ rfl) rfl rfl rfl) rfl ?_
                refine AOps.sHn (Cert.mapUpdate (Try.tab_ok _ _ rfl) rfl (Try.tab_ok _ _ rfl) rfl rfl rfl rfl (by (first | assumption | exact Heap.set_same _ _ _ | ((repeat (refine (Heap.set_other _ _ (by first | assumption | (apply Ne.symm; assumption))).trans ?_)); first | assumption | exact Heap.set_same _ _ _) | (simp only [Heap.set_set, Heap.set_same]; done) | (simp [Heap.set, *]; done))) (seen_upd _ _) rfl) rfl rfl ?_
                refine AOps.heq (h' := ((H.set c2 (some (.map (seenM (insS y5_c2 x14.FName))))).set c3 (some (.map (seenM y6_c3))))) (by first | rfl | (rw [Heap.set_set]; rfl) | (funext n_; simp only [Heap.set]; (repeat' split) <;> first | rfl | (exfalso; simp_all; done) | (simp_all; done))) ?_
                refine AOps.nil ?_
                exact hK10 _ ((insS y5_c2 x14.FName), y6_c3) (Weak.to (by repeat (first | exact Keeps.nil | refine Keeps.c rfl rfl ?_ | refine Keeps.c (by (first | (first | rfl | ((conv => lhs; whnf); first | (simp [cellsA, faultsT, faultsD, namesD, Fault.mk_c, Nat.add_assoc, empty_append, Bool.and_assoc]; done) | (simp [cellsA, faultsT, faultsD, namesD, Nat.add_assoc, empty_append, Bool.and_assoc]; repeat (first | rfl | constructor)))) | rfl | (simp only [get_same, ev]; done) | (simp [*, cellsA]; done) | (show V.a (A.d (D.slice _ _ _ _)) = V.a (A.d (D.slice _ _ _ _)); simp [*, cellsA]; done))) rfl ?_)) (by repeat (first | exact Pfx.nil | apply Pfx.cons)) (by first | rfl | (first | rfl | (simp only [Heap.set_set, List.length_append, List.length_nil, List.length_cons, List.length_map, List.length_singleton, Nat.zero_add]; done) | (simp [Heap.set_set, Nat.add_assoc]; done)) | (((funext n; simp only [Heap.set]; (repeat' split) <;> simp_all)) <;> first | rfl | exact ⟨rfl, rfl⟩))) hE
        · rintro ⟨y11_c2, y12_c3⟩ hE
          try dsimp only at hE
          unfold fields_checker_roots_j10 at hE
          refine AWp.region ?_
          refine AOps.s0 (Cert.addI rfl rfl (by first | omega | (dsimp only; omega)) (by first | omega | (dsimp only; omega))) rfl ?_
          refine AOps.s0 (Cert.move (by conv => lhs; whnf)) rfl ?_
          refine AOps.nil ?_
          exact hK3 _ (n3, (s14_4 + 1), y11_c2, y12_c3) (Weak.to (by repeat (first | exact Keeps.nil | refine Keeps.c rfl rfl ?_ | refine Keeps.c (by (first | (first | rfl | ((conv => lhs; whnf); first | (simp [cellsA, faultsT, faultsD, namesD, Fault.mk_c, Nat.add_assoc, empty_append, Bool.and_assoc]; done) | (simp [cellsA, faultsT, faultsD, namesD, Nat.add_assoc, empty_append, Bool.and_assoc]; repeat (first | rfl | constructor)))) | rfl | (simp only [get_same, ev]; done) | (simp [*, cellsA]; done) | (show V.a (A.d (D.slice _ _ _ _)) = V.a (A.d (D.slice _ _ _ _)); simp [*, cellsA]; done))) rfl ?_)) (by repeat (first | exact Pfx.nil | apply Pfx.cons)) (by first | rfl | (first | rfl | (simp only [Heap.set_set, List.length_append, List.length_nil, List.length_cons, List.length_map, List.length_singleton, Nat.zero_add]; done) | (simp [Heap.set_set, Nat.add_assoc]; done)) | (((funext n; simp only [Heap.set]; (repeat' split) <;> simp_all)) <;> first | rfl | exact ⟨rfl, rfl⟩))) hE (Nat.lt_succ_self _)
      · have hE := condF hc9 hE
        try dsimp only at hc9
        refine AWp.exit ?_
        repeat (first | refine xBlock_normal ?_ | refine xThen_exit ?_ | refine xBlock_exit ?_)
        obtain rfl := Option.some.inj hE
        refine retQ.normalF ((H.set c2 (some (.map (seenM y5_c2)))).set c3 (some (.map (seenM y6_c3)))) (xs := []) rfl ⟨rfl, rfl⟩ ?_
        exact (fun _ _ h => h)
theorem fields_checker_roots_all : ∀ (n : Nat), (∀ {a0 : Fields_checker} {a1 : (Sl TSel)} {a2 : (List Bs)} {a3 : (List Bs)} {w1 : Option Nat} {q0_2 : Option Nat} {c0 : Nat} {c2 : Nat} {c3 : Nat} {r : ((List Bs) × (List Bs))}, fields_checker_roots_n n a0 a1 a2 a3 = some r → ∀ (H : Heap) (hc0 : H c0 = some (.cells (Fields_checker.cg q0_2 a0))) (hc2 : H c2 = some (.map (seenM a2))) (hc3 : H c3 = some (.map (seenM a3))) (ne_c3_c2 : c3 ≠ c2), ACalls Try.prog 30 [.d (.ptr c0 0), .d (Sl.d 7 TSel.c w1 a1), .d (.map c2), .d (.map c3)] H fun v h' => v = .tup [] ∧ h' = ((H.set c2 (some (.map (seenM r.1)))).set c3 (some (.map (seenM r.2)))))
  | 0 => fun hE => by first | cases hE | (rw [fields_checker_roots_n] at hE; cases hE)
  | n + 1 => fields_checker_roots_step n (fields_checker_roots_all n)
def fields_checker_roots (a0 : Fields_checker) (a1 : (Sl TSel)) (a2 : (List Bs)) (a3 : (List Bs)) : Option ((List Bs) × (List Bs)) := fields_checker_roots_n F0 a0 a1 a2 a3
theorem fields_checker_roots_walk {a0 : Fields_checker} {a1 : (Sl TSel)} {a2 : (List Bs)} {a3 : (List Bs)} {w1 : Option Nat} {q0_2 : Option Nat} {c0 : Nat} {c2 : Nat} {c3 : Nat} {r : ((List Bs) × (List Bs))} (hE : fields_checker_roots a0 a1 a2 a3 = some r) (H : Heap) (hc0 : H c0 = some (.cells (Fields_checker.cg q0_2 a0))) (hc2 : H c2 = some (.map (seenM a2))) (hc3 : H c3 = some (.map (seenM a3))) (ne_c3_c2 : c3 ≠ c2) : ACalls Try.prog 30 [.d (.ptr c0 0), .d (Sl.d 7 TSel.c w1 a1), .d (.map c2), .d (.map c3)] H fun v h' => v = .tup [] ∧ h' = ((H.set c2 (some (.map (seenM r.1)))).set c3 (some (.map (seenM r.2)))) := (fields_checker_roots_all F0) hE H hc0 hc2 hc3 ne_c3_c2
def fields_checker_add (a0 : Fields_checker) (a1 : Bool) (a2 : Int) (a3 : Bs) : Option Fields_checker := bif a1 then ((appC 24 a0.Fout (⟨false, [(TFault.mk a2 a3)]⟩ : Sl TFault)).bind fun x3 => some (Fields_checker.mk a0.Fd a0.Fq x3)) else (some a0)
set_option maxRecDepth 100000 in
set_option maxHeartbeats 2000000 in
theorem fields_checker_add_walk {a0 : Fields_checker} {a1 : Bool} {a2 : Int} {a3 : Bs}  {c0 : Nat} {c0_2 : Nat} {r : Fields_checker} (hE : fields_checker_add a0 a1 a2 a3 = some r) (H : Heap) (hc0 : H c0 = some (.cells (Fields_checker.cg (some c0_2) a0))) (ht0_2 : H c0_2 = some (.tok 2 a0.Fout.l.length)) : ACalls Try.prog 31 [.d (.ptr c0 0), .d (.bool a1), .d (.int .i64 a2), .d (.str a3)] H fun v h' => v = .tup [] ∧ h' = ((H.set c0_2 (some (.tok 2 r.Fout.l.length))).set c0 (some (.cells (Fields_checker.cg (some c0_2) r)))) := by
  unfold fields_checker_add at hE
  refine ACalls.of_wp (fn := Try.f31) (c := _) Try.tab_ok (fun _ _ => Try.call31 _ _) Try.func31 rfl (n := 21) rfl (rs := []) rfl rfl ?_
  have ne_c0_c0_2 : c0 ≠ c0_2 := fun e_ => by subst e_; simp_all
  refine AWp.heqA (h' := ((H.set c0_2 (some (.tok 2 a0.Fout.l.length))).set c0 (some (.cells (Fields_checker.cg (some c0_2) a0))))) (by funext n_; simp only [Heap.set]; (repeat' split) <;> simp_all) ?_
  refine AWp.seqK fun K1 hK1 => ?_
  refine AWp.region ?_
  refine AOps.s0 (Cert.move (by conv => lhs; whnf)) rfl ?_
  refine AOps.nil ?_
  refine hK1 _ ?_
  clear hK1 K1
  refine AWp.cond rfl (fun hc2 => ?_) (fun hc2 => ?_)
  · have hE := condT hc2 hE
    try dsimp only at hc2
    refine AWp.region ?_
    refine AOps.s0 (Cert.move (by conv => lhs; whnf)) rfl ?_
    refine AOps.s0 (Cert.move (by conv => lhs; whnf)) rfl ?_
    refine AOps.s0 (Cert.nilP rfl) rfl ?_
    refine AOps.s0 (Cert.fieldP (Try.tab_ok _ _ rfl) rfl rfl (Try.tab_ok _ _ rfl) rfl rfl) rfl ?_
    refine AOps.s0 (Cert.loadP (Try.tab_ok _ _ rfl) rfl rfl (by (first | assumption | exact Heap.set_same _ _ _ | ((repeat (refine (Heap.set_other _ _ (by first | assumption | (apply Ne.symm; assumption))).trans ?_)); first | assumption | exact Heap.set_same _ _ _) | (simp only [Heap.set_set, Heap.set_same]; done) | (simp [Heap.set, *]; done))) rfl) rfl ?_
    refine AOps.s0 (Cert.move (by conv => lhs; whnf)) rfl ?_
    refine AOps.s0 (Cert.move (by conv => lhs; whnf)) rfl ?_
    refine AOps.s0 (Cert.build Try.tab_ok rfl rfl rfl rfl rfl rfl) rfl ?_
    refine AOps.s0 (Cert.buildSlice (Try.tab_ok _ _ rfl) rfl (Try.tab_ok _ _ rfl) rfl rfl rfl rfl rfl rfl) rfl ?_
    obtain ⟨x3, gx3, hE⟩ := bindO_some hE
    refine AOps.sH (Cert.appM (f := TFault.c) (Try.tab_ok _ _ rfl) rfl (Try.tab_ok _ _ rfl) (Try.tab_ok _ _ rfl) ⟨_, rfl⟩ rfl rfl (by decide) rfl rfl rfl rfl (by (first | assumption | exact Heap.set_same _ _ _ | ((repeat (refine (Heap.set_other _ _ (by first | assumption | (apply Ne.symm; assumption))).trans ?_)); first | assumption | exact Heap.set_same _ _ _) | (simp only [Heap.set_set, Heap.set_same]; done) | (simp [Heap.set, *]; done))) rfl gx3) rfl ?_
    refine AOps.heq (h' := ((H.set c0_2 (some (.tok 2 x3.l.length))).set c0 (some (.cells (Fields_checker.cg (some c0_2) a0))))) (by first | rfl | (rw [Heap.set_set]; rfl) | (funext n_; simp only [Heap.set]; (repeat' split) <;> first | rfl | (exfalso; simp_all; done) | (simp_all; done))) ?_
    refine AOps.s0 (Cert.nilP rfl) rfl ?_
    refine AOps.s0 (Cert.fieldP (Try.tab_ok _ _ rfl) rfl rfl (Try.tab_ok _ _ rfl) rfl rfl) rfl ?_
    refine AOps.sHn (Cert.storeP1 (Try.tab_ok _ _ rfl) rfl rfl (by (first | assumption | exact Heap.set_same _ _ _ | ((repeat (refine (Heap.set_other _ _ (by first | assumption | (apply Ne.symm; assumption))).trans ?_)); first | assumption | exact Heap.set_same _ _ _) | (simp only [Heap.set_set, Heap.set_same]; done) | (simp [Heap.set, *]; done))) rfl (by repeat (first | exact SetAt.zero | apply SetAt.succ))) rfl rfl ?_
    refine AOps.heq (h' := ((H.set c0_2 (some (.tok 2 x3.l.length))).set c0 (some (.cells (Fields_checker.cg (some c0_2) (Fields_checker.mk a0.Fd a0.Fq x3)))))) (by first | rfl | (rw [Heap.set_set]; rfl) | (funext n_; simp only [Heap.set]; (repeat' split) <;> first | rfl | (exfalso; simp_all; done) | (simp_all; done))) ?_
    refine AOps.nil ?_
    repeat (first | refine xBlock_normal ?_ | refine xThen_exit ?_ | refine xBlock_exit ?_)
    obtain rfl := Option.some.inj hE
    refine retQ.normalF ((H.set c0_2 (some (.tok 2 x3.l.length))).set c0 (some (.cells (Fields_checker.cg (some c0_2) (Fields_checker.mk a0.Fd a0.Fq x3))))) (xs := []) rfl ⟨rfl, rfl⟩ ?_
    exact (fun _ _ h => h)
  · have hE := condF hc2 hE
    try dsimp only at hc2
    refine AWp.skip ?_
    repeat (first | refine xBlock_normal ?_ | refine xThen_exit ?_ | refine xBlock_exit ?_)
    obtain rfl := Option.some.inj hE
    refine retQ.normalF ((H.set c0_2 (some (.tok 2 a0.Fout.l.length))).set c0 (some (.cells (Fields_checker.cg (some c0_2) a0)))) (xs := []) rfl ⟨rfl, rfl⟩ ?_
    exact (fun _ _ h => h)
def fields_needed (a0 : Bs) (a1 : Bs) : Option TInput := (typeref_Named a1).bind fun x3 => (typeref_NonNull x3).bind fun x4 => some (TInput.mk a0 x4 false TValue.zero (Sl.nil : Sl TDir))
set_option maxRecDepth 100000 in
set_option maxHeartbeats 2000000 in
theorem fields_needed_walk {a0 : Bs} {a1 : Bs}   {r : TInput} (hE : fields_needed a0 a1 = some r) (H : Heap)  : ACalls Try.prog 72 [.d (.str a0), .d (.str a1)] H fun v h' => v = .a (.agg (TInput.c r)) ∧ h' = H := by
  unfold fields_needed at hE
  refine ACalls.of_wp (fn := Try.f72) (c := _) Try.tab_ok (fun _ _ => Try.call72 _ _) Try.func72 rfl (n := 10) rfl (rs := [.cell 4 86]) rfl rfl ?_
  refine AWp.seqK fun K1 hK1 => ?_
  refine AWp.region ?_
  refine AOps.sL (Cert.allocL (Try.tab_ok _ _ rfl) rfl (by repeat (first | exact Snoc.nil | apply Snoc.cons))) rfl ?_
  refine AOps.nil ?_
  refine hK1 _ ?_
  clear hK1 K1
  refine AWp.seqK fun K2 hK2 => ?_
  refine AWp.region ?_
  refine AOps.s0 (Cert.move (by conv => lhs; whnf)) rfl ?_
  refine AOps.s0 (Cert.move (by conv => lhs; whnf)) rfl ?_
  obtain ⟨x3, gx3, hE⟩ := bindO_some hE
  refine AOps.s0 (Cert.callP rfl rfl (fun H => typeref_Named_walk gx3 H)) rfl ?_
  obtain ⟨x4, gx4, hE⟩ := bindO_some hE
  refine AOps.s0 (Cert.callP rfl rfl (fun H => typeref_NonNull_walk gx4 H)) rfl ?_
  refine AOps.s0 (Cert.build Try.tab_ok rfl rfl rfl rfl rfl rfl) rfl ?_
  refine AOps.sLn (Cert.storeLF (Try.tab_ok _ _ rfl) rfl rfl rfl rfl rfl (by repeat (first | exact SetAt.zero | apply SetAt.succ))) ?_
  refine AOps.nil ?_
  refine hK2 _ ?_
  clear hK2 K2
  refine AWp.ret ?_
  repeat (first | refine xBlock_ret ?_ | refine xThen_ret ?_)
  obtain rfl := Option.some.inj hE
  refine retQ.retF H rfl ⟨rfl, rfl⟩ ?_
  exact (fun _ _ h => h)
def fields_argsOf (a0 : Bs) (a1 : Bool) : Option (Sl TInput) := bif (((a0 == ([115, 107, 105, 112] : Bs))) || ((a0 == ([105, 110, 99, 108, 117, 100, 101] : Bs)))) then ((fields_needed ([105, 102] : Bs) ([66, 111, 111, 108, 101, 97, 110] : Bs)).bind fun x6 => some (⟨false, [x6]⟩ : Sl TInput)) else (bif (((a0 == ([100, 101, 102, 101, 114] : Bs))) && (!a1)) then ((fields_needed ([108, 97, 98, 101, 108] : Bs) ([83, 116, 114, 105, 110, 103] : Bs)).bind fun x10 => some (⟨false, [x10]⟩ : Sl TInput)) else (bif (((a0 == ([115, 116, 114, 101, 97, 109] : Bs))) && a1) then ((fields_needed ([108, 97, 98, 101, 108] : Bs) ([83, 116, 114, 105, 110, 103] : Bs)).bind fun x14 => (fields_needed ([105, 110, 105, 116, 105, 97, 108, 67, 111, 117, 110, 116] : Bs) ([73, 110, 116] : Bs)).bind fun x15 => some (⟨false, [x14, x15]⟩ : Sl TInput)) else (some (Sl.nil : Sl TInput))))
set_option maxRecDepth 100000 in
set_option maxHeartbeats 2000000 in
theorem fields_argsOf_walk {a0 : Bs} {a1 : Bool}   {r : (Sl TInput)} (hE : fields_argsOf a0 a1 = some r) (H : Heap)  : ACalls Try.prog 58 [.d (.str a0), .d (.bool a1)] H fun v h' => v = .a (.d (Sl.d 10 TInput.c none r)) ∧ h' = H := by
  unfold fields_argsOf at hE
  refine ACalls.of_wp (fn := Try.f58) (c := _) Try.tab_ok (fun _ _ => Try.call58 _ _) Try.func58 rfl (n := 32) rfl (rs := [.tmp 4]) rfl rfl ?_
  refine AWp.seqK fun K1 hK1 => ?_
  refine AWp.region ?_
  refine AOps.s0 (Cert.assignNil (k' := 10) rfl) rfl ?_
  refine AOps.nil ?_
  refine hK1 _ ?_
  clear hK1 K1
  refine AWp.seqK fun K2 hK2 => ?_
  refine AWp.block ?_
  refine AWp.seqK fun K3 hK3 => ?_
  refine AWp.region ?_
  refine AOps.s0 (Cert.move (by conv => lhs; whnf)) rfl ?_
  refine AOps.s0 (Cert.binS rfl rfl rfl) rfl ?_
  refine AOps.s0 (Cert.move (by conv => lhs; whnf)) rfl ?_
  refine AOps.gC rfl rfl (fun hC => Cert.move (by conv => lhs; whnf)) rfl ?_
  refine AOps.gC rfl rfl (fun hC => Cert.ungd (k := 9) rfl (by first | exact hC | exact andL hC | exact andL (andL hC) | exact andL (andL (andL hC)) | exact andR hC | simp_all) (Cert.binS rfl rfl rfl)) rfl ?_
  refine AOps.s0 (Cert.pickOr rfl rfl rfl (fun h => by first | exact h | exact notT h | exact andI hC h | exact andI hC (notT h) | simp_all)) rfl ?_
  refine AOps.s0 (Cert.assign (by conv => lhs; whnf)) rfl ?_
  refine AOps.nil ?_
  refine hK3 _ ?_
  clear hK3 K3
  refine AWp.cond rfl (fun hc4 => ?_) (fun hc4 => ?_)
  · have hE := condT hc4 hE
    try dsimp only at hc4
    refine AWp.seqK fun K5 hK5 => ?_
    refine AWp.region ?_
    obtain ⟨x6, gx6, hE⟩ := bindO_some hE
    refine AOps.s0 (Cert.callP rfl rfl (fun H => fields_needed_walk gx6 H)) rfl ?_
    refine AOps.s0 (Cert.buildSlice (Try.tab_ok _ _ rfl) rfl (Try.tab_ok _ _ rfl) rfl rfl rfl rfl rfl rfl) rfl ?_
    refine AOps.s0 (Cert.assign (by conv => lhs; whnf)) rfl ?_
    refine AOps.nil ?_
    refine hK5 _ ?_
    clear hK5 K5
    refine AWp.ret ?_
    repeat (first | refine xBlock_ret ?_ | refine xThen_ret ?_)
    obtain rfl := Option.some.inj hE
    refine retQ.retF H rfl ⟨rfl, rfl⟩ ?_
    exact (fun _ _ h => h)
  · have hE := condF hc4 hE
    try dsimp only at hc4
    refine AWp.seqK fun K7 hK7 => ?_
    refine AWp.region ?_
    refine AOps.s0 (Cert.move (by conv => lhs; whnf)) rfl ?_
    refine AOps.s0 (Cert.binS rfl rfl rfl) rfl ?_
    refine AOps.s0 (Cert.move (by conv => lhs; whnf)) rfl ?_
    refine AOps.gC rfl rfl (fun hC => Cert.move (by conv => lhs; whnf)) rfl ?_
    refine AOps.gC rfl rfl (fun hC => Cert.ungd (k := 18) rfl (by first | exact hC | exact andL hC | exact andL (andL hC) | exact andL (andL (andL hC)) | exact andR hC | simp_all) (Cert.notB rfl)) rfl ?_
    refine AOps.s0 (Cert.pickAnd rfl rfl (fun h => by first | exact h | exact notT h | exact andI hC h | exact andI hC (notT h) | simp_all) rfl) rfl ?_
    refine AOps.s0 (Cert.assign (by conv => lhs; whnf)) rfl ?_
    refine AOps.nil ?_
    refine hK7 _ ?_
    clear hK7 K7
    refine AWp.cond rfl (fun hc8 => ?_) (fun hc8 => ?_)
    · have hE := condT hc8 hE
      try dsimp only at hc8
      refine AWp.seqK fun K9 hK9 => ?_
      refine AWp.region ?_
      obtain ⟨x10, gx10, hE⟩ := bindO_some hE
      refine AOps.s0 (Cert.callP rfl rfl (fun H => fields_needed_walk gx10 H)) rfl ?_
      refine AOps.s0 (Cert.buildSlice (Try.tab_ok _ _ rfl) rfl (Try.tab_ok _ _ rfl) rfl rfl rfl rfl rfl rfl) rfl ?_
      refine AOps.s0 (Cert.assign (by conv => lhs; whnf)) rfl ?_
      refine AOps.nil ?_
      refine hK9 _ ?_
      clear hK9 K9
      refine AWp.ret ?_
      repeat (first | refine xBlock_ret ?_ | refine xThen_ret ?_)
      obtain rfl := Option.some.inj hE
      refine retQ.retF H rfl ⟨rfl, rfl⟩ ?_
      exact (fun _ _ h => h)
    · have hE := condF hc8 hE
      try dsimp only at hc8
      refine AWp.seqK fun K11 hK11 => ?_
      refine AWp.region ?_
      refine AOps.s0 (Cert.move (by conv => lhs; whnf)) rfl ?_
      refine AOps.s0 (Cert.binS rfl rfl rfl) rfl ?_
      refine AOps.s0 (Cert.move (by conv => lhs; whnf)) rfl ?_
      refine AOps.gC rfl rfl (fun hC => Cert.move (by conv => lhs; whnf)) rfl ?_
      refine AOps.s0 (Cert.pickAnd rfl rfl (fun h => by first | exact h | exact notT h | exact andI hC h | exact andI hC (notT h) | simp_all) rfl) rfl ?_
      refine AOps.s0 (Cert.assign (by conv => lhs; whnf)) rfl ?_
      refine AOps.nil ?_
      refine hK11 _ ?_
      clear hK11 K11
      refine AWp.cond rfl (fun hc12 => ?_) (fun hc12 => ?_)
      · have hE := condT hc12 hE
        try dsimp only at hc12
        refine AWp.seqK fun K13 hK13 => ?_
        refine AWp.region ?_
        obtain ⟨x14, gx14, hE⟩ := bindO_some hE
        refine AOps.s0 (Cert.callP rfl rfl (fun H => fields_needed_walk gx14 H)) rfl ?_
        obtain ⟨x15, gx15, hE⟩ := bindO_some hE
        refine AOps.s0 (Cert.callP rfl rfl (fun H => fields_needed_walk gx15 H)) rfl ?_
        refine AOps.s0 (Cert.buildSlice (Try.tab_ok _ _ rfl) rfl (Try.tab_ok _ _ rfl) rfl rfl rfl rfl rfl rfl) rfl ?_
        refine AOps.s0 (Cert.assign (by conv => lhs; whnf)) rfl ?_
        refine AOps.nil ?_
        refine hK13 _ ?_
        clear hK13 K13
        refine AWp.ret ?_
        repeat (first | refine xBlock_ret ?_ | refine xThen_ret ?_)
        obtain rfl := Option.some.inj hE
        refine retQ.retF H rfl ⟨rfl, rfl⟩ ?_
        exact (fun _ _ h => h)
      · have hE := condF hc12 hE
        try dsimp only at hc12
        refine AWp.skip ?_
        refine hK2 _ ?_
        clear hK2 K2
        refine AWp.seqK fun K16 hK16 => ?_
        refine AWp.region ?_
        refine AOps.s0 (Cert.assignNil (k' := 10) rfl) rfl ?_
        refine AOps.nil ?_
        refine hK16 _ ?_
        clear hK16 K16
        refine AWp.ret ?_
        repeat (first | refine xBlock_ret ?_ | refine xThen_ret ?_)
        obtain rfl := Option.some.inj hE
        refine retQ.retF H rfl ⟨rfl, rfl⟩ ?_
        exact (fun _ _ h => h)
end Go.Proofs

namespace Go.Proofs
open Go Go.Ab
def typeref_Nullable_j3 (a0 : TRef)  (s3_4 : (Sl Int)) : Option TRef := (slices_Clone_intint s3_4).bind fun x6 => some (TRef.mk a0.FName x6)
def typeref_Nullable (a0 : TRef) : Option TRef := (typeref_IsNonNull a0).bind fun x8 => bif x8 then ((partC a0.FWraps (some (1 : Int)) none).bind fun x10 => typeref_Nullable_j3 a0  x10) else (typeref_Nullable_j3 a0  a0.FWraps)
set_option maxRecDepth 100000 in
set_option maxHeartbeats 2000000 in
theorem typeref_Nullable_walk {a0 : TRef}   {r : TRef} (hE : typeref_Nullable a0 = some r) (H : Heap)  : ACalls Try.prog 73 [.agg (TRef.c a0)] H fun v h' => v = .a (.agg (TRef.c r)) ∧ h' = H := by
  unfold typeref_Nullable at hE
  refine ACalls.of_wp (fn := Try.f73) (c := _) Try.tab_ok (fun _ _ => Try.call73 _ _) Try.func73 rfl (n := 15) rfl (rs := [.cell 2 29]) rfl rfl ?_
  refine AWp.seqK fun K1 hK1 => ?_
  refine AWp.region ?_
  refine AOps.s0 (Cert.boxV rfl) rfl ?_
  refine AOps.sL (Cert.allocL (Try.tab_ok _ _ rfl) rfl (by repeat (first | exact Snoc.nil | apply Snoc.cons))) rfl ?_
  refine AOps.nil ?_
  refine hK1 _ ?_
  clear hK1 K1
  refine AWp.seqK fun K2 hK2 => ?_
  refine AWp.region ?_
  refine AOps.s0 (Cert.fieldV (Try.tab_ok _ _ rfl) rfl rfl (Try.tab_ok _ _ rfl) rfl rfl (by conv => lhs; whnf)) rfl ?_
  refine AOps.s0 (Cert.loadV (Try.tab_ok _ _ rfl) rfl rfl rfl) rfl ?_
  refine AOps.s0 (Cert.assign (by conv => lhs; whnf)) rfl ?_
  refine AOps.nil ?_
  refine hK2 _ ?_
  clear hK2 K2
  refine AWp.seqJH (KeepsT.cons (k := 1) (by conv => lhs; whnf) (KeepsT.cons (k := 2) (by conv => lhs; whnf) KeepsT.nil)) (fun (z : (Sl Int)) => [(3, .a (.d (Sl.d 1 (intE .i64) none z)))]) (fun z => H) (fun z => typeref_Nullable_j3 a0 z = some r) ?_ ?_
  · intro K3 hK3
    refine AWp.seqK fun K7 hK7 => ?_
    refine AWp.region ?_
    refine AOps.s0 (Cert.loadV (Try.tab_ok _ _ rfl) rfl rfl rfl) rfl ?_
    obtain ⟨x8, gx8, hE⟩ := bindO_some hE
    refine AOps.s0 (Cert.callP rfl rfl (fun H => typeref_IsNonNull_walk gx8 H)) rfl ?_
    refine AOps.nil ?_
    refine hK7 _ ?_
    clear hK7 K7
    refine AWp.cond rfl (fun hc9 => ?_) (fun hc9 => ?_)
    · have hE := condT hc9 hE
      try dsimp only at hc9
      refine AWp.region ?_
      refine AOps.s0 (Cert.move (by conv => lhs; whnf)) rfl ?_
      obtain ⟨x10, gx10, hE⟩ := bindO_some hE
      refine AOps.s0 (Cert.partM (f := (intE .i64)) (l := (some (1 : Int))) (r := none) (Try.tab_ok _ _ rfl) rfl (Try.tab_ok _ _ rfl) rfl rfl rfl trivial gx10) rfl ?_
      refine AOps.s0 (Cert.assign (by conv => lhs; whnf)) rfl ?_
      refine AOps.nil ?_
      exact hK3 _ x10 (Weak.to (by repeat (first | exact Keeps.nil | refine Keeps.c rfl rfl ?_ | refine Keeps.c (by (first | (first | rfl | ((conv => lhs; whnf); first | (simp [cellsA, faultsT, faultsD, namesD, Fault.mk_c, Nat.add_assoc, empty_append, Bool.and_assoc]; done) | (simp [cellsA, faultsT, faultsD, namesD, Nat.add_assoc, empty_append, Bool.and_assoc]; repeat (first | rfl | constructor)))) | rfl | (simp only [get_same, ev]; done) | (simp [*, cellsA]; done) | (show V.a (A.d (D.slice _ _ _ _)) = V.a (A.d (D.slice _ _ _ _)); simp [*, cellsA]; done))) rfl ?_)) (by repeat (first | exact Pfx.nil | apply Pfx.cons)) (by first | rfl | (first | rfl | (simp only [Heap.set_set, List.length_append, List.length_nil, List.length_cons, List.length_map, List.length_singleton, Nat.zero_add]; done) | (simp [Heap.set_set, Nat.add_assoc]; done)) | (((funext n; simp only [Heap.set]; (repeat' split) <;> simp_all)) <;> first | rfl | exact ⟨rfl, rfl⟩))) hE
    · have hE := condF hc9 hE
      try dsimp only at hc9
      refine AWp.skip ?_
      exact hK3 _ a0.FWraps (Weak.to (by repeat (first | exact Keeps.nil | refine Keeps.c rfl rfl ?_ | refine Keeps.c (by (first | (first | rfl | ((conv => lhs; whnf); first | (simp [cellsA, faultsT, faultsD, namesD, Fault.mk_c, Nat.add_assoc, empty_append, Bool.and_assoc]; done) | (simp [cellsA, faultsT, faultsD, namesD, Nat.add_assoc, empty_append, Bool.and_assoc]; repeat (first | rfl | constructor)))) | rfl | (simp only [get_same, ev]; done) | (simp [*, cellsA]; done) | (show V.a (A.d (D.slice _ _ _ _)) = V.a (A.d (D.slice _ _ _ _)); simp [*, cellsA]; done))) rfl ?_)) (by repeat (first | exact Pfx.nil | apply Pfx.cons)) (by first | rfl | (first | rfl | (simp only [Heap.set_set, List.length_append, List.length_nil, List.length_cons, List.length_map, List.length_singleton, Nat.zero_add]; done) | (simp [Heap.set_set, Nat.add_assoc]; done)) | (((funext n; simp only [Heap.set]; (repeat' split) <;> simp_all)) <;> first | rfl | exact ⟨rfl, rfl⟩))) hE
  · rintro s3_4 hE
    try dsimp only at hE
    unfold typeref_Nullable_j3 at hE
    refine AWp.seqK fun K5 hK5 => ?_
    refine AWp.draw rfl ?_
    refine DOps.s0 (Cert.fieldV (Try.tab_ok _ _ rfl) rfl rfl (Try.tab_ok _ _ rfl) rfl rfl (by conv => lhs; whnf)) rfl ?_
    refine DOps.s0 (Cert.loadV (Try.tab_ok _ _ rfl) rfl rfl rfl) rfl ?_
    refine DOps.s0 (Cert.move (by conv => lhs; whnf)) rfl ?_
    obtain ⟨x6, gx6, hE⟩ := bindO_some hE
    refine DOps.s0 (Cert.callP rfl rfl (fun H => slices_Clone_intint_walk gx6 H)) rfl ?_
    refine DOps.s0 (Cert.build Try.tab_ok rfl rfl rfl rfl rfl rfl) rfl ?_
    refine DOps.sLn (Cert.storeLF (Try.tab_ok _ _ rfl) rfl rfl rfl rfl rfl (by repeat (first | exact SetAt.zero | apply SetAt.succ))) ?_
    refine DOps.nil (by decide +kernel) ?_
    refine hK5 _ ?_
    clear hK5 K5
    refine AWp.ret ?_
    repeat (first | refine xBlock_ret ?_ | refine xThen_ret ?_)
    obtain rfl := Option.some.inj hE
    refine retQ.retF H rfl ⟨rfl, rfl⟩ ?_
    exact (fun _ _ h => h)
def typeref_IsList (a0 : TRef) : Option Bool := (typeref_Nullable a0).bind fun x3 => guardO ((decide ((0 : Int) < ((x3.FWraps.l.length : Nat) : Int)))) (x3.FWraps.l[0]?) (0 : Int) fun x6 => some ((decide ((0 : Int) < ((x3.FWraps.l.length : Nat) : Int))) && (decide (x6 = (2 : Int))))
set_option maxRecDepth 100000 in
set_option maxHeartbeats 2000000 in
theorem typeref_IsList_walk {a0 : TRef}   {r : Bool} (hE : typeref_IsList a0 = some r) (H : Heap)  : ACalls Try.prog 59 [.agg (TRef.c a0)] H fun v h' => v = .a (.d (.bool r)) ∧ h' = H := by
  unfold typeref_IsList at hE
  refine ACalls.of_wp (fn := Try.f59) (c := _) Try.tab_ok (fun _ _ => Try.call59 _ _) Try.func59 rfl (n := 16) rfl (rs := [.tmp 2]) rfl rfl ?_
  refine AWp.seqK fun K1 hK1 => ?_
  refine AWp.region ?_
  refine AOps.sL (Cert.boxL rfl (by repeat (first | exact Snoc.nil | apply Snoc.cons))) rfl ?_
  refine AOps.s0 (Cert.assign (by conv => lhs; whnf)) rfl ?_
  refine AOps.nil ?_
  refine hK1 _ ?_
  clear hK1 K1
  refine AWp.seqK fun K2 hK2 => ?_
  refine AWp.region ?_
  refine AOps.s0 (Cert.loadL (Try.tab_ok _ _ rfl) rfl rfl rfl rfl) rfl ?_
  obtain ⟨x3, gx3, hE⟩ := bindO_some hE
  refine AOps.s0 (Cert.callP rfl rfl (fun H => typeref_Nullable_walk gx3 H)) rfl ?_
  refine AOps.sLn (Cert.storeLF (Try.tab_ok _ _ rfl) rfl rfl rfl rfl rfl (by repeat (first | exact SetAt.zero | apply SetAt.succ))) ?_
  refine AOps.nil ?_
  refine hK2 _ ?_
  clear hK2 K2
  refine AWp.seqK fun K4 hK4 => ?_
  refine AWp.region ?_
  refine AOps.s0 (Cert.fieldL (Try.tab_ok _ _ rfl) rfl rfl (Try.tab_ok _ _ rfl) rfl rfl) rfl ?_
  refine AOps.s0 (Cert.loadL (Try.tab_ok _ _ rfl) rfl rfl rfl rfl) rfl ?_
  refine AOps.sLen (f := (intE .i64)) (s := x3.FWraps) (Try.tab_ok _ _ rfl) rfl rfl rfl rfl fun hL5 => ?_
  refine AOps.s0 (Cert.binI rfl rfl rfl) rfl ?_
  refine AOps.s0 (Cert.move (by conv => lhs; whnf)) rfl ?_
  refine AOps.gC rfl rfl (fun hC => Cert.fieldL (Try.tab_ok _ _ rfl) rfl rfl (Try.tab_ok _ _ rfl) rfl rfl) rfl ?_
  refine AOps.gC rfl rfl (fun hC => Cert.ungdL (k := 10) rfl (by first | exact hC | exact andL hC | exact andL (andL hC) | exact andL (andL (andL hC)) | exact andR hC | simp_all) (Cert.loadL (Try.tab_ok _ _ rfl) rfl rfl rfl rfl)) rfl ?_
  obtain ⟨x6, gx6, hE⟩ := guardO_some hE
  refine AOps.gC rfl rfl (fun hC => Cert.ungd (k := 11) rfl (by first | exact hC | exact andL hC | exact andL (andL hC) | exact andL (andL (andL hC)) | exact andR hC | simp_all) (Cert.idxMn (f := (intE .i64)) (n := 0) (Try.tab_ok _ _ rfl) rfl (Try.tab_ok _ _ rfl) rfl rfl rfl (gx6 hC))) rfl ?_
  refine AOps.gC rfl rfl (fun hC => Cert.ungd (k := 12) rfl (by first | exact hC | exact andL hC | exact andL (andL hC) | exact andL (andL (andL hC)) | exact andR hC | simp_all) (Cert.loadV (Try.tab_ok _ _ rfl) rfl rfl rfl)) rfl ?_
  refine AOps.gC rfl rfl (fun hC => Cert.ungd (k := 13) rfl (by first | exact hC | exact andL hC | exact andL (andL hC) | exact andL (andL (andL hC)) | exact andR hC | simp_all) (Cert.binI rfl rfl rfl)) rfl ?_
  refine AOps.s0 (Cert.pickAnd rfl rfl (fun h => by first | exact h | exact notT h | exact andI hC h | exact andI hC (notT h) | simp_all) rfl) rfl ?_
  refine AOps.s0 (Cert.assign (by conv => lhs; whnf)) rfl ?_
  refine AOps.nil ?_
  refine hK4 _ ?_
  clear hK4 K4
  refine AWp.ret ?_
  repeat (first | refine xBlock_ret ?_ | refine xThen_ret ?_)
  obtain rfl := Option.some.inj hE
  refine retQ.retF H rfl ⟨rfl, rfl⟩ ?_
  exact (fun _ _ h => h)
def slices_IndexFunc_apiDirapiDir_j2 (a0 : (Sl TDir)) (a1 : (TDir → Option Bool))   : Option Int := some (-1 : Int)
def slices_IndexFunc_apiDirapiDir_l6 (a0 : (Sl TDir)) (a1 : (TDir → Option Bool))  : Nat → Nat → Option Int
  | 0, _ => none
  | n6 + 1, s8_7 => bif (decide (((s8_7 : Nat) : Int) < ((a0.l.length : Nat) : Int))) then ((a0.l[s8_7]?).bind fun x14 => (a1 x14).bind fun x15 => bif x15 then (some ((s8_7 : Nat) : Int)) else ((slices_IndexFunc_apiDirapiDir_l6 a0 a1 n6) (s8_7 + 1))) else (slices_IndexFunc_apiDirapiDir_j2 a0 a1  )
def slices_IndexFunc_apiDirapiDir (a0 : (Sl TDir)) (a1 : (TDir → Option Bool)) : Option Int := slices_IndexFunc_apiDirapiDir_l6 a0 a1 F0 0
set_option maxRecDepth 100000 in
set_option maxHeartbeats 2000000 in
theorem slices_IndexFunc_apiDirapiDir_walk {a0 : (Sl TDir)} {a1 : (TDir → Option Bool)} {w0 : Option Nat} {cl1 : List D} {k1 : Nat} {r : Int} (hE : slices_IndexFunc_apiDirapiDir a0 a1 = some r) (H : Heap) (hf1 : ∀ x0 r, a1 x0 = some r → ∀ H, ACalls Try.prog k1 ([.agg (TDir.c x0)] ++ cl1.map A.d) H fun v h' => v = .a (.d (.bool r)) ∧ h' = H) : ACalls Try.prog 74 [.d (Sl.d 2 TDir.c w0 a0), .d (.func k1 cl1)] H fun v h' => v = .a (.d (.int .i64 r)) ∧ h' = H := by
  unfold slices_IndexFunc_apiDirapiDir at hE
  refine ACalls.of_wp (fn := Try.f74) (c := _) Try.tab_ok (fun _ _ => Try.call74 _ _) Try.func74 rfl (n := 19) rfl (rs := [.tmp 4]) rfl rfl ?_
  refine AWp.seqK fun K1 hK1 => ?_
  refine AWp.region ?_
  refine AOps.s0 (Cert.assign (by conv => lhs; whnf)) rfl ?_
  refine AOps.nil ?_
  refine hK1 _ ?_
  clear hK1 K1
  refine AWp.seqJH KeepsT.nil (fun (z : Unit) => []) (fun z => H) (fun z => slices_IndexFunc_apiDirapiDir_j2 a0 a1  = some r) ?_ ?_
  · intro K2 hK2
    refine AWp.seqK fun K4 hK4 => ?_
    refine AWp.region ?_
    refine AOps.s0 (Cert.move (by conv => lhs; whnf)) rfl ?_
    refine AOps.sLen (f := TDir.c) (s := a0) (Try.tab_ok _ _ rfl) rfl rfl rfl rfl fun hL5 => ?_
    refine AOps.s0 (Cert.move (by conv => lhs; whnf)) rfl ?_
    refine AOps.nil ?_
    refine hK4 _ ?_
    clear hK4 K4
    refine AWp.block ?_
    refine AWp.loopH (KeepsT.cons (k := 0) (by conv => lhs; whnf) (KeepsT.cons (k := 1) (by conv => lhs; whnf) (KeepsT.cons (k := 7) (by conv => lhs; whnf) KeepsT.nil))) (fun (z : Nat × Nat) => [(8, .a (.d (.int .i64 ((z.2 : Nat) : Int))))]) (fun z => H) (fun z => z.1) (fun z => slices_IndexFunc_apiDirapiDir_l6 a0 a1 z.1 z.2 = some r) (F0, 0) hE (Weak.to (by repeat (first | exact Keeps.nil | refine Keeps.c rfl rfl ?_ | refine Keeps.c (by (first | (first | rfl | ((conv => lhs; whnf); first | (simp [cellsA, faultsT, faultsD, namesD, Fault.mk_c, Nat.add_assoc, empty_append, Bool.and_assoc]; done) | (simp [cellsA, faultsT, faultsD, namesD, Nat.add_assoc, empty_append, Bool.and_assoc]; repeat (first | rfl | constructor)))) | rfl | (simp only [get_same, ev]; done) | (simp [*, cellsA]; done) | (show V.a (A.d (D.slice _ _ _ _)) = V.a (A.d (D.slice _ _ _ _)); simp [*, cellsA]; done))) rfl ?_)) (by repeat (first | exact Pfx.nil | apply Pfx.cons)) (by first | rfl | (first | rfl | (simp only [Heap.set_set, List.length_append, List.length_nil, List.length_cons, List.length_map, List.length_singleton, Nat.zero_add]; done) | (simp [Heap.set_set, Nat.add_assoc]; done)) | (((funext n; simp only [Heap.set]; (repeat' split) <;> simp_all)) <;> first | rfl | exact ⟨rfl, rfl⟩))) ?_
    rintro ⟨n6, s8_7⟩ hE K6 hK6
    try dsimp only at hE
    cases n6 with
    | zero => cases hE
    | succ n6 =>
        rw [slices_IndexFunc_apiDirapiDir_l6] at hE
        refine AWp.seqK fun K8 hK8 => ?_
        refine AWp.region ?_
        refine AOps.s0 (Cert.binI rfl rfl rfl) rfl ?_
        refine AOps.nil ?_
        refine hK8 _ ?_
        clear hK8 K8
        refine AWp.seqK fun K9 hK9 => ?_
        refine AWp.cond rfl (fun hc10 => ?_) (fun hc10 => ?_)
        · have hE := condT hc10 hE
          try dsimp only at hc10
          have hf10 := of_decide_eq_true hc10
          refine AWp.skip ?_
          refine hK9 _ ?_
          clear hK9 K9
          refine AWp.seqK fun K11 hK11 => ?_
          refine AWp.block ?_
          refine AWp.seqK fun K12 hK12 => ?_
          refine AWp.region ?_
          refine AOps.s0 (Cert.move (by conv => lhs; whnf)) rfl ?_
          refine AOps.s0 (Cert.assign (by conv => lhs; whnf)) rfl ?_
          refine AOps.nil ?_
          refine hK12 _ ?_
          clear hK12 K12
          refine AWp.seqK fun K13 hK13 => ?_
          refine AWp.region ?_
          refine AOps.s0 (Cert.move (by conv => lhs; whnf)) rfl ?_
          refine AOps.s0 (Cert.move (by conv => lhs; whnf)) rfl ?_
          refine AOps.s0 (Cert.move (by conv => lhs; whnf)) rfl ?_
          obtain ⟨x14, gx14, hE⟩ := bindO_some hE
          refine AOps.s0 (Cert.idxMn (f := TDir.c) (n := s8_7) (Try.tab_ok _ _ rfl) rfl (Try.tab_ok _ _ rfl) rfl rfl rfl gx14) rfl ?_
          refine AOps.s0 (Cert.loadV (Try.tab_ok _ _ rfl) rfl rfl rfl) rfl ?_
          obtain ⟨x15, gx15, hE⟩ := bindO_some hE
          refine AOps.s0 (Cert.callP rfl rfl (hf1 _ _ gx15)) rfl ?_
          refine AOps.nil ?_
          refine hK13 _ ?_
          clear hK13 K13
          refine AWp.cond rfl (fun hc16 => ?_) (fun hc16 => ?_)
          · have hE := condT hc16 hE
            try dsimp only at hc16
            refine AWp.seqK fun K17 hK17 => ?_
            refine AWp.region ?_
            refine AOps.s0 (Cert.move (by conv => lhs; whnf)) rfl ?_
            refine AOps.s0 (Cert.assign (by conv => lhs; whnf)) rfl ?_
            refine AOps.nil ?_
            refine hK17 _ ?_
            clear hK17 K17
            refine AWp.ret ?_
            repeat (first | refine xBlock_ret ?_ | refine xThen_ret ?_)
            obtain rfl := Option.some.inj hE
            refine retQ.retF H rfl ⟨rfl, rfl⟩ ?_
            exact (fun _ _ h => h)
          · have hE := condF hc16 hE
            try dsimp only at hc16
            refine AWp.skip ?_
            refine hK11 _ ?_
            clear hK11 K11
            refine AWp.region ?_
            refine AOps.s0 (Cert.addI rfl rfl (by first | omega | (dsimp only; omega)) (by first | omega | (dsimp only; omega))) rfl ?_
            refine AOps.s0 (Cert.move (by conv => lhs; whnf)) rfl ?_
            refine AOps.nil ?_
            exact hK6 _ (n6, (s8_7 + 1)) (Weak.to (by repeat (first | exact Keeps.nil | refine Keeps.c rfl rfl ?_ | refine Keeps.c (by (first | (first | rfl | ((conv => lhs; whnf); first | (simp [cellsA, faultsT, faultsD, namesD, Fault.mk_c, Nat.add_assoc, empty_append, Bool.and_assoc]; done) | (simp [cellsA, faultsT, faultsD, namesD, Nat.add_assoc, empty_append, Bool.and_assoc]; repeat (first | rfl | constructor)))) | rfl | (simp only [get_same, ev]; done) | (simp [*, cellsA]; done) | (show V.a (A.d (D.slice _ _ _ _)) = V.a (A.d (D.slice _ _ _ _)); simp [*, cellsA]; done))) rfl ?_)) (by repeat (first | exact Pfx.nil | apply Pfx.cons)) (by first | rfl | (first | rfl | (simp only [Heap.set_set, List.length_append, List.length_nil, List.length_cons, List.length_map, List.length_singleton, Nat.zero_add]; done) | (simp [Heap.set_set, Nat.add_assoc]; done)) | (((funext n; simp only [Heap.set]; (repeat' split) <;> simp_all)) <;> first | rfl | exact ⟨rfl, rfl⟩))) hE (Nat.lt_succ_self _)
        · have hE := condF hc10 hE
          try dsimp only at hc10
          refine AWp.exit ?_
          exact hK2 _ () (Weak.to (by repeat (first | exact Keeps.nil | refine Keeps.c rfl rfl ?_ | refine Keeps.c (by (first | (first | rfl | ((conv => lhs; whnf); first | (simp [cellsA, faultsT, faultsD, namesD, Fault.mk_c, Nat.add_assoc, empty_append, Bool.and_assoc]; done) | (simp [cellsA, faultsT, faultsD, namesD, Nat.add_assoc, empty_append, Bool.and_assoc]; repeat (first | rfl | constructor)))) | rfl | (simp only [get_same, ev]; done) | (simp [*, cellsA]; done) | (show V.a (A.d (D.slice _ _ _ _)) = V.a (A.d (D.slice _ _ _ _)); simp [*, cellsA]; done))) rfl ?_)) (by repeat (first | exact Pfx.nil | apply Pfx.cons)) (by first | rfl | (first | rfl | (simp only [Heap.set_set, List.length_append, List.length_nil, List.length_cons, List.length_map, List.length_singleton, Nat.zero_add]; done) | (simp [Heap.set_set, Nat.add_assoc]; done)) | (((funext n; simp only [Heap.set]; (repeat' split) <;> simp_all)) <;> first | rfl | exact ⟨rfl, rfl⟩))) hE
  · rintro _ hE
    try dsimp only at hE
    unfold slices_IndexFunc_apiDirapiDir_j2 at hE
    refine AWp.seqK fun K3 hK3 => ?_
    refine AWp.region ?_
    refine AOps.s0 (Cert.assign (by conv => lhs; whnf)) rfl ?_
    refine AOps.nil ?_
    refine hK3 _ ?_
    clear hK3 K3
    refine AWp.ret ?_
    repeat (first | refine xBlock_ret ?_ | refine xThen_ret ?_)
    obtain rfl := Option.some.inj hE
    refine retQ.retF H rfl ⟨rfl, rfl⟩ ?_
    exact (fun _ _ h => h)
def slices_ContainsFunc_apiDirapiDir (a0 : (Sl TDir)) (a1 : (TDir → Option Bool)) : Option Bool := (slices_IndexFunc_apiDirapiDir a0 a1).bind fun x3 => some (decide ((0 : Int) ≤ x3))
set_option maxRecDepth 100000 in
set_option maxHeartbeats 2000000 in
theorem slices_ContainsFunc_apiDirapiDir_walk {a0 : (Sl TDir)} {a1 : (TDir → Option Bool)} {w0 : Option Nat} {cl1 : List D} {k1 : Nat} {r : Bool} (hE : slices_ContainsFunc_apiDirapiDir a0 a1 = some r) (H : Heap) (hf1 : ∀ x0 r, a1 x0 = some r → ∀ H, ACalls Try.prog k1 ([.agg (TDir.c x0)] ++ cl1.map A.d) H fun v h' => v = .a (.d (.bool r)) ∧ h' = H) : ACalls Try.prog 60 [.d (Sl.d 2 TDir.c w0 a0), .d (.func k1 cl1)] H fun v h' => v = .a (.d (.bool r)) ∧ h' = H := by
  unfold slices_ContainsFunc_apiDirapiDir at hE
  refine ACalls.of_wp (fn := Try.f60) (c := _) Try.tab_ok (fun _ _ => Try.call60 _ _) Try.func60 rfl (n := 9) rfl (rs := [.tmp 4]) rfl rfl ?_
  refine AWp.seqK fun K1 hK1 => ?_
  refine AWp.region ?_
  refine AOps.s0 (Cert.assign (by conv => lhs; whnf)) rfl ?_
  refine AOps.nil ?_
  refine hK1 _ ?_
  clear hK1 K1
  refine AWp.seqK fun K2 hK2 => ?_
  refine AWp.region ?_
  refine AOps.s0 (Cert.move (by conv => lhs; whnf)) rfl ?_
  refine AOps.s0 (Cert.move (by conv => lhs; whnf)) rfl ?_
  obtain ⟨x3, gx3, hE⟩ := bindO_some hE
  refine AOps.s0 (Cert.callP rfl rfl (fun H => slices_IndexFunc_apiDirapiDir_walk gx3 H hf1)) rfl ?_
  refine AOps.s0 (Cert.binI rfl rfl rfl) rfl ?_
  refine AOps.s0 (Cert.assign (by conv => lhs; whnf)) rfl ?_
  refine AOps.nil ?_
  refine hK2 _ ?_
  clear hK2 K2
  refine AWp.ret ?_
  repeat (first | refine xBlock_ret ?_ | refine xThen_ret ?_)
  obtain rfl := Option.some.inj hE
  refine retQ.retF H rfl ⟨rfl, rfl⟩ ?_
  exact (fun _ _ h => h)
def fields_checker_dirs_1 (a0 : TDir) (a1 : TDir) : Option Bool := some ((a0.FName == a1.FName))
set_option maxRecDepth 100000 in
set_option maxHeartbeats 2000000 in
theorem fields_checker_dirs_1_walk {a0 : TDir} {a1 : TDir}   {r : Bool} (hE : fields_checker_dirs_1 a0 a1 = some r) (H : Heap)  : ACalls Try.prog 61 [.agg (TDir.c a0), .d (.view (TDir.c a1))] H fun v h' => v = .a (.d (.bool r)) ∧ h' = H := by
  unfold fields_checker_dirs_1 at hE
  refine ACalls.of_wp (fn := Try.f61) (c := _) Try.tab_ok (fun _ _ => Try.call61 _ _) Try.func61 rfl (n := 9) rfl (rs := [.tmp 3]) rfl rfl ?_
  refine AWp.seqK fun K1 hK1 => ?_
  refine AWp.region ?_
  refine AOps.s0 (Cert.boxV rfl) rfl ?_
  refine AOps.s0 (Cert.assign (by conv => lhs; whnf)) rfl ?_
  refine AOps.nil ?_
  refine hK1 _ ?_
  clear hK1 K1
  refine AWp.seqK fun K2 hK2 => ?_
  refine AWp.region ?_
  refine AOps.s0 (Cert.fieldV (Try.tab_ok _ _ rfl) rfl rfl (Try.tab_ok _ _ rfl) rfl rfl (by conv => lhs; whnf)) rfl ?_
  refine AOps.s0 (Cert.loadV (Try.tab_ok _ _ rfl) rfl rfl rfl) rfl ?_
  refine AOps.s0 (Cert.fieldV (Try.tab_ok _ _ rfl) rfl rfl (Try.tab_ok _ _ rfl) rfl rfl (by conv => lhs; whnf)) rfl ?_
  refine AOps.s0 (Cert.loadV (Try.tab_ok _ _ rfl) rfl rfl rfl) rfl ?_
  refine AOps.s0 (Cert.binS rfl rfl rfl) rfl ?_
  refine AOps.s0 (Cert.assign (by conv => lhs; whnf)) rfl ?_
  refine AOps.nil ?_
  refine hK2 _ ?_
  clear hK2 K2
  refine AWp.ret ?_
  repeat (first | refine xBlock_ret ?_ | refine xThen_ret ?_)
  obtain rfl := Option.some.inj hE
  refine retQ.retF H rfl ⟨rfl, rfl⟩ ?_
  exact (fun _ _ h => h)
def fields_given_j2 (a0 : (Sl TArg)) (a1 : Bs)  (y3_l0 : TValue) : Option (TValue × Bool) := some ((TValue.mk (0 : Int) (0 : Int) ([] : Bs) true ([]) (Sl.nil : Sl Bs)), false)
def fields_given_l7 (a0 : (Sl TArg)) (a1 : Bs)  : Nat → Nat → TValue → Option (TValue × Bool)
  | 0, _, _ => none
  | n7 + 1, s10_8, y9_l0 => bif (decide (((s10_8 : Nat) : Int) < ((a0.l.length : Nat) : Int))) then ((a0.l[s10_8]?).bind fun x15 => bif ((x15.FName == a1)) then (some (x15.FValue, true)) else ((fields_given_l7 a0 a1 n7) (s10_8 + 1) y9_l0)) else (fields_given_j2 a0 a1  y9_l0)
def fields_given (a0 : (Sl TArg)) (a1 : Bs) : Option (TValue × Bool) := fields_given_l7 a0 a1 F0 0 TValue.zero
set_option maxRecDepth 100000 in
set_option maxHeartbeats 2000000 in
theorem fields_given_walk {a0 : (Sl TArg)} {a1 : Bs} {w0 : Option Nat}  {r : (TValue × Bool)} (hE : fields_given a0 a1 = some r) (H : Heap)  : ACalls Try.prog 63 [.d (Sl.d 6 TArg.c w0 a0), .d (.str a1)] H fun v h' => v = .tup [.agg (TValue.c r.1), .d (.bool r.2)] ∧ h' = H := by
  unfold fields_given at hE
  refine ACalls.of_wp (fn := Try.f63) (c := _) Try.tab_ok (fun _ _ => Try.call63 _ _) Try.func63 rfl (n := 22) rfl (rs := [.cell 4 84, .tmp 5]) rfl rfl ?_
  refine AWp.seqK fun K1 hK1 => ?_
  refine AWp.region ?_
  refine AOps.sL (Cert.allocL (Try.tab_ok _ _ rfl) rfl (by repeat (first | exact Snoc.nil | apply Snoc.cons))) rfl ?_
  refine AOps.s0 (Cert.assign (by conv => lhs; whnf)) rfl ?_
  refine AOps.nil ?_
  refine hK1 _ ?_
  clear hK1 K1
  refine AWp.seqJ (KeepsT.cons (k := 4) (by conv => lhs; whnf) KeepsT.nil) (fun (z : TValue) => []) (fun z => [TValue.c z]) (fun z => H) (fun z => fields_given_j2 a0 a1 z = some r) ?_ ?_
  · intro K2 hK2
    refine AWp.seqK fun K5 hK5 => ?_
    refine AWp.region ?_
    refine AOps.s0 (Cert.move (by conv => lhs; whnf)) rfl ?_
    refine AOps.sLen (f := TArg.c) (s := a0) (Try.tab_ok _ _ rfl) rfl rfl rfl rfl fun hL6 => ?_
    refine AOps.s0 (Cert.move (by conv => lhs; whnf)) rfl ?_
    refine AOps.nil ?_
    refine hK5 _ ?_
    clear hK5 K5
    refine AWp.block ?_
    refine AWp.loopO (KeepsT.cons (k := 1) (by conv => lhs; whnf) (KeepsT.cons (k := 4) (by conv => lhs; whnf) (KeepsT.cons (k := 8) (by conv => lhs; whnf) (KeepsT.cons (k := 9) (by conv => lhs; whnf) KeepsT.nil)))) (fun (z : Nat × Nat × TValue) => [(10, .a (.d (.int .i64 ((z.2.1 : Nat) : Int))))]) (fun z => [TValue.c z.2.2]) (fun z => H) (fun z => z.1) (fun z => fields_given_l7 a0 a1 z.1 z.2.1 z.2.2 = some r) (F0, 0, TValue.zero) hE (Weak.to (by repeat (first | exact Keeps.nil | refine Keeps.c rfl rfl ?_ | refine Keeps.c (by (first | (first | rfl | ((conv => lhs; whnf); first | (simp [cellsA, faultsT, faultsD, namesD, Fault.mk_c, Nat.add_assoc, empty_append, Bool.and_assoc]; done) | (simp [cellsA, faultsT, faultsD, namesD, Nat.add_assoc, empty_append, Bool.and_assoc]; repeat (first | rfl | constructor)))) | rfl | (simp only [get_same, ev]; done) | (simp [*, cellsA]; done) | (show V.a (A.d (D.slice _ _ _ _)) = V.a (A.d (D.slice _ _ _ _)); simp [*, cellsA]; done))) rfl ?_)) (by repeat (first | exact Pfx.nil | apply Pfx.cons)) (by first | rfl | (first | rfl | (simp only [Heap.set_set, List.length_append, List.length_nil, List.length_cons, List.length_map, List.length_singleton, Nat.zero_add]; done) | (simp [Heap.set_set, Nat.add_assoc]; done)) | (((funext n; simp only [Heap.set]; (repeat' split) <;> simp_all)) <;> first | rfl | exact ⟨rfl, rfl⟩))) ?_
    rintro ⟨n7, s10_8, y9_l0⟩ hE K7 hK7
    try dsimp only at hE
    cases n7 with
    | zero => cases hE
    | succ n7 =>
        rw [fields_given_l7] at hE
        refine AWp.seqK fun K10 hK10 => ?_
        refine AWp.region ?_
        refine AOps.s0 (Cert.binI rfl rfl rfl) rfl ?_
        refine AOps.nil ?_
        refine hK10 _ ?_
        clear hK10 K10
        refine AWp.seqK fun K11 hK11 => ?_
        refine AWp.cond rfl (fun hc12 => ?_) (fun hc12 => ?_)
        · have hE := condT hc12 hE
          try dsimp only at hc12
          have hf12 := of_decide_eq_true hc12
          refine AWp.skip ?_
          refine hK11 _ ?_
          clear hK11 K11
          refine AWp.seqK fun K13 hK13 => ?_
          refine AWp.block ?_
          refine AWp.seqK fun K14 hK14 => ?_
          refine AWp.region ?_
          obtain ⟨x15, gx15, hE⟩ := bindO_some hE
          refine AOps.s0 (Cert.idxMn (f := TArg.c) (n := s10_8) (Try.tab_ok _ _ rfl) rfl (Try.tab_ok _ _ rfl) rfl rfl rfl gx15) rfl ?_
          refine AOps.s0 (Cert.loadV (Try.tab_ok _ _ rfl) rfl rfl rfl) rfl ?_
          refine AOps.sL (Cert.allocL (Try.tab_ok _ _ rfl) rfl (by repeat (first | exact Snoc.nil | apply Snoc.cons))) rfl ?_
          refine AOps.sLn (Cert.storeLF (Try.tab_ok _ _ rfl) rfl rfl rfl rfl rfl (by repeat (first | exact SetAt.zero | apply SetAt.succ))) ?_
          refine AOps.nil ?_
          refine hK14 _ ?_
          clear hK14 K14
          refine AWp.freeze 7 _ rfl (by repeat (first | exact Snoc.nil | apply Snoc.cons)) (Keeps.c (k := 1) (by conv => lhs; whnf) (by rfl) (Keeps.c (k := 4) (by conv => lhs; whnf) (by rfl) (Keeps.c (k := 8) (by conv => lhs; whnf) (by rfl) (Keeps.c (k := 9) (by conv => lhs; whnf) (by rfl) (Keeps.c (k := 10) (by conv => lhs; whnf) (by rfl) Keeps.nil))))) ?_
          refine AWp.seqK fun K16 hK16 => ?_
          refine AWp.region ?_
          refine AOps.s0 (Cert.fieldV (Try.tab_ok _ _ rfl) rfl rfl (Try.tab_ok _ _ rfl) rfl rfl (by conv => lhs; whnf)) rfl ?_
          refine AOps.s0 (Cert.loadV (Try.tab_ok _ _ rfl) rfl rfl rfl) rfl ?_
          refine AOps.s0 (Cert.move (by conv => lhs; whnf)) rfl ?_
          refine AOps.s0 (Cert.binS rfl rfl rfl) rfl ?_
          refine AOps.nil ?_
          refine hK16 _ ?_
          clear hK16 K16
          refine AWp.cond rfl (fun hc17 => ?_) (fun hc17 => ?_)
          · have hE := condT hc17 hE
            try dsimp only at hc17
            refine AWp.seqK fun K18 hK18 => ?_
            refine AWp.region ?_
            refine AOps.s0 (Cert.fieldV (Try.tab_ok _ _ rfl) rfl rfl (Try.tab_ok _ _ rfl) rfl rfl (by conv => lhs; whnf)) rfl ?_
            refine AOps.s0 (Cert.loadV (Try.tab_ok _ _ rfl) rfl rfl rfl) rfl ?_
            refine AOps.sLn (Cert.storeLF (Try.tab_ok _ _ rfl) rfl rfl rfl rfl rfl (by repeat (first | exact SetAt.zero | apply SetAt.succ))) ?_
            refine AOps.s0 (Cert.assign (by conv => lhs; whnf)) rfl ?_
            refine AOps.nil ?_
            refine hK18 _ ?_
            clear hK18 K18
            refine AWp.ret ?_
            repeat (first | refine xBlock_ret ?_ | refine xThen_ret ?_)
            obtain rfl := Option.some.inj hE
            refine retQ.retF H rfl ⟨rfl, rfl⟩ ?_
            exact (fun _ _ h => h)
          · have hE := condF hc17 hE
            try dsimp only at hc17
            refine AWp.skip ?_
            refine hK13 _ ?_
            clear hK13 K13
            refine AWp.region ?_
            refine AOps.s0 (Cert.addI rfl rfl (by first | omega | (dsimp only; omega)) (by first | omega | (dsimp only; omega))) rfl ?_
            refine AOps.s0 (Cert.move (by conv => lhs; whnf)) rfl ?_
            refine AOps.nil ?_
            exact hK7 _ (n7, (s10_8 + 1), y9_l0) (Weak.to (by repeat (first | exact Keeps.nil | refine Keeps.c rfl rfl ?_ | refine Keeps.c (by (first | (first | rfl | ((conv => lhs; whnf); first | (simp [cellsA, faultsT, faultsD, namesD, Fault.mk_c, Nat.add_assoc, empty_append, Bool.and_assoc]; done) | (simp [cellsA, faultsT, faultsD, namesD, Nat.add_assoc, empty_append, Bool.and_assoc]; repeat (first | rfl | constructor)))) | rfl | (simp only [get_same, ev]; done) | (simp [*, cellsA]; done) | (show V.a (A.d (D.slice _ _ _ _)) = V.a (A.d (D.slice _ _ _ _)); simp [*, cellsA]; done))) rfl ?_)) (by repeat (first | exact Pfx.nil | apply Pfx.cons)) (by first | rfl | (first | rfl | (simp only [Heap.set_set, List.length_append, List.length_nil, List.length_cons, List.length_map, List.length_singleton, Nat.zero_add]; done) | (simp [Heap.set_set, Nat.add_assoc]; done)) | (((funext n; simp only [Heap.set]; (repeat' split) <;> simp_all)) <;> first | rfl | exact ⟨rfl, rfl⟩))) hE (Nat.lt_succ_self _)
        · have hE := condF hc12 hE
          try dsimp only at hc12
          refine AWp.exit ?_
          exact hK2 _ y9_l0 (Weak.to (by repeat (first | exact Keeps.nil | refine Keeps.c rfl rfl ?_ | refine Keeps.c (by (first | (first | rfl | ((conv => lhs; whnf); first | (simp [cellsA, faultsT, faultsD, namesD, Fault.mk_c, Nat.add_assoc, empty_append, Bool.and_assoc]; done) | (simp [cellsA, faultsT, faultsD, namesD, Nat.add_assoc, empty_append, Bool.and_assoc]; repeat (first | rfl | constructor)))) | rfl | (simp only [get_same, ev]; done) | (simp [*, cellsA]; done) | (show V.a (A.d (D.slice _ _ _ _)) = V.a (A.d (D.slice _ _ _ _)); simp [*, cellsA]; done))) rfl ?_)) (by repeat (first | exact Pfx.nil | apply Pfx.cons)) (by first | rfl | (first | rfl | (simp only [Heap.set_set, List.length_append, List.length_nil, List.length_cons, List.length_map, List.length_singleton, Nat.zero_add]; done) | (simp [Heap.set_set, Nat.add_assoc]; done)) | (((funext n; simp only [Heap.set]; (repeat' split) <;> simp_all)) <;> first | rfl | exact ⟨rfl, rfl⟩))) hE
  · rintro y3_l0 hE
    try dsimp only at hE
    unfold fields_given_j2 at hE
    refine AWp.seqK fun K4 hK4 => ?_
    refine AWp.region ?_
    refine AOps.s0 (Cert.build Try.tab_ok rfl rfl rfl rfl rfl rfl) rfl ?_
    refine AOps.sLn (Cert.storeLF (Try.tab_ok _ _ rfl) rfl rfl rfl rfl rfl (by repeat (first | exact SetAt.zero | apply SetAt.succ))) ?_
    refine AOps.s0 (Cert.assign (by conv => lhs; whnf)) rfl ?_
    refine AOps.nil ?_
    refine hK4 _ ?_
    clear hK4 K4
    refine AWp.ret ?_
    repeat (first | refine xBlock_ret ?_ | refine xThen_ret ?_)
    obtain rfl := Option.some.inj hE
    refine retQ.retF H rfl ⟨rfl, rfl⟩ ?_
    exact (fun _ _ h => h)
def schema_InputOf_j2 (a0 : (Sl TInput)) (a1 : Bs)  (y3_l0 : TInput) : Option (TInput × Bool) := some ((TInput.mk ([] : Bs) TRef.zero false TValue.zero (Sl.nil : Sl TDir)), false)
def schema_InputOf_l7 (a0 : (Sl TInput)) (a1 : Bs)  : Nat → Nat → TInput → Option (TInput × Bool)
  | 0, _, _ => none
  | n7 + 1, s10_8, y9_l0 => bif (decide (((s10_8 : Nat) : Int) < ((a0.l.length : Nat) : Int))) then ((a0.l[s10_8]?).bind fun x15 => bif ((x15.FName == a1)) then (some (x15, true)) else ((schema_InputOf_l7 a0 a1 n7) (s10_8 + 1) y9_l0)) else (schema_InputOf_j2 a0 a1  y9_l0)
def schema_InputOf (a0 : (Sl TInput)) (a1 : Bs) : Option (TInput × Bool) := schema_InputOf_l7 a0 a1 F0 0 TInput.zero
set_option maxRecDepth 100000 in
set_option maxHeartbeats 2000000 in
theorem schema_InputOf_walk {a0 : (Sl TInput)} {a1 : Bs} {w0 : Option Nat}  {r : (TInput × Bool)} (hE : schema_InputOf a0 a1 = some r) (H : Heap)  : ACalls Try.prog 75 [.d (Sl.d 10 TInput.c w0 a0), .d (.str a1)] H fun v h' => v = .tup [.agg (TInput.c r.1), .d (.bool r.2)] ∧ h' = H := by
  unfold schema_InputOf at hE
  refine ACalls.of_wp (fn := Try.f75) (c := _) Try.tab_ok (fun _ _ => Try.call75 _ _) Try.func75 rfl (n := 21) rfl (rs := [.cell 4 86, .tmp 5]) rfl rfl ?_
  refine AWp.seqK fun K1 hK1 => ?_
  refine AWp.region ?_
  refine AOps.sL (Cert.allocL (Try.tab_ok _ _ rfl) rfl (by repeat (first | exact Snoc.nil | apply Snoc.cons))) rfl ?_
  refine AOps.s0 (Cert.assign (by conv => lhs; whnf)) rfl ?_
  refine AOps.nil ?_
  refine hK1 _ ?_
  clear hK1 K1
  refine AWp.seqJ (KeepsT.cons (k := 4) (by conv => lhs; whnf) KeepsT.nil) (fun (z : TInput) => []) (fun z => [TInput.c z]) (fun z => H) (fun z => schema_InputOf_j2 a0 a1 z = some r) ?_ ?_
  · intro K2 hK2
    refine AWp.seqK fun K5 hK5 => ?_
    refine AWp.region ?_
    refine AOps.s0 (Cert.move (by conv => lhs; whnf)) rfl ?_
    refine AOps.sLen (f := TInput.c) (s := a0) (Try.tab_ok _ _ rfl) rfl rfl rfl rfl fun hL6 => ?_
    refine AOps.s0 (Cert.move (by conv => lhs; whnf)) rfl ?_
    refine AOps.nil ?_
    refine hK5 _ ?_
    clear hK5 K5
    refine AWp.block ?_
    refine AWp.loopO (KeepsT.cons (k := 1) (by conv => lhs; whnf) (KeepsT.cons (k := 4) (by conv => lhs; whnf) (KeepsT.cons (k := 8) (by conv => lhs; whnf) (KeepsT.cons (k := 9) (by conv => lhs; whnf) KeepsT.nil)))) (fun (z : Nat × Nat × TInput) => [(10, .a (.d (.int .i64 ((z.2.1 : Nat) : Int))))]) (fun z => [TInput.c z.2.2]) (fun z => H) (fun z => z.1) (fun z => schema_InputOf_l7 a0 a1 z.1 z.2.1 z.2.2 = some r) (F0, 0, TInput.zero) hE (Weak.to (by repeat (first | exact Keeps.nil | refine Keeps.c rfl rfl ?_ | refine Keeps.c (by (first | (first | rfl | ((conv => lhs; whnf); first | (simp [cellsA, faultsT, faultsD, namesD, Fault.mk_c, Nat.add_assoc, empty_append, Bool.and_assoc]; done) | (simp [cellsA, faultsT, faultsD, namesD, Nat.add_assoc, empty_append, Bool.and_assoc]; repeat (first | rfl | constructor)))) | rfl | (simp only [get_same, ev]; done) | (simp [*, cellsA]; done) | (show V.a (A.d (D.slice _ _ _ _)) = V.a (A.d (D.slice _ _ _ _)); simp [*, cellsA]; done))) rfl ?_)) (by repeat (first | exact Pfx.nil | apply Pfx.cons)) (by first | rfl | (first | rfl | (simp only [Heap.set_set, List.length_append, List.length_nil, List.length_cons, List.length_map, List.length_singleton, Nat.zero_add]; done) | (simp [Heap.set_set, Nat.add_assoc]; done)) | (((funext n; simp only [Heap.set]; (repeat' split) <;> simp_all)) <;> first | rfl | exact ⟨rfl, rfl⟩))) ?_
    rintro ⟨n7, s10_8, y9_l0⟩ hE K7 hK7
    try dsimp only at hE
    cases n7 with
    | zero => cases hE
    | succ n7 =>
        rw [schema_InputOf_l7] at hE
        refine AWp.seqK fun K10 hK10 => ?_
        refine AWp.region ?_
        refine AOps.s0 (Cert.binI rfl rfl rfl) rfl ?_
        refine AOps.nil ?_
        refine hK10 _ ?_
        clear hK10 K10
        refine AWp.seqK fun K11 hK11 => ?_
        refine AWp.cond rfl (fun hc12 => ?_) (fun hc12 => ?_)
        · have hE := condT hc12 hE
          try dsimp only at hc12
          have hf12 := of_decide_eq_true hc12
          refine AWp.skip ?_
          refine hK11 _ ?_
          clear hK11 K11
          refine AWp.seqK fun K13 hK13 => ?_
          refine AWp.block ?_
          refine AWp.seqK fun K14 hK14 => ?_
          refine AWp.region ?_
          obtain ⟨x15, gx15, hE⟩ := bindO_some hE
          refine AOps.s0 (Cert.idxMn (f := TInput.c) (n := s10_8) (Try.tab_ok _ _ rfl) rfl (Try.tab_ok _ _ rfl) rfl rfl rfl gx15) rfl ?_
          refine AOps.s0 (Cert.loadV (Try.tab_ok _ _ rfl) rfl rfl rfl) rfl ?_
          refine AOps.sL (Cert.allocL (Try.tab_ok _ _ rfl) rfl (by repeat (first | exact Snoc.nil | apply Snoc.cons))) rfl ?_
          refine AOps.sLn (Cert.storeLF (Try.tab_ok _ _ rfl) rfl rfl rfl rfl rfl (by repeat (first | exact SetAt.zero | apply SetAt.succ))) ?_
          refine AOps.nil ?_
          refine hK14 _ ?_
          clear hK14 K14
          refine AWp.freeze 7 _ rfl (by repeat (first | exact Snoc.nil | apply Snoc.cons)) (Keeps.c (k := 1) (by conv => lhs; whnf) (by rfl) (Keeps.c (k := 4) (by conv => lhs; whnf) (by rfl) (Keeps.c (k := 8) (by conv => lhs; whnf) (by rfl) (Keeps.c (k := 9) (by conv => lhs; whnf) (by rfl) (Keeps.c (k := 10) (by conv => lhs; whnf) (by rfl) Keeps.nil))))) ?_
          refine AWp.seqK fun K16 hK16 => ?_
          refine AWp.region ?_
          refine AOps.s0 (Cert.fieldV (Try.tab_ok _ _ rfl) rfl rfl (Try.tab_ok _ _ rfl) rfl rfl (by conv => lhs; whnf)) rfl ?_
          refine AOps.s0 (Cert.loadV (Try.tab_ok _ _ rfl) rfl rfl rfl) rfl ?_
          refine AOps.s0 (Cert.move (by conv => lhs; whnf)) rfl ?_
          refine AOps.s0 (Cert.binS rfl rfl rfl) rfl ?_
          refine AOps.nil ?_
          refine hK16 _ ?_
          clear hK16 K16
          refine AWp.cond rfl (fun hc17 => ?_) (fun hc17 => ?_)
          · have hE := condT hc17 hE
            try dsimp only at hc17
            refine AWp.seqK fun K18 hK18 => ?_
            refine AWp.region ?_
            refine AOps.s0 (Cert.loadV (Try.tab_ok _ _ rfl) rfl rfl rfl) rfl ?_
            refine AOps.sLn (Cert.storeLF (Try.tab_ok _ _ rfl) rfl rfl rfl rfl rfl (by repeat (first | exact SetAt.zero | apply SetAt.succ))) ?_
            refine AOps.s0 (Cert.assign (by conv => lhs; whnf)) rfl ?_
            refine AOps.nil ?_
            refine hK18 _ ?_
            clear hK18 K18
            refine AWp.ret ?_
            repeat (first | refine xBlock_ret ?_ | refine xThen_ret ?_)
            obtain rfl := Option.some.inj hE
            refine retQ.retF H rfl ⟨rfl, rfl⟩ ?_
            exact (fun _ _ h => h)
          · have hE := condF hc17 hE
            try dsimp only at hc17
            refine AWp.skip ?_
            refine hK13 _ ?_
            clear hK13 K13
            refine AWp.region ?_
            refine AOps.s0 (Cert.addI rfl rfl (by first | omega | (dsimp only; omega)) (by first | omega | (dsimp only; omega))) rfl ?_
            refine AOps.s0 (Cert.move (by conv => lhs; whnf)) rfl ?_
            refine AOps.nil ?_
            exact hK7 _ (n7, (s10_8 + 1), y9_l0) (Weak.to (by repeat (first | exact Keeps.nil | refine Keeps.c rfl rfl ?_ | refine Keeps.c (by (first | (first | rfl | ((conv => lhs; whnf); first | (simp [cellsA, faultsT, faultsD, namesD, Fault.mk_c, Nat.add_assoc, empty_append, Bool.and_assoc]; done) | (simp [cellsA, faultsT, faultsD, namesD, Nat.add_assoc, empty_append, Bool.and_assoc]; repeat (first | rfl | constructor)))) | rfl | (simp only [get_same, ev]; done) | (simp [*, cellsA]; done) | (show V.a (A.d (D.slice _ _ _ _)) = V.a (A.d (D.slice _ _ _ _)); simp [*, cellsA]; done))) rfl ?_)) (by repeat (first | exact Pfx.nil | apply Pfx.cons)) (by first | rfl | (first | rfl | (simp only [Heap.set_set, List.length_append, List.length_nil, List.length_cons, List.length_map, List.length_singleton, Nat.zero_add]; done) | (simp [Heap.set_set, Nat.add_assoc]; done)) | (((funext n; simp only [Heap.set]; (repeat' split) <;> simp_all)) <;> first | rfl | exact ⟨rfl, rfl⟩))) hE (Nat.lt_succ_self _)
        · have hE := condF hc12 hE
          try dsimp only at hc12
          refine AWp.exit ?_
          exact hK2 _ y9_l0 (Weak.to (by repeat (first | exact Keeps.nil | refine Keeps.c rfl rfl ?_ | refine Keeps.c (by (first | (first | rfl | ((conv => lhs; whnf); first | (simp [cellsA, faultsT, faultsD, namesD, Fault.mk_c, Nat.add_assoc, empty_append, Bool.and_assoc]; done) | (simp [cellsA, faultsT, faultsD, namesD, Nat.add_assoc, empty_append, Bool.and_assoc]; repeat (first | rfl | constructor)))) | rfl | (simp only [get_same, ev]; done) | (simp [*, cellsA]; done) | (show V.a (A.d (D.slice _ _ _ _)) = V.a (A.d (D.slice _ _ _ _)); simp [*, cellsA]; done))) rfl ?_)) (by repeat (first | exact Pfx.nil | apply Pfx.cons)) (by first | rfl | (first | rfl | (simp only [Heap.set_set, List.length_append, List.length_nil, List.length_cons, List.length_map, List.length_singleton, Nat.zero_add]; done) | (simp [Heap.set_set, Nat.add_assoc]; done)) | (((funext n; simp only [Heap.set]; (repeat' split) <;> simp_all)) <;> first | rfl | exact ⟨rfl, rfl⟩))) hE
  · rintro y3_l0 hE
    try dsimp only at hE
    unfold schema_InputOf_j2 at hE
    refine AWp.seqK fun K4 hK4 => ?_
    refine AWp.region ?_
    refine AOps.s0 (Cert.build Try.tab_ok rfl rfl rfl rfl rfl rfl) rfl ?_
    refine AOps.sLn (Cert.storeLF (Try.tab_ok _ _ rfl) rfl rfl rfl rfl rfl (by repeat (first | exact SetAt.zero | apply SetAt.succ))) ?_
    refine AOps.s0 (Cert.assign (by conv => lhs; whnf)) rfl ?_
    refine AOps.nil ?_
    refine hK4 _ ?_
    clear hK4 K4
    refine AWp.ret ?_
    repeat (first | refine xBlock_ret ?_ | refine xThen_ret ?_)
    obtain rfl := Option.some.inj hE
    refine retQ.retF H rfl ⟨rfl, rfl⟩ ?_
    exact (fun _ _ h => h)
def schema_Leaf (a0 : TDoc) (a1 : Bs) : Option Bool := (schema_Scalar a1).bind fun x3 => guardO (!x3) (schema_kind a0 a1) (0 : Int) fun x4 => some (x3 || (decide (x4 = (4 : Int))))
set_option maxRecDepth 100000 in
set_option maxHeartbeats 2000000 in
theorem schema_Leaf_walk {a0 : TDoc} {a1 : Bs}   {r : Bool} (hE : schema_Leaf a0 a1 = some r) (H : Heap)  : ACalls Try.prog 65 [.agg (TDoc.c a0), .d (.str a1)] H fun v h' => v = .a (.d (.bool r)) ∧ h' = H := by
  unfold schema_Leaf at hE
  refine ACalls.of_wp (fn := Try.f65) (c := _) Try.tab_ok (fun _ _ => Try.call65 _ _) Try.func65 rfl (n := 13) rfl (rs := [.tmp 4]) rfl rfl ?_
  refine AWp.seqK fun K1 hK1 => ?_
  refine AWp.region ?_
  refine AOps.s0 (Cert.boxV rfl) rfl ?_
  refine AOps.s0 (Cert.assign (by conv => lhs; whnf)) rfl ?_
  refine AOps.nil ?_
  refine hK1 _ ?_
  clear hK1 K1
  refine AWp.seqK fun K2 hK2 => ?_
  refine AWp.region ?_
  refine AOps.s0 (Cert.move (by conv => lhs; whnf)) rfl ?_
  obtain ⟨x3, gx3, hE⟩ := bindO_some hE
  refine AOps.s0 (Cert.callP rfl rfl (fun H => schema_Scalar_walk gx3 H)) rfl ?_
  refine AOps.s0 (Cert.move (by conv => lhs; whnf)) rfl ?_
  refine AOps.gC rfl rfl (fun hC => Cert.loadV (Try.tab_ok _ _ rfl) rfl rfl rfl) rfl ?_
  refine AOps.gC rfl rfl (fun hC => Cert.move (by conv => lhs; whnf)) rfl ?_
  obtain ⟨x4, gx4, hE⟩ := guardO_some hE
  refine AOps.gC rfl rfl (fun hC => Cert.ungd (k := 8) rfl (by first | exact hC | exact andL hC | exact andL (andL hC) | exact andL (andL (andL hC)) | exact andR hC | simp_all) (Cert.ungd (k := 9) rfl (by first | exact hC | exact andL hC | exact andL (andL hC) | exact andL (andL (andL hC)) | exact andR hC | simp_all) (Cert.callP rfl rfl (fun H => schema_kind_walk (gx4 hC) H)))) rfl ?_
  refine AOps.gC rfl rfl (fun hC => Cert.ungd (k := 10) rfl (by first | exact hC | exact andL hC | exact andL (andL hC) | exact andL (andL (andL hC)) | exact andR hC | simp_all) (Cert.binI rfl rfl rfl)) rfl ?_
  refine AOps.s0 (Cert.pickOr rfl rfl rfl (fun h => by first | exact h | exact notT h | exact andI hC h | exact andI hC (notT h) | simp_all)) rfl ?_
  refine AOps.s0 (Cert.assign (by conv => lhs; whnf)) rfl ?_
  refine AOps.nil ?_
  refine hK2 _ ?_
  clear hK2 K2
  refine AWp.ret ?_
  repeat (first | refine xBlock_ret ?_ | refine xThen_ret ?_)
  obtain rfl := Option.some.inj hE
  refine retQ.retF H rfl ⟨rfl, rfl⟩ ?_
  exact (fun _ _ h => h)
def schema_IsInput (a0 : TDoc) (a1 : Bs) : Option Bool := (schema_Leaf a0 a1).bind fun x3 => guardO (!x3) (schema_kind a0 a1) (0 : Int) fun x4 => some (x3 || (decide (x4 = (5 : Int))))
set_option maxRecDepth 100000 in
set_option maxHeartbeats 2000000 in
theorem schema_IsInput_walk {a0 : TDoc} {a1 : Bs}   {r : Bool} (hE : schema_IsInput a0 a1 = some r) (H : Heap)  : ACalls Try.prog 79 [.agg (TDoc.c a0), .d (.str a1)] H fun v h' => v = .a (.d (.bool r)) ∧ h' = H := by
  unfold schema_IsInput at hE
  refine ACalls.of_wp (fn := Try.f79) (c := _) Try.tab_ok (fun _ _ => Try.call79 _ _) Try.func79 rfl (n := 14) rfl (rs := [.tmp 4]) rfl rfl ?_
  refine AWp.seqK fun K1 hK1 => ?_
  refine AWp.region ?_
  refine AOps.s0 (Cert.boxV rfl) rfl ?_
  refine AOps.s0 (Cert.assign (by conv => lhs; whnf)) rfl ?_
  refine AOps.nil ?_
  refine hK1 _ ?_
  clear hK1 K1
  refine AWp.seqK fun K2 hK2 => ?_
  refine AWp.region ?_
  refine AOps.s0 (Cert.loadV (Try.tab_ok _ _ rfl) rfl rfl rfl) rfl ?_
  refine AOps.s0 (Cert.move (by conv => lhs; whnf)) rfl ?_
  obtain ⟨x3, gx3, hE⟩ := bindO_some hE
  refine AOps.s0 (Cert.callP rfl rfl (fun H => schema_Leaf_walk gx3 H)) rfl ?_
  refine AOps.s0 (Cert.move (by conv => lhs; whnf)) rfl ?_
  refine AOps.gC rfl rfl (fun hC => Cert.loadV (Try.tab_ok _ _ rfl) rfl rfl rfl) rfl ?_
  refine AOps.gC rfl rfl (fun hC => Cert.move (by conv => lhs; whnf)) rfl ?_
  obtain ⟨x4, gx4, hE⟩ := guardO_some hE
  refine AOps.gC rfl rfl (fun hC => Cert.ungd (k := 9) rfl (by first | exact hC | exact andL hC | exact andL (andL hC) | exact andL (andL (andL hC)) | exact andR hC | simp_all) (Cert.ungd (k := 10) rfl (by first | exact hC | exact andL hC | exact andL (andL hC) | exact andL (andL (andL hC)) | exact andR hC | simp_all) (Cert.callP rfl rfl (fun H => schema_kind_walk (gx4 hC) H)))) rfl ?_
  refine AOps.gC rfl rfl (fun hC => Cert.ungd (k := 11) rfl (by first | exact hC | exact andL hC | exact andL (andL hC) | exact andL (andL (andL hC)) | exact andR hC | simp_all) (Cert.binI rfl rfl rfl)) rfl ?_
  refine AOps.s0 (Cert.pickOr rfl rfl rfl (fun h => by first | exact h | exact notT h | exact andI hC h | exact andI hC (notT h) | simp_all)) rfl ?_
  refine AOps.s0 (Cert.assign (by conv => lhs; whnf)) rfl ?_
  refine AOps.nil ?_
  refine hK2 _ ?_
  clear hK2 K2
  refine AWp.ret ?_
  repeat (first | refine xBlock_ret ?_ | refine xThen_ret ?_)
  obtain rfl := Option.some.inj hE
  refine retQ.retF H rfl ⟨rfl, rfl⟩ ?_
  exact (fun _ _ h => h)
def typeref_Inner (a0 : TRef) : Option (TRef × Bool) := (typeref_IsList a0).bind fun x4 => bif (!x4) then (some ((TRef.mk ([] : Bs) (Sl.nil : Sl Int)), false)) else ((typeref_Nullable a0).bind fun x8 => (partC x8.FWraps (some (1 : Int)) none).bind fun x10 => some ((TRef.mk x8.FName x10), true))
set_option maxRecDepth 100000 in
set_option maxHeartbeats 2000000 in
theorem typeref_Inner_walk {a0 : TRef}   {r : (TRef × Bool)} (hE : typeref_Inner a0 = some r) (H : Heap)  : ACalls Try.prog 80 [.agg (TRef.c a0)] H fun v h' => v = .tup [.agg (TRef.c r.1), .d (.bool r.2)] ∧ h' = H := by
  unfold typeref_Inner at hE
  refine ACalls.of_wp (fn := Try.f80) (c := _) Try.tab_ok (fun _ _ => Try.call80 _ _) Try.func80 rfl (n := 15) rfl (rs := [.cell 2 29, .tmp 3]) rfl rfl ?_
  refine AWp.seqK fun K1 hK1 => ?_
  refine AWp.region ?_
  refine AOps.sL (Cert.boxL rfl (by repeat (first | exact Snoc.nil | apply Snoc.cons))) rfl ?_
  refine AOps.sL (Cert.allocL (Try.tab_ok _ _ rfl) rfl (by repeat (first | exact Snoc.nil | apply Snoc.cons))) rfl ?_
  refine AOps.s0 (Cert.assign (by conv => lhs; whnf)) rfl ?_
  refine AOps.nil ?_
  refine hK1 _ ?_
  clear hK1 K1
  refine AWp.seqK fun K2 hK2 => ?_
  refine AWp.seqK fun K3 hK3 => ?_
  refine AWp.region ?_
  refine AOps.s0 (Cert.loadL (Try.tab_ok _ _ rfl) rfl rfl rfl rfl) rfl ?_
  obtain ⟨x4, gx4, hE⟩ := bindO_some hE
  refine AOps.s0 (Cert.callP rfl rfl (fun H => typeref_IsList_walk gx4 H)) rfl ?_
  refine AOps.s0 (Cert.notB rfl) rfl ?_
  refine AOps.nil ?_
  refine hK3 _ ?_
  clear hK3 K3
  refine AWp.cond rfl (fun hc5 => ?_) (fun hc5 => ?_)
  · have hE := condT hc5 hE
    try dsimp only at hc5
    refine AWp.seqK fun K6 hK6 => ?_
    refine AWp.region ?_
    refine AOps.s0 (Cert.build Try.tab_ok rfl rfl rfl rfl rfl rfl) rfl ?_
    refine AOps.sLn (Cert.storeLF (Try.tab_ok _ _ rfl) rfl rfl rfl rfl rfl (by repeat (first | exact SetAt.zero | apply SetAt.succ))) ?_
    refine AOps.s0 (Cert.assign (by conv => lhs; whnf)) rfl ?_
    refine AOps.nil ?_
    refine hK6 _ ?_
    clear hK6 K6
    refine AWp.ret ?_
    repeat (first | refine xBlock_ret ?_ | refine xThen_ret ?_)
    obtain rfl := Option.some.inj hE
    refine retQ.retF H rfl ⟨rfl, rfl⟩ ?_
    exact (fun _ _ h => h)
  · have hE := condF hc5 hE
    try dsimp only at hc5
    refine AWp.skip ?_
    refine hK2 _ ?_
    clear hK2 K2
    refine AWp.seqK fun K7 hK7 => ?_
    refine AWp.region ?_
    refine AOps.s0 (Cert.loadL (Try.tab_ok _ _ rfl) rfl rfl rfl rfl) rfl ?_
    obtain ⟨x8, gx8, hE⟩ := bindO_some hE
    refine AOps.s0 (Cert.callP rfl rfl (fun H => typeref_Nullable_walk gx8 H)) rfl ?_
    refine AOps.sLn (Cert.storeLF (Try.tab_ok _ _ rfl) rfl rfl rfl rfl rfl (by repeat (first | exact SetAt.zero | apply SetAt.succ))) ?_
    refine AOps.nil ?_
    refine hK7 _ ?_
    clear hK7 K7
    refine AWp.seqK fun K9 hK9 => ?_
    refine AWp.region ?_
    refine AOps.s0 (Cert.fieldL (Try.tab_ok _ _ rfl) rfl rfl (Try.tab_ok _ _ rfl) rfl rfl) rfl ?_
    refine AOps.s0 (Cert.loadL (Try.tab_ok _ _ rfl) rfl rfl rfl rfl) rfl ?_
    obtain ⟨x10, gx10, hE⟩ := bindO_some hE
    refine AOps.s0 (Cert.partM (f := (intE .i64)) (l := (some (1 : Int))) (r := none) (Try.tab_ok _ _ rfl) rfl (Try.tab_ok _ _ rfl) rfl rfl rfl trivial gx10) rfl ?_
    refine AOps.s0 (Cert.fieldL (Try.tab_ok _ _ rfl) rfl rfl (Try.tab_ok _ _ rfl) rfl rfl) rfl ?_
    refine AOps.sLn (Cert.storeL1 (Try.tab_ok _ _ rfl) rfl rfl rfl rfl (by repeat (first | exact SetAt.zero | apply SetAt.succ)) (by repeat (first | exact SetAt.zero | apply SetAt.succ))) ?_
    refine AOps.nil ?_
    refine hK9 _ ?_
    clear hK9 K9
    refine AWp.seqK fun K11 hK11 => ?_
    refine AWp.region ?_
    refine AOps.s0 (Cert.loadL (Try.tab_ok _ _ rfl) rfl rfl rfl rfl) rfl ?_
    refine AOps.sLn (Cert.storeLF (Try.tab_ok _ _ rfl) rfl rfl rfl rfl rfl (by repeat (first | exact SetAt.zero | apply SetAt.succ))) ?_
    refine AOps.s0 (Cert.assign (by conv => lhs; whnf)) rfl ?_
    refine AOps.nil ?_
    refine hK11 _ ?_
    clear hK11 K11
    refine AWp.ret ?_
    repeat (first | refine xBlock_ret ?_ | refine xThen_ret ?_)
    obtain rfl := Option.some.inj hE
    refine retQ.retF H rfl ⟨rfl, rfl⟩ ?_
    exact (fun _ _ h => h)
def slices_IndexFunc_alueapiValue_j2 (a0 : (Sl TValue)) (a1 : (TValue → Option Bool))   : Option Int := some (-1 : Int)
def slices_IndexFunc_alueapiValue_l6 (a0 : (Sl TValue)) (a1 : (TValue → Option Bool))  : Nat → Nat → Option Int
  | 0, _ => none
  | n6 + 1, s8_7 => bif (decide (((s8_7 : Nat) : Int) < ((a0.l.length : Nat) : Int))) then ((a0.l[s8_7]?).bind fun x14 => (a1 x14).bind fun x15 => bif x15 then (some ((s8_7 : Nat) : Int)) else ((slices_IndexFunc_alueapiValue_l6 a0 a1 n6) (s8_7 + 1))) else (slices_IndexFunc_alueapiValue_j2 a0 a1  )
def slices_IndexFunc_alueapiValue (a0 : (Sl TValue)) (a1 : (TValue → Option Bool)) : Option Int := slices_IndexFunc_alueapiValue_l6 a0 a1 F0 0
set_option maxRecDepth 100000 in
set_option maxHeartbeats 2000000 in
theorem slices_IndexFunc_alueapiValue_walk {a0 : (Sl TValue)} {a1 : (TValue → Option Bool)} {w0 : Option Nat} {cl1 : List D} {k1 : Nat} {r : Int} (hE : slices_IndexFunc_alueapiValue a0 a1 = some r) (H : Heap) (hf1 : ∀ x0 r, a1 x0 = some r → ∀ H, ACalls Try.prog k1 ([.agg (TValue.c x0)] ++ cl1.map A.d) H fun v h' => v = .a (.d (.bool r)) ∧ h' = H) : ACalls Try.prog 88 [.d (Sl.d 5 TValue.c w0 a0), .d (.func k1 cl1)] H fun v h' => v = .a (.d (.int .i64 r)) ∧ h' = H := by
  unfold slices_IndexFunc_alueapiValue at hE
  refine ACalls.of_wp (fn := Try.f88) (c := _) Try.tab_ok (fun _ _ => Try.call88 _ _) Try.func88 rfl (n := 19) rfl (rs := [.tmp 4]) rfl rfl ?_
  refine AWp.seqK fun K1 hK1 => ?_
  refine AWp.region ?_
  refine AOps.s0 (Cert.assign (by conv => lhs; whnf)) rfl ?_
  refine AOps.nil ?_
  refine hK1 _ ?_
  clear hK1 K1
  refine AWp.seqJH KeepsT.nil (fun (z : Unit) => []) (fun z => H) (fun z => slices_IndexFunc_alueapiValue_j2 a0 a1  = some r) ?_ ?_
  · intro K2 hK2
    refine AWp.seqK fun K4 hK4 => ?_
    refine AWp.region ?_
    refine AOps.s0 (Cert.move (by conv => lhs; whnf)) rfl ?_
    refine AOps.sLen (f := TValue.c) (s := a0) (Try.tab_ok _ _ rfl) rfl rfl rfl rfl fun hL5 => ?_
    refine AOps.s0 (Cert.move (by conv => lhs; whnf)) rfl ?_
    refine AOps.nil ?_
    refine hK4 _ ?_
    clear hK4 K4
    refine AWp.block ?_
    refine AWp.loopH (KeepsT.cons (k := 0) (by conv => lhs; whnf) (KeepsT.cons (k := 1) (by conv => lhs; whnf) (KeepsT.cons (k := 7) (by conv => lhs; whnf) KeepsT.nil))) (fun (z : Nat × Nat) => [(8, .a (.d (.int .i64 ((z.2 : Nat) : Int))))]) (fun z => H) (fun z => z.1) (fun z => slices_IndexFunc_alueapiValue_l6 a0 a1 z.1 z.2 = some r) (F0, 0) hE (Weak.to (by repeat (first | exact Keeps.nil | refine Keeps.c rfl rfl ?_ | refine Keeps.c (by (first | (first | rfl | ((conv => lhs; whnf); first | (simp [cellsA, faultsT, faultsD, namesD, Fault.mk_c, Nat.add_assoc, empty_append, Bool.and_assoc]; done) | (simp [cellsA, faultsT, faultsD, namesD, Nat.add_assoc, empty_append, Bool.and_assoc]; repeat (first | rfl | constructor)))) | rfl | (simp only [get_same, ev]; done) | (simp [*, cellsA]; done) | (show V.a (A.d (D.slice _ _ _ _)) = V.a (A.d (D.slice _ _ _ _)); simp [*, cellsA]; done))) rfl ?_)) (by repeat (first | exact Pfx.nil | apply Pfx.cons)) (by first | rfl | (first | rfl | (simp only [Heap.set_set, List.length_append, List.length_nil, List.length_cons, List.length_map, List.length_singleton, Nat.zero_add]; done) | (simp [Heap.set_set, Nat.add_assoc]; done)) | (((funext n; simp only [Heap.set]; (repeat' split) <;> simp_all)) <;> first | rfl | exact ⟨rfl, rfl⟩))) ?_
    rintro ⟨n6, s8_7⟩ hE K6 hK6
    try dsimp only at hE
    cases n6 with
    | zero => cases hE
    | succ n6 =>
        rw [slices_IndexFunc_alueapiValue_l6] at hE
        refine AWp.seqK fun K8 hK8 => ?_
        refine AWp.region ?_
        refine AOps.s0 (Cert.binI rfl rfl rfl) rfl ?_
        refine AOps.nil ?_
        refine hK8 _ ?_
        clear hK8 K8
        refine AWp.seqK fun K9 hK9 => ?_
        refine AWp.cond rfl (fun hc10 => ?_) (fun hc10 => ?_)
        · have hE := condT hc10 hE
          try dsimp only at hc10
          have hf10 := of_decide_eq_true hc10
          refine AWp.skip ?_
          refine hK9 _ ?_
          clear hK9 K9
          refine AWp.seqK fun K11 hK11 => ?_
          refine AWp.block ?_
          refine AWp.seqK fun K12 hK12 => ?_
          refine AWp.region ?_
          refine AOps.s0 (Cert.move (by conv => lhs; whnf)) rfl ?_
          refine AOps.s0 (Cert.assign (by conv => lhs; whnf)) rfl ?_
          refine AOps.nil ?_
          refine hK12 _ ?_
          clear hK12 K12
          refine AWp.seqK fun K13 hK13 => ?_
          refine AWp.region ?_
          refine AOps.s0 (Cert.move (by conv => lhs; whnf)) rfl ?_
          refine AOps.s0 (Cert.move (by conv => lhs; whnf)) rfl ?_
          refine AOps.s0 (Cert.move (by conv => lhs; whnf)) rfl ?_
          obtain ⟨x14, gx14, hE⟩ := bindO_some hE
          refine AOps.s0 (Cert.idxMn (f := TValue.c) (n := s8_7) (Try.tab_ok _ _ rfl) rfl (Try.tab_ok _ _ rfl) rfl rfl rfl gx14) rfl ?_
          refine AOps.s0 (Cert.loadV (Try.tab_ok _ _ rfl) rfl rfl rfl) rfl ?_
          obtain ⟨x15, gx15, hE⟩ := bindO_some hE
          refine AOps.s0 (Cert.callP rfl rfl (hf1 _ _ gx15)) rfl ?_
          refine AOps.nil ?_
          refine hK13 _ ?_
          clear hK13 K13
          refine AWp.cond rfl (fun hc16 => ?_) (fun hc16 => ?_)
          · have hE := condT hc16 hE
            try dsimp only at hc16
            refine AWp.seqK fun K17 hK17 => ?_
            refine AWp.region ?_
            refine AOps.s0 (Cert.move (by conv => lhs; whnf)) rfl ?_
            refine AOps.s0 (Cert.assign (by conv => lhs; whnf)) rfl ?_
            refine AOps.nil ?_
            refine hK17 _ ?_
            clear hK17 K17
            refine AWp.ret ?_
            repeat (first | refine xBlock_ret ?_ | refine xThen_ret ?_)
            obtain rfl := Option.some.inj hE
            refine retQ.retF H rfl ⟨rfl, rfl⟩ ?_
            exact (fun _ _ h => h)
          · have hE := condF hc16 hE
            try dsimp only at hc16
            refine AWp.skip ?_
            refine hK11 _ ?_
            clear hK11 K11
            refine AWp.region ?_
            refine AOps.s0 (Cert.addI rfl rfl (by first | omega | (dsimp only; omega)) (by first | omega | (dsimp only; omega))) rfl ?_
            refine AOps.s0 (Cert.move (by conv => lhs; whnf)) rfl ?_
            refine AOps.nil ?_
            exact hK6 _ (n6, (s8_7 + 1)) (Weak.to (by repeat (first | exact Keeps.nil | refine Keeps.c rfl rfl ?_ | refine Keeps.c (by (first | (first | rfl | ((conv => lhs; whnf); first | (simp [cellsA, faultsT, faultsD, namesD, Fault.mk_c, Nat.add_assoc, empty_append, Bool.and_assoc]; done) | (simp [cellsA, faultsT, faultsD, namesD, Nat.add_assoc, empty_append, Bool.and_assoc]; repeat (first | rfl | constructor)))) | rfl | (simp only [get_same, ev]; done) | (simp [*, cellsA]; done) | (show V.a (A.d (D.slice _ _ _ _)) = V.a (A.d (D.slice _ _ _ _)); simp [*, cellsA]; done))) rfl ?_)) (by repeat (first | exact Pfx.nil | apply Pfx.cons)) (by first | rfl | (first | rfl | (simp only [Heap.set_set, List.length_append, List.length_nil, List.length_cons, List.length_map, List.length_singleton, Nat.zero_add]; done) | (simp [Heap.set_set, Nat.add_assoc]; done)) | (((funext n; simp only [Heap.set]; (repeat' split) <;> simp_all)) <;> first | rfl | exact ⟨rfl, rfl⟩))) hE (Nat.lt_succ_self _)
        · have hE := condF hc10 hE
          try dsimp only at hc10
          refine AWp.exit ?_
          exact hK2 _ () (Weak.to (by repeat (first | exact Keeps.nil | refine Keeps.c rfl rfl ?_ | refine Keeps.c (by (first | (first | rfl | ((conv => lhs; whnf); first | (simp [cellsA, faultsT, faultsD, namesD, Fault.mk_c, Nat.add_assoc, empty_append, Bool.and_assoc]; done) | (simp [cellsA, faultsT, faultsD, namesD, Nat.add_assoc, empty_append, Bool.and_assoc]; repeat (first | rfl | constructor)))) | rfl | (simp only [get_same, ev]; done) | (simp [*, cellsA]; done) | (show V.a (A.d (D.slice _ _ _ _)) = V.a (A.d (D.slice _ _ _ _)); simp [*, cellsA]; done))) rfl ?_)) (by repeat (first | exact Pfx.nil | apply Pfx.cons)) (by first | rfl | (first | rfl | (simp only [Heap.set_set, List.length_append, List.length_nil, List.length_cons, List.length_map, List.length_singleton, Nat.zero_add]; done) | (simp [Heap.set_set, Nat.add_assoc]; done)) | (((funext n; simp only [Heap.set]; (repeat' split) <;> simp_all)) <;> first | rfl | exact ⟨rfl, rfl⟩))) hE
  · rintro _ hE
    try dsimp only at hE
    unfold slices_IndexFunc_alueapiValue_j2 at hE
    refine AWp.seqK fun K3 hK3 => ?_
    refine AWp.region ?_
    refine AOps.s0 (Cert.assign (by conv => lhs; whnf)) rfl ?_
    refine AOps.nil ?_
    refine hK3 _ ?_
    clear hK3 K3
    refine AWp.ret ?_
    repeat (first | refine xBlock_ret ?_ | refine xThen_ret ?_)
    obtain rfl := Option.some.inj hE
    refine retQ.retF H rfl ⟨rfl, rfl⟩ ?_
    exact (fun _ _ h => h)
def slices_ContainsFunc_alueapiValue (a0 : (Sl TValue)) (a1 : (TValue → Option Bool)) : Option Bool := (slices_IndexFunc_alueapiValue a0 a1).bind fun x3 => some (decide ((0 : Int) ≤ x3))
set_option maxRecDepth 100000 in
set_option maxHeartbeats 2000000 in
theorem slices_ContainsFunc_alueapiValue_walk {a0 : (Sl TValue)} {a1 : (TValue → Option Bool)} {w0 : Option Nat} {cl1 : List D} {k1 : Nat} {r : Bool} (hE : slices_ContainsFunc_alueapiValue a0 a1 = some r) (H : Heap) (hf1 : ∀ x0 r, a1 x0 = some r → ∀ H, ACalls Try.prog k1 ([.agg (TValue.c x0)] ++ cl1.map A.d) H fun v h' => v = .a (.d (.bool r)) ∧ h' = H) : ACalls Try.prog 81 [.d (Sl.d 5 TValue.c w0 a0), .d (.func k1 cl1)] H fun v h' => v = .a (.d (.bool r)) ∧ h' = H := by
  unfold slices_ContainsFunc_alueapiValue at hE
  refine ACalls.of_wp (fn := Try.f81) (c := _) Try.tab_ok (fun _ _ => Try.call81 _ _) Try.func81 rfl (n := 9) rfl (rs := [.tmp 4]) rfl rfl ?_
  refine AWp.seqK fun K1 hK1 => ?_
  refine AWp.region ?_
  refine AOps.s0 (Cert.assign (by conv => lhs; whnf)) rfl ?_
  refine AOps.nil ?_
  refine hK1 _ ?_
  clear hK1 K1
  refine AWp.seqK fun K2 hK2 => ?_
  refine AWp.region ?_
  refine AOps.s0 (Cert.move (by conv => lhs; whnf)) rfl ?_
  refine AOps.s0 (Cert.move (by conv => lhs; whnf)) rfl ?_
  obtain ⟨x3, gx3, hE⟩ := bindO_some hE
  refine AOps.s0 (Cert.callP rfl rfl (fun H => slices_IndexFunc_alueapiValue_walk gx3 H hf1)) rfl ?_
  refine AOps.s0 (Cert.binI rfl rfl rfl) rfl ?_
  refine AOps.s0 (Cert.assign (by conv => lhs; whnf)) rfl ?_
  refine AOps.nil ?_
  refine hK2 _ ?_
  clear hK2 K2
  refine AWp.ret ?_
  repeat (first | refine xBlock_ret ?_ | refine xThen_ret ?_)
  obtain rfl := Option.some.inj hE
  refine retQ.retF H rfl ⟨rfl, rfl⟩ ?_
  exact (fun _ _ h => h)
def slices_IndexFunc_berapiMember_j2 (a0 : (Sl TMember)) (a1 : (TMember → Option Bool))   : Option Int := some (-1 : Int)
def slices_IndexFunc_berapiMember_l6 (a0 : (Sl TMember)) (a1 : (TMember → Option Bool))  : Nat → Nat → Option Int
  | 0, _ => none
  | n6 + 1, s8_7 => bif (decide (((s8_7 : Nat) : Int) < ((a0.l.length : Nat) : Int))) then ((a0.l[s8_7]?).bind fun x14 => (a1 x14).bind fun x15 => bif x15 then (some ((s8_7 : Nat) : Int)) else ((slices_IndexFunc_berapiMember_l6 a0 a1 n6) (s8_7 + 1))) else (slices_IndexFunc_berapiMember_j2 a0 a1  )
def slices_IndexFunc_berapiMember (a0 : (Sl TMember)) (a1 : (TMember → Option Bool)) : Option Int := slices_IndexFunc_berapiMember_l6 a0 a1 F0 0
set_option maxRecDepth 100000 in
set_option maxHeartbeats 2000000 in
theorem slices_IndexFunc_berapiMember_walk {a0 : (Sl TMember)} {a1 : (TMember → Option Bool)} {w0 : Option Nat} {cl1 : List D} {k1 : Nat} {r : Int} (hE : slices_IndexFunc_berapiMember a0 a1 = some r) (H : Heap) (hf1 : ∀ x0 r, a1 x0 = some r → ∀ H, ACalls Try.prog k1 ([.agg (TMember.c x0)] ++ cl1.map A.d) H fun v h' => v = .a (.d (.bool r)) ∧ h' = H) : ACalls Try.prog 89 [.d (Sl.d 2 TMember.c w0 a0), .d (.func k1 cl1)] H fun v h' => v = .a (.d (.int .i64 r)) ∧ h' = H := by
  unfold slices_IndexFunc_berapiMember at hE
  refine ACalls.of_wp (fn := Try.f89) (c := _) Try.tab_ok (fun _ _ => Try.call89 _ _) Try.func89 rfl (n := 19) rfl (rs := [.tmp 4]) rfl rfl ?_
  refine AWp.seqK fun K1 hK1 => ?_
  refine AWp.region ?_
  refine AOps.s0 (Cert.assign (by conv => lhs; whnf)) rfl ?_
  refine AOps.nil ?_
  refine hK1 _ ?_
  clear hK1 K1
  refine AWp.seqJH KeepsT.nil (fun (z : Unit) => []) (fun z => H) (fun z => slices_IndexFunc_berapiMember_j2 a0 a1  = some r) ?_ ?_
  · intro K2 hK2
    refine AWp.seqK fun K4 hK4 => ?_
    refine AWp.region ?_
    refine AOps.s0 (Cert.move (by conv => lhs; whnf)) rfl ?_
    refine AOps.sLen (f := TMember.c) (s := a0) (Try.tab_ok _ _ rfl) rfl rfl rfl rfl fun hL5 => ?_
    refine AOps.s0 (Cert.move (by conv => lhs; whnf)) rfl ?_
    refine AOps.nil ?_
    refine hK4 _ ?_
    clear hK4 K4
    refine AWp.block ?_
    refine AWp.loopH (KeepsT.cons (k := 0) (by conv => lhs; whnf) (KeepsT.cons (k := 1) (by conv => lhs; whnf) (KeepsT.cons (k := 7) (by conv => lhs; whnf) KeepsT.nil))) (fun (z : Nat × Nat) => [(8, .a (.d (.int .i64 ((z.2 : Nat) : Int))))]) (fun z => H) (fun z => z.1) (fun z => slices_IndexFunc_berapiMember_l6 a0 a1 z.1 z.2 = some r) (F0, 0) hE (Weak.to (by repeat (first | exact Keeps.nil | refine Keeps.c rfl rfl ?_ | refine Keeps.c (by (first | (first | rfl | ((conv => lhs; whnf); first | (simp [cellsA, faultsT, faultsD, namesD, Fault.mk_c, Nat.add_assoc, empty_append, Bool.and_assoc]; done) | (simp [cellsA, faultsT, faultsD, namesD, Nat.add_assoc, empty_append, Bool.and_assoc]; repeat (first | rfl | constructor)))) | rfl | (simp only [get_same, ev]; done) | (simp [*, cellsA]; done) | (show V.a (A.d (D.slice _ _ _ _)) = V.a (A.d (D.slice _ _ _ _)); simp [*, cellsA]; done))) rfl ?_)) (by repeat (first | exact Pfx.nil | apply Pfx.cons)) (by first | rfl | (first | rfl | (simp only [Heap.set_set, List.length_append, List.length_nil, List.length_cons, List.length_map, List.length_singleton, Nat.zero_add]; done) | (simp [Heap.set_set, Nat.add_assoc]; done)) | (((funext n; simp only [Heap.set]; (repeat' split) <;> simp_all)) <;> first | rfl | exact ⟨rfl, rfl⟩))) ?_
    rintro ⟨n6, s8_7⟩ hE K6 hK6
    try dsimp only at hE
    cases n6 with
    | zero => cases hE
    | succ n6 =>
        rw [slices_IndexFunc_berapiMember_l6] at hE
        refine AWp.seqK fun K8 hK8 => ?_
        refine AWp.region ?_
        refine AOps.s0 (Cert.binI rfl rfl rfl) rfl ?_
        refine AOps.nil ?_
        refine hK8 _ ?_
        clear hK8 K8
        refine AWp.seqK fun K9 hK9 => ?_
        refine AWp.cond rfl (fun hc10 => ?_) (fun hc10 => ?_)
        · have hE := condT hc10 hE
          try dsimp only at hc10
          have hf10 := of_decide_eq_true hc10
          refine AWp.skip ?_
          refine hK9 _ ?_
          clear hK9 K9
          refine AWp.seqK fun K11 hK11 => ?_
          refine AWp.block ?_
          refine AWp.seqK fun K12 hK12 => ?_
          refine AWp.region ?_
          refine AOps.s0 (Cert.move (by conv => lhs; whnf)) rfl ?_
          refine AOps.s0 (Cert.assign (by conv => lhs; whnf)) rfl ?_
          refine AOps.nil ?_
          refine hK12 _ ?_
          clear hK12 K12
          refine AWp.seqK fun K13 hK13 => ?_
          refine AWp.region ?_
          refine AOps.s0 (Cert.move (by conv => lhs; whnf)) rfl ?_
          refine AOps.s0 (Cert.move (by conv => lhs; whnf)) rfl ?_
          refine AOps.s0 (Cert.move (by conv => lhs; whnf)) rfl ?_
          obtain ⟨x14, gx14, hE⟩ := bindO_some hE
          refine AOps.s0 (Cert.idxMn (f := TMember.c) (n := s8_7) (Try.tab_ok _ _ rfl) rfl (Try.tab_ok _ _ rfl) rfl rfl rfl gx14) rfl ?_
          refine AOps.s0 (Cert.loadV (Try.tab_ok _ _ rfl) rfl rfl rfl) rfl ?_
          obtain ⟨x15, gx15, hE⟩ := bindO_some hE
          refine AOps.s0 (Cert.callP rfl rfl (hf1 _ _ gx15)) rfl ?_
          refine AOps.nil ?_
          refine hK13 _ ?_
          clear hK13 K13
          refine AWp.cond rfl (fun hc16 => ?_) (fun hc16 => ?_)
          · have hE := condT hc16 hE
            try dsimp only at hc16
            refine AWp.seqK fun K17 hK17 => ?_
            refine AWp.region ?_
            refine AOps.s0 (Cert.move (by conv => lhs; whnf)) rfl ?_
            refine AOps.s0 (Cert.assign (by conv => lhs; whnf)) rfl ?_
            refine AOps.nil ?_
            refine hK17 _ ?_
            clear hK17 K17
            refine AWp.ret ?_
            repeat (first | refine xBlock_ret ?_ | refine xThen_ret ?_)
            obtain rfl := Option.some.inj hE
            refine retQ.retF H rfl ⟨rfl, rfl⟩ ?_
            exact (fun _ _ h => h)
          · have hE := condF hc16 hE
            try dsimp only at hc16
            refine AWp.skip ?_
            refine hK11 _ ?_
            clear hK11 K11
            refine AWp.region ?_
            refine AOps.s0 (Cert.addI rfl rfl (by first | omega | (dsimp only; omega)) (by first | omega | (dsimp only; omega))) rfl ?_
            refine AOps.s0 (Cert.move (by conv => lhs; whnf)) rfl ?_
            refine AOps.nil ?_
            exact hK6 _ (n6, (s8_7 + 1)) (Weak.to (by repeat (first | exact Keeps.nil | refine Keeps.c rfl rfl ?_ | refine Keeps.c (by (first | (first | rfl | ((conv => lhs; whnf); first | (simp [cellsA, faultsT, faultsD, namesD, Fault.mk_c, Nat.add_assoc, empty_append, Bool.and_assoc]; done) | (simp [cellsA, faultsT, faultsD, namesD, Nat.add_assoc, empty_append, Bool.and_assoc]; repeat (first | rfl | constructor)))) | rfl | (simp only [get_same, ev]; done) | (simp [*, cellsA]; done) | (show V.a (A.d (D.slice _ _ _ _)) = V.a (A.d (D.slice _ _ _ _)); simp [*, cellsA]; done))) rfl ?_)) (by repeat (first | exact Pfx.nil | apply Pfx.cons)) (by first | rfl | (first | rfl | (simp only [Heap.set_set, List.length_append, List.length_nil, List.length_cons, List.length_map, List.length_singleton, Nat.zero_add]; done) | (simp [Heap.set_set, Nat.add_assoc]; done)) | (((funext n; simp only [Heap.set]; (repeat' split) <;> simp_all)) <;> first | rfl | exact ⟨rfl, rfl⟩))) hE (Nat.lt_succ_self _)
        · have hE := condF hc10 hE
          try dsimp only at hc10
          refine AWp.exit ?_
          exact hK2 _ () (Weak.to (by repeat (first | exact Keeps.nil | refine Keeps.c rfl rfl ?_ | refine Keeps.c (by (first | (first | rfl | ((conv => lhs; whnf); first | (simp [cellsA, faultsT, faultsD, namesD, Fault.mk_c, Nat.add_assoc, empty_append, Bool.and_assoc]; done) | (simp [cellsA, faultsT, faultsD, namesD, Nat.add_assoc, empty_append, Bool.and_assoc]; repeat (first | rfl | constructor)))) | rfl | (simp only [get_same, ev]; done) | (simp [*, cellsA]; done) | (show V.a (A.d (D.slice _ _ _ _)) = V.a (A.d (D.slice _ _ _ _)); simp [*, cellsA]; done))) rfl ?_)) (by repeat (first | exact Pfx.nil | apply Pfx.cons)) (by first | rfl | (first | rfl | (simp only [Heap.set_set, List.length_append, List.length_nil, List.length_cons, List.length_map, List.length_singleton, Nat.zero_add]; done) | (simp [Heap.set_set, Nat.add_assoc]; done)) | (((funext n; simp only [Heap.set]; (repeat' split) <;> simp_all)) <;> first | rfl | exact ⟨rfl, rfl⟩))) hE
  · rintro _ hE
    try dsimp only at hE
    unfold slices_IndexFunc_berapiMember_j2 at hE
    refine AWp.seqK fun K3 hK3 => ?_
    refine AWp.region ?_
    refine AOps.s0 (Cert.assign (by conv => lhs; whnf)) rfl ?_
    refine AOps.nil ?_
    refine hK3 _ ?_
    clear hK3 K3
    refine AWp.ret ?_
    repeat (first | refine xBlock_ret ?_ | refine xThen_ret ?_)
    obtain rfl := Option.some.inj hE
    refine retQ.retF H rfl ⟨rfl, rfl⟩ ?_
    exact (fun _ _ h => h)
end Go.Proofs
