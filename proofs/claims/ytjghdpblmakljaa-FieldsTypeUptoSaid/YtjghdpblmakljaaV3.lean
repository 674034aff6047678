import Derived.Test.YtjghdpblmakljaaV2
import Derived.Test.YtjghdpblmakljaaTab
set_option linter.unusedVariables false
set_option linter.unusedSimpArgs false
namespace Go.Proofs
open Go Go.Ab
def slices_ContainsFunc_berapiMember (a0 : (Sl TMember)) (a1 : (TMember → Option Bool)) : Option Bool := (slices_IndexFunc_berapiMember a0 a1).bind fun x3 => some (decide ((0 : Int) ≤ x3))
set_option maxRecDepth 100000 in
set_option maxHeartbeats 2000000 in
theorem slices_ContainsFunc_berapiMember_walk {a0 : (Sl TMember)} {a1 : (TMember → Option Bool)} {w0 : Option Nat} {cl1 : List D} {k1 : Nat} {r : Bool} (hE : slices_ContainsFunc_berapiMember a0 a1 = some r) (H : Heap) (hf1 : ∀ x0 r, a1 x0 = some r → ∀ H, ACalls Try.prog k1 ([.agg (TMember.c x0)] ++ cl1.map A.d) H fun v h' => v = .a (.d (.bool r)) ∧ h' = H) : ACalls Try.prog 83 [.d (Sl.d 2 TMember.c w0 a0), .d (.func k1 cl1)] H fun v h' => v = .a (.d (.bool r)) ∧ h' = H := by
  unfold slices_ContainsFunc_berapiMember at hE
  refine ACalls.of_wp (fn := Try.f83) (c := _) Try.tab_ok (fun _ _ => Try.call83 _ _) Try.func83 rfl (n := 9) rfl (rs := [.tmp 4]) rfl rfl ?_
  refine AWp.seqK fun K1 hK1 => ?_
  refine AWp.region ?_
  refine AOps.s0 (Cert.assign (by conv => lhs; whnf)) rfl ?_
  refine AOps.nil ?_
  refine hK1 _ ?_
  clear hK1 K1
  refine AWp.seqK fun K2 hK2 => ?_
  refine AWp.region ?_
  refine AOps.s0 (Cert.move (by conv => lhs; whnf)) rfl ?_
  refine AOps.s0 (Cert.move (by conv => lhs; whnf)) rfl ?_
  obtain ⟨x3, gx3, hE⟩ := bindO_some hE
  refine AOps.s0 (Cert.callP rfl rfl (fun H => slices_IndexFunc_berapiMember_walk gx3 H hf1)) rfl ?_
  refine AOps.s0 (Cert.binI rfl rfl rfl) rfl ?_
  refine AOps.s0 (Cert.assign (by conv => lhs; whnf)) rfl ?_
  refine AOps.nil ?_
  refine hK2 _ ?_
  clear hK2 K2
  refine AWp.ret ?_
  repeat (first | refine xBlock_ret ?_ | refine xThen_ret ?_)
  obtain rfl := Option.some.inj hE
  refine retQ.retF H rfl ⟨rfl, rfl⟩ ?_
  exact (fun _ _ h => h)
def fields_fits_2 (a0 : TMember) (a1 : TValue) : Option Bool := some ((a0.FName == a1.FText))
set_option maxRecDepth 100000 in
set_option maxHeartbeats 2000000 in
theorem fields_fits_2_walk {a0 : TMember} {a1 : TValue}   {r : Bool} (hE : fields_fits_2 a0 a1 = some r) (H : Heap)  : ACalls Try.prog 84 [.agg (TMember.c a0), .d (.view (TValue.c a1))] H fun v h' => v = .a (.d (.bool r)) ∧ h' = H := by
  unfold fields_fits_2 at hE
  refine ACalls.of_wp (fn := Try.f84) (c := _) Try.tab_ok (fun _ _ => Try.call84 _ _) Try.func84 rfl (n := 9) rfl (rs := [.tmp 3]) rfl rfl ?_
  refine AWp.seqK fun K1 hK1 => ?_
  refine AWp.region ?_
  refine AOps.s0 (Cert.boxV rfl) rfl ?_
  refine AOps.s0 (Cert.assign (by conv => lhs; whnf)) rfl ?_
  refine AOps.nil ?_
  refine hK1 _ ?_
  clear hK1 K1
  refine AWp.seqK fun K2 hK2 => ?_
  refine AWp.region ?_
  refine AOps.s0 (Cert.fieldV (Try.tab_ok _ _ rfl) rfl rfl (Try.tab_ok _ _ rfl) rfl rfl (by conv => lhs; whnf)) rfl ?_
  refine AOps.s0 (Cert.loadV (Try.tab_ok _ _ rfl) rfl rfl rfl) rfl ?_
  refine AOps.s0 (Cert.fieldV (Try.tab_ok _ _ rfl) rfl rfl (Try.tab_ok _ _ rfl) rfl rfl (by conv => lhs; whnf)) rfl ?_
  refine AOps.s0 (Cert.loadV (Try.tab_ok _ _ rfl) rfl rfl rfl) rfl ?_
  refine AOps.s0 (Cert.binS rfl rfl rfl) rfl ?_
  refine AOps.s0 (Cert.assign (by conv => lhs; whnf)) rfl ?_
  refine AOps.nil ?_
  refine hK2 _ ?_
  clear hK2 K2
  refine AWp.ret ?_
  repeat (first | refine xBlock_ret ?_ | refine xThen_ret ?_)
  obtain rfl := Option.some.inj hE
  refine retQ.retF H rfl ⟨rfl, rfl⟩ ?_
  exact (fun _ _ h => h)
def slices_IndexFunc_nputapiInput_j2 (a0 : (Sl TInput)) (a1 : (TInput → Option Bool))   : Option Int := some (-1 : Int)
def slices_IndexFunc_nputapiInput_l6 (a0 : (Sl TInput)) (a1 : (TInput → Option Bool))  : Nat → Nat → Option Int
  | 0, _ => none
  | n6 + 1, s8_7 => bif (decide (((s8_7 : Nat) : Int) < ((a0.l.length : Nat) : Int))) then ((a0.l[s8_7]?).bind fun x14 => (a1 x14).bind fun x15 => bif x15 then (some ((s8_7 : Nat) : Int)) else ((slices_IndexFunc_nputapiInput_l6 a0 a1 n6) (s8_7 + 1))) else (slices_IndexFunc_nputapiInput_j2 a0 a1  )
def slices_IndexFunc_nputapiInput (a0 : (Sl TInput)) (a1 : (TInput → Option Bool)) : Option Int := slices_IndexFunc_nputapiInput_l6 a0 a1 F0 0
set_option maxRecDepth 100000 in
set_option maxHeartbeats 2000000 in
theorem slices_IndexFunc_nputapiInput_walk {a0 : (Sl TInput)} {a1 : (TInput → Option Bool)} {w0 : Option Nat} {cl1 : List D} {k1 : Nat} {r : Int} (hE : slices_IndexFunc_nputapiInput a0 a1 = some r) (H : Heap) (hf1 : ∀ x0 r, a1 x0 = some r → ∀ H, ACalls Try.prog k1 ([.agg (TInput.c x0)] ++ cl1.map A.d) H fun v h' => v = .a (.d (.bool r)) ∧ h' = H) : ACalls Try.prog 93 [.d (Sl.d 10 TInput.c w0 a0), .d (.func k1 cl1)] H fun v h' => v = .a (.d (.int .i64 r)) ∧ h' = H := by
  unfold slices_IndexFunc_nputapiInput at hE
  refine ACalls.of_wp (fn := Try.f93) (c := _) Try.tab_ok (fun _ _ => Try.call93 _ _) Try.func93 rfl (n := 19) rfl (rs := [.tmp 4]) rfl rfl ?_
  refine AWp.seqK fun K1 hK1 => ?_
  refine AWp.region ?_
  refine AOps.s0 (Cert.assign (by conv => lhs; whnf)) rfl ?_
  refine AOps.nil ?_
  refine hK1 _ ?_
  clear hK1 K1
  refine AWp.seqJH KeepsT.nil (fun (z : Unit) => []) (fun z => H) (fun z => slices_IndexFunc_nputapiInput_j2 a0 a1  = some r) ?_ ?_
  · intro K2 hK2
    refine AWp.seqK fun K4 hK4 => ?_
    refine AWp.region ?_
    refine AOps.s0 (Cert.move (by conv => lhs; whnf)) rfl ?_
    refine AOps.sLen (f := TInput.c) (s := a0) (Try.tab_ok _ _ rfl) rfl rfl rfl rfl fun hL5 => ?_
    refine AOps.s0 (Cert.move (by conv => lhs; whnf)) rfl ?_
    refine AOps.nil ?_
    refine hK4 _ ?_
    clear hK4 K4
    refine AWp.block ?_
    refine AWp.loopH (KeepsT.cons (k := 0) (by conv => lhs; whnf) (KeepsT.cons (k := 1) (by conv => lhs; whnf) (KeepsT.cons (k := 7) (by conv => lhs; whnf) KeepsT.nil))) (fun (z : Nat × Nat) => [(8, .a (.d (.int .i64 ((z.2 : Nat) : Int))))]) (fun z => H) (fun z => z.1) (fun z => slices_IndexFunc_nputapiInput_l6 a0 a1 z.1 z.2 = some r) (F0, 0) hE (Weak.to (by repeat (first | exact Keeps.nil | refine Keeps.c rfl rfl ?_ | refine Keeps.c (by (first | (first | rfl | ((conv => lhs; whnf); first | (simp [cellsA, faultsT, faultsD, namesD, Fault.mk_c, Nat.add_assoc, empty_append, Bool.and_assoc]; done) | (simp [cellsA, faultsT, faultsD, namesD, Nat.add_assoc, empty_append, Bool.and_assoc]; repeat (first | rfl | constructor)))) | rfl | (simp only [get_same, ev]; done) | (simp [*, cellsA]; done) | (show V.a (A.d (D.slice _ _ _ _)) = V.a (A.d (D.slice _ _ _ _)); simp [*, cellsA]; done))) rfl ?_)) (by repeat (first | exact Pfx.nil | apply Pfx.cons)) (by first | rfl | (first | rfl | (simp only [Heap.set_set, List.length_append, List.length_nil, List.length_cons, List.length_map, List.length_singleton, Nat.zero_add]; done) | (simp [Heap.set_set, Nat.add_assoc]; done)) | (((funext n; simp only [Heap.set]; (repeat' split) <;> simp_all)) <;> first | rfl | exact ⟨rfl, rfl⟩))) ?_
    rintro ⟨n6, s8_7⟩ hE K6 hK6
    try dsimp only at hE
    cases n6 with
    | zero => cases hE
    | succ n6 =>
        rw [slices_IndexFunc_nputapiInput_l6] at hE
        refine AWp.seqK fun K8 hK8 => ?_
        refine AWp.region ?_
        refine AOps.s0 (Cert.binI rfl rfl rfl) rfl ?_
        refine AOps.nil ?_
        refine hK8 _ ?_
        clear hK8 K8
        refine AWp.seqK fun K9 hK9 => ?_
        refine AWp.cond rfl (fun hc10 => ?_) (fun hc10 => ?_)
        · have hE := condT hc10 hE
          try dsimp only at hc10
          have hf10 := of_decide_eq_true hc10
          refine AWp.skip ?_
          refine hK9 _ ?_
          clear hK9 K9
          refine AWp.seqK fun K11 hK11 => ?_
          refine AWp.block ?_
          refine AWp.seqK fun K12 hK12 => ?_
          refine AWp.region ?_
          refine AOps.s0 (Cert.move (by conv => lhs; whnf)) rfl ?_
          refine AOps.s0 (Cert.assign (by conv => lhs; whnf)) rfl ?_
          refine AOps.nil ?_
          refine hK12 _ ?_
          clear hK12 K12
          refine AWp.seqK fun K13 hK13 => ?_
          refine AWp.region ?_
          refine AOps.s0 (Cert.move (by conv => lhs; whnf)) rfl ?_
          refine AOps.s0 (Cert.move (by conv => lhs; whnf)) rfl ?_
          refine AOps.s0 (Cert.move (by conv => lhs; whnf)) rfl ?_
          obtain ⟨x14, gx14, hE⟩ := bindO_some hE
          refine AOps.s0 (Cert.idxMn (f := TInput.c) (n := s8_7) (Try.tab_ok _ _ rfl) rfl (Try.tab_ok _ _ rfl) rfl rfl rfl gx14) rfl ?_
          refine AOps.s0 (Cert.loadV (Try.tab_ok _ _ rfl) rfl rfl rfl) rfl ?_
          obtain ⟨x15, gx15, hE⟩ := bindO_some hE
          refine AOps.s0 (Cert.callP rfl rfl (hf1 _ _ gx15)) rfl ?_
          refine AOps.nil ?_
          refine hK13 _ ?_
          clear hK13 K13
          refine AWp.cond rfl (fun hc16 => ?_) (fun hc16 => ?_)
          · have hE := condT hc16 hE
            try dsimp only at hc16
            refine AWp.seqK fun K17 hK17 => ?_
            refine AWp.region ?_
            refine AOps.s0 (Cert.move (by conv => lhs; whnf)) rfl ?_
            refine AOps.s0 (Cert.assign (by conv => lhs; whnf)) rfl ?_
            refine AOps.nil ?_
            refine hK17 _ ?_
            clear hK17 K17
            refine AWp.ret ?_
            repeat (first | refine xBlock_ret ?_ | refine xThen_ret ?_)
            obtain rfl := Option.some.inj hE
            refine retQ.retF H rfl ⟨rfl, rfl⟩ ?_
            exact (fun _ _ h => h)
          · have hE := condF hc16 hE
            try dsimp only at hc16
            refine AWp.skip ?_
            refine hK11 _ ?_
            clear hK11 K11
            refine AWp.region ?_
            refine AOps.s0 (Cert.addI rfl rfl (by first | omega | (dsimp only; omega)) (by first | omega | (dsimp only; omega))) rfl ?_
            refine AOps.s0 (Cert.move (by conv => lhs; whnf)) rfl ?_
            refine AOps.nil ?_
            exact hK6 _ (n6, (s8_7 + 1)) (Weak.to (by repeat (first | exact Keeps.nil | refine Keeps.c rfl rfl ?_ | refine Keeps.c (by (first | (first | rfl | ((conv => lhs; whnf); first | (simp [cellsA, faultsT, faultsD, namesD, Fault.mk_c, Nat.add_assoc, empty_append, Bool.and_assoc]; done) | (simp [cellsA, faultsT, faultsD, namesD, Nat.add_assoc, empty_append, Bool.and_assoc]; repeat (first | rfl | constructor)))) | rfl | (simp only [get_same, ev]; done) | (simp [*, cellsA]; done) | (show V.a (A.d (D.slice _ _ _ _)) = V.a (A.d (D.slice _ _ _ _)); simp [*, cellsA]; done))) rfl ?_)) (by repeat (first | exact Pfx.nil | apply Pfx.cons)) (by first | rfl | (first | rfl | (simp only [Heap.set_set, List.length_append, List.length_nil, List.length_cons, List.length_map, List.length_singleton, Nat.zero_add]; done) | (simp [Heap.set_set, Nat.add_assoc]; done)) | (((funext n; simp only [Heap.set]; (repeat' split) <;> simp_all)) <;> first | rfl | exact ⟨rfl, rfl⟩))) hE (Nat.lt_succ_self _)
        · have hE := condF hc10 hE
          try dsimp only at hc10
          refine AWp.exit ?_
          exact hK2 _ () (Weak.to (by repeat (first | exact Keeps.nil | refine Keeps.c rfl rfl ?_ | refine Keeps.c (by (first | (first | rfl | ((conv => lhs; whnf); first | (simp [cellsA, faultsT, faultsD, namesD, Fault.mk_c, Nat.add_assoc, empty_append, Bool.and_assoc]; done) | (simp [cellsA, faultsT, faultsD, namesD, Nat.add_assoc, empty_append, Bool.and_assoc]; repeat (first | rfl | constructor)))) | rfl | (simp only [get_same, ev]; done) | (simp [*, cellsA]; done) | (show V.a (A.d (D.slice _ _ _ _)) = V.a (A.d (D.slice _ _ _ _)); simp [*, cellsA]; done))) rfl ?_)) (by repeat (first | exact Pfx.nil | apply Pfx.cons)) (by first | rfl | (first | rfl | (simp only [Heap.set_set, List.length_append, List.length_nil, List.length_cons, List.length_map, List.length_singleton, Nat.zero_add]; done) | (simp [Heap.set_set, Nat.add_assoc]; done)) | (((funext n; simp only [Heap.set]; (repeat' split) <;> simp_all)) <;> first | rfl | exact ⟨rfl, rfl⟩))) hE
  · rintro _ hE
    try dsimp only at hE
    unfold slices_IndexFunc_nputapiInput_j2 at hE
    refine AWp.seqK fun K3 hK3 => ?_
    refine AWp.region ?_
    refine AOps.s0 (Cert.assign (by conv => lhs; whnf)) rfl ?_
    refine AOps.nil ?_
    refine hK3 _ ?_
    clear hK3 K3
    refine AWp.ret ?_
    repeat (first | refine xBlock_ret ?_ | refine xThen_ret ?_)
    obtain rfl := Option.some.inj hE
    refine retQ.retF H rfl ⟨rfl, rfl⟩ ?_
    exact (fun _ _ h => h)
def slices_ContainsFunc_nputapiInput (a0 : (Sl TInput)) (a1 : (TInput → Option Bool)) : Option Bool := (slices_IndexFunc_nputapiInput a0 a1).bind fun x3 => some (decide ((0 : Int) ≤ x3))
set_option maxRecDepth 100000 in
set_option maxHeartbeats 2000000 in
theorem slices_ContainsFunc_nputapiInput_walk {a0 : (Sl TInput)} {a1 : (TInput → Option Bool)} {w0 : Option Nat} {cl1 : List D} {k1 : Nat} {r : Bool} (hE : slices_ContainsFunc_nputapiInput a0 a1 = some r) (H : Heap) (hf1 : ∀ x0 r, a1 x0 = some r → ∀ H, ACalls Try.prog k1 ([.agg (TInput.c x0)] ++ cl1.map A.d) H fun v h' => v = .a (.d (.bool r)) ∧ h' = H) : ACalls Try.prog 90 [.d (Sl.d 10 TInput.c w0 a0), .d (.func k1 cl1)] H fun v h' => v = .a (.d (.bool r)) ∧ h' = H := by
  unfold slices_ContainsFunc_nputapiInput at hE
  refine ACalls.of_wp (fn := Try.f90) (c := _) Try.tab_ok (fun _ _ => Try.call90 _ _) Try.func90 rfl (n := 9) rfl (rs := [.tmp 4]) rfl rfl ?_
  refine AWp.seqK fun K1 hK1 => ?_
  refine AWp.region ?_
  refine AOps.s0 (Cert.assign (by conv => lhs; whnf)) rfl ?_
  refine AOps.nil ?_
  refine hK1 _ ?_
  clear hK1 K1
  refine AWp.seqK fun K2 hK2 => ?_
  refine AWp.region ?_
  refine AOps.s0 (Cert.move (by conv => lhs; whnf)) rfl ?_
  refine AOps.s0 (Cert.move (by conv => lhs; whnf)) rfl ?_
  obtain ⟨x3, gx3, hE⟩ := bindO_some hE
  refine AOps.s0 (Cert.callP rfl rfl (fun H => slices_IndexFunc_nputapiInput_walk gx3 H hf1)) rfl ?_
  refine AOps.s0 (Cert.binI rfl rfl rfl) rfl ?_
  refine AOps.s0 (Cert.assign (by conv => lhs; whnf)) rfl ?_
  refine AOps.nil ?_
  refine hK2 _ ?_
  clear hK2 K2
  refine AWp.ret ?_
  repeat (first | refine xBlock_ret ?_ | refine xThen_ret ?_)
  obtain rfl := Option.some.inj hE
  refine retQ.retF H rfl ⟨rfl, rfl⟩ ?_
  exact (fun _ _ h => h)
def slices_Index_stringstring_j2 (a0 : (Sl Bs)) (a1 : Bs)   : Option Int := some (-1 : Int)
def slices_Index_stringstring_l6 (a0 : (Sl Bs)) (a1 : Bs)  : Nat → Nat → Option Int
  | 0, _ => none
  | n6 + 1, s8_7 => bif (decide (((s8_7 : Nat) : Int) < ((a0.l.length : Nat) : Int))) then ((a0.l[s8_7]?).bind fun x14 => bif ((a1 == x14)) then (some ((s8_7 : Nat) : Int)) else ((slices_Index_stringstring_l6 a0 a1 n6) (s8_7 + 1))) else (slices_Index_stringstring_j2 a0 a1  )
def slices_Index_stringstring (a0 : (Sl Bs)) (a1 : Bs) : Option Int := slices_Index_stringstring_l6 a0 a1 F0 0
set_option maxRecDepth 100000 in
set_option maxHeartbeats 2000000 in
theorem slices_Index_stringstring_walk {a0 : (Sl Bs)} {a1 : Bs} {w0 : Option Nat}  {r : Int} (hE : slices_Index_stringstring a0 a1 = some r) (H : Heap)  : ACalls Try.prog 94 [.d (Sl.d 1 strE w0 a0), .d (.str a1)] H fun v h' => v = .a (.d (.int .i64 r)) ∧ h' = H := by
  unfold slices_Index_stringstring at hE
  refine ACalls.of_wp (fn := Try.f94) (c := _) Try.tab_ok (fun _ _ => Try.call94 _ _) Try.func94 rfl (n := 19) rfl (rs := [.tmp 4]) rfl rfl ?_
  refine AWp.seqK fun K1 hK1 => ?_
  refine AWp.region ?_
  refine AOps.s0 (Cert.assign (by conv => lhs; whnf)) rfl ?_
  refine AOps.nil ?_
  refine hK1 _ ?_
  clear hK1 K1
  refine AWp.seqJH KeepsT.nil (fun (z : Unit) => []) (fun z => H) (fun z => slices_Index_stringstring_j2 a0 a1  = some r) ?_ ?_
  · intro K2 hK2
    refine AWp.seqK fun K4 hK4 => ?_
    refine AWp.region ?_
    refine AOps.s0 (Cert.move (by conv => lhs; whnf)) rfl ?_
    refine AOps.sLen (f := strE) (s := a0) (Try.tab_ok _ _ rfl) rfl rfl rfl rfl fun hL5 => ?_
    refine AOps.s0 (Cert.move (by conv => lhs; whnf)) rfl ?_
    refine AOps.nil ?_
    refine hK4 _ ?_
    clear hK4 K4
    refine AWp.block ?_
    refine AWp.loopH (KeepsT.cons (k := 0) (by conv => lhs; whnf) (KeepsT.cons (k := 1) (by conv => lhs; whnf) (KeepsT.cons (k := 7) (by conv => lhs; whnf) KeepsT.nil))) (fun (z : Nat × Nat) => [(8, .a (.d (.int .i64 ((z.2 : Nat) : Int))))]) (fun z => H) (fun z => z.1) (fun z => slices_Index_stringstring_l6 a0 a1 z.1 z.2 = some r) (F0, 0) hE (Weak.to (by repeat (first | exact Keeps.nil | refine Keeps.c rfl rfl ?_ | refine Keeps.c (by (first | (first | rfl | ((conv => lhs; whnf); first | (simp [cellsA, faultsT, faultsD, namesD, Fault.mk_c, Nat.add_assoc, empty_append, Bool.and_assoc]; done) | (simp [cellsA, faultsT, faultsD, namesD, Nat.add_assoc, empty_append, Bool.and_assoc]; repeat (first | rfl | constructor)))) | rfl | (simp only [get_same, ev]; done) | (simp [*, cellsA]; done) | (show V.a (A.d (D.slice _ _ _ _)) = V.a (A.d (D.slice _ _ _ _)); simp [*, cellsA]; done))) rfl ?_)) (by repeat (first | exact Pfx.nil | apply Pfx.cons)) (by first | rfl | (first | rfl | (simp only [Heap.set_set, List.length_append, List.length_nil, List.length_cons, List.length_map, List.length_singleton, Nat.zero_add]; done) | (simp [Heap.set_set, Nat.add_assoc]; done)) | (((funext n; simp only [Heap.set]; (repeat' split) <;> simp_all)) <;> first | rfl | exact ⟨rfl, rfl⟩))) ?_
    rintro ⟨n6, s8_7⟩ hE K6 hK6
    try dsimp only at hE
    cases n6 with
    | zero => cases hE
    | succ n6 =>
        rw [slices_Index_stringstring_l6] at hE
        refine AWp.seqK fun K8 hK8 => ?_
        refine AWp.region ?_
        refine AOps.s0 (Cert.binI rfl rfl rfl) rfl ?_
        refine AOps.nil ?_
        refine hK8 _ ?_
        clear hK8 K8
        refine AWp.seqK fun K9 hK9 => ?_
        refine AWp.cond rfl (fun hc10 => ?_) (fun hc10 => ?_)
        · have hE := condT hc10 hE
          try dsimp only at hc10
          have hf10 := of_decide_eq_true hc10
          refine AWp.skip ?_
          refine hK9 _ ?_
          clear hK9 K9
          refine AWp.seqK fun K11 hK11 => ?_
          refine AWp.block ?_
          refine AWp.seqK fun K12 hK12 => ?_
          refine AWp.region ?_
          refine AOps.s0 (Cert.move (by conv => lhs; whnf)) rfl ?_
          refine AOps.s0 (Cert.assign (by conv => lhs; whnf)) rfl ?_
          refine AOps.nil ?_
          refine hK12 _ ?_
          clear hK12 K12
          refine AWp.seqK fun K13 hK13 => ?_
          refine AWp.region ?_
          refine AOps.s0 (Cert.move (by conv => lhs; whnf)) rfl ?_
          refine AOps.s0 (Cert.move (by conv => lhs; whnf)) rfl ?_
          refine AOps.s0 (Cert.move (by conv => lhs; whnf)) rfl ?_
          obtain ⟨x14, gx14, hE⟩ := bindO_some hE
          refine AOps.s0 (Cert.idxMn (f := strE) (n := s8_7) (Try.tab_ok _ _ rfl) rfl (Try.tab_ok _ _ rfl) rfl rfl rfl gx14) rfl ?_
          refine AOps.s0 (Cert.loadV (Try.tab_ok _ _ rfl) rfl rfl rfl) rfl ?_
          refine AOps.s0 (Cert.binS rfl rfl rfl) rfl ?_
          refine AOps.nil ?_
          refine hK13 _ ?_
          clear hK13 K13
          refine AWp.cond rfl (fun hc15 => ?_) (fun hc15 => ?_)
          · have hE := condT hc15 hE
            try dsimp only at hc15
            refine AWp.seqK fun K16 hK16 => ?_
            refine AWp.region ?_
            refine AOps.s0 (Cert.move (by conv => lhs; whnf)) rfl ?_
            refine AOps.s0 (Cert.assign (by conv => lhs; whnf)) rfl ?_
            refine AOps.nil ?_
            refine hK16 _ ?_
            clear hK16 K16
            refine AWp.ret ?_
            repeat (first | refine xBlock_ret ?_ | refine xThen_ret ?_)
            obtain rfl := Option.some.inj hE
            refine retQ.retF H rfl ⟨rfl, rfl⟩ ?_
            exact (fun _ _ h => h)
          · have hE := condF hc15 hE
            try dsimp only at hc15
            refine AWp.skip ?_
            refine hK11 _ ?_
            clear hK11 K11
            refine AWp.region ?_
            refine AOps.s0 (Cert.addI rfl rfl (by first | omega | (dsimp only; omega)) (by first | omega | (dsimp only; omega))) rfl ?_
            refine AOps.s0 (Cert.move (by conv => lhs; whnf)) rfl ?_
            refine AOps.nil ?_
            exact hK6 _ (n6, (s8_7 + 1)) (Weak.to (by repeat (first | exact Keeps.nil | refine Keeps.c rfl rfl ?_ | refine Keeps.c (by (first | (first | rfl | ((conv => lhs; whnf); first | (simp [cellsA, faultsT, faultsD, namesD, Fault.mk_c, Nat.add_assoc, empty_append, Bool.and_assoc]; done) | (simp [cellsA, faultsT, faultsD, namesD, Nat.add_assoc, empty_append, Bool.and_assoc]; repeat (first | rfl | constructor)))) | rfl | (simp only [get_same, ev]; done) | (simp [*, cellsA]; done) | (show V.a (A.d (D.slice _ _ _ _)) = V.a (A.d (D.slice _ _ _ _)); simp [*, cellsA]; done))) rfl ?_)) (by repeat (first | exact Pfx.nil | apply Pfx.cons)) (by first | rfl | (first | rfl | (simp only [Heap.set_set, List.length_append, List.length_nil, List.length_cons, List.length_map, List.length_singleton, Nat.zero_add]; done) | (simp [Heap.set_set, Nat.add_assoc]; done)) | (((funext n; simp only [Heap.set]; (repeat' split) <;> simp_all)) <;> first | rfl | exact ⟨rfl, rfl⟩))) hE (Nat.lt_succ_self _)
        · have hE := condF hc10 hE
          try dsimp only at hc10
          refine AWp.exit ?_
          exact hK2 _ () (Weak.to (by repeat (first | exact Keeps.nil | refine Keeps.c rfl rfl ?_ | refine Keeps.c (by (first | (first | rfl | ((conv => lhs; whnf); first | (simp [cellsA, faultsT, faultsD, namesD, Fault.mk_c, Nat.add_assoc, empty_append, Bool.and_assoc]; done) | (simp [cellsA, faultsT, faultsD, namesD, Nat.add_assoc, empty_append, Bool.and_assoc]; repeat (first | rfl | constructor)))) | rfl | (simp only [get_same, ev]; done) | (simp [*, cellsA]; done) | (show V.a (A.d (D.slice _ _ _ _)) = V.a (A.d (D.slice _ _ _ _)); simp [*, cellsA]; done))) rfl ?_)) (by repeat (first | exact Pfx.nil | apply Pfx.cons)) (by first | rfl | (first | rfl | (simp only [Heap.set_set, List.length_append, List.length_nil, List.length_cons, List.length_map, List.length_singleton, Nat.zero_add]; done) | (simp [Heap.set_set, Nat.add_assoc]; done)) | (((funext n; simp only [Heap.set]; (repeat' split) <;> simp_all)) <;> first | rfl | exact ⟨rfl, rfl⟩))) hE
  · rintro _ hE
    try dsimp only at hE
    unfold slices_Index_stringstring_j2 at hE
    refine AWp.seqK fun K3 hK3 => ?_
    refine AWp.region ?_
    refine AOps.s0 (Cert.assign (by conv => lhs; whnf)) rfl ?_
    refine AOps.nil ?_
    refine hK3 _ ?_
    clear hK3 K3
    refine AWp.ret ?_
    repeat (first | refine xBlock_ret ?_ | refine xThen_ret ?_)
    obtain rfl := Option.some.inj hE
    refine retQ.retF H rfl ⟨rfl, rfl⟩ ?_
    exact (fun _ _ h => h)
def slices_Contains_stringstring (a0 : (Sl Bs)) (a1 : Bs) : Option Bool := (slices_Index_stringstring a0 a1).bind fun x3 => some (decide ((0 : Int) ≤ x3))
set_option maxRecDepth 100000 in
set_option maxHeartbeats 2000000 in
theorem slices_Contains_stringstring_walk {a0 : (Sl Bs)} {a1 : Bs} {w0 : Option Nat}  {r : Bool} (hE : slices_Contains_stringstring a0 a1 = some r) (H : Heap)  : ACalls Try.prog 92 [.d (Sl.d 1 strE w0 a0), .d (.str a1)] H fun v h' => v = .a (.d (.bool r)) ∧ h' = H := by
  unfold slices_Contains_stringstring at hE
  refine ACalls.of_wp (fn := Try.f92) (c := _) Try.tab_ok (fun _ _ => Try.call92 _ _) Try.func92 rfl (n := 9) rfl (rs := [.tmp 4]) rfl rfl ?_
  refine AWp.seqK fun K1 hK1 => ?_
  refine AWp.region ?_
  refine AOps.s0 (Cert.assign (by conv => lhs; whnf)) rfl ?_
  refine AOps.nil ?_
  refine hK1 _ ?_
  clear hK1 K1
  refine AWp.seqK fun K2 hK2 => ?_
  refine AWp.region ?_
  refine AOps.s0 (Cert.move (by conv => lhs; whnf)) rfl ?_
  refine AOps.s0 (Cert.move (by conv => lhs; whnf)) rfl ?_
  obtain ⟨x3, gx3, hE⟩ := bindO_some hE
  refine AOps.s0 (Cert.callP rfl rfl (fun H => slices_Index_stringstring_walk gx3 H)) rfl ?_
  refine AOps.s0 (Cert.binI rfl rfl rfl) rfl ?_
  refine AOps.s0 (Cert.assign (by conv => lhs; whnf)) rfl ?_
  refine AOps.nil ?_
  refine hK2 _ ?_
  clear hK2 K2
  refine AWp.ret ?_
  repeat (first | refine xBlock_ret ?_ | refine xThen_ret ?_)
  obtain rfl := Option.some.inj hE
  refine retQ.retF H rfl ⟨rfl, rfl⟩ ?_
  exact (fun _ _ h => h)
def fields_object_1 (a0 : TInput) (a1 : TValue) : Option Bool := (typeref_IsNonNull a0.FType).bind fun x3 => guardO ((x3 && (!a0.FHas))) (slices_Contains_stringstring a1.FKeys a0.FName) false fun x4 => some ((x3 && (!a0.FHas)) && (!x4))
set_option maxRecDepth 100000 in
set_option maxHeartbeats 2000000 in
theorem fields_object_1_walk {a0 : TInput} {a1 : TValue}   {r : Bool} (hE : fields_object_1 a0 a1 = some r) (H : Heap)  : ACalls Try.prog 91 [.agg (TInput.c a0), .d (.view (TValue.c a1))] H fun v h' => v = .a (.d (.bool r)) ∧ h' = H := by
  unfold fields_object_1 at hE
  refine ACalls.of_wp (fn := Try.f91) (c := _) Try.tab_ok (fun _ _ => Try.call91 _ _) Try.func91 rfl (n := 20) rfl (rs := [.tmp 3]) rfl rfl ?_
  refine AWp.seqK fun K1 hK1 => ?_
  refine AWp.region ?_
  refine AOps.s0 (Cert.boxV rfl) rfl ?_
  refine AOps.s0 (Cert.assign (by conv => lhs; whnf)) rfl ?_
  refine AOps.nil ?_
  refine hK1 _ ?_
  clear hK1 K1
  refine AWp.seqK fun K2 hK2 => ?_
  refine AWp.region ?_
  refine AOps.s0 (Cert.fieldV (Try.tab_ok _ _ rfl) rfl rfl (Try.tab_ok _ _ rfl) rfl rfl (by conv => lhs; whnf)) rfl ?_
  refine AOps.s0 (Cert.loadV (Try.tab_ok _ _ rfl) rfl rfl rfl) rfl ?_
  obtain ⟨x3, gx3, hE⟩ := bindO_some hE
  refine AOps.s0 (Cert.callP rfl rfl (fun H => typeref_IsNonNull_walk gx3 H)) rfl ?_
  refine AOps.s0 (Cert.move (by conv => lhs; whnf)) rfl ?_
  refine AOps.gC rfl rfl (fun hC => Cert.fieldV (Try.tab_ok _ _ rfl) rfl rfl (Try.tab_ok _ _ rfl) rfl rfl (by conv => lhs; whnf)) rfl ?_
  refine AOps.gC rfl rfl (fun hC => Cert.ungd (k := 8) rfl (by first | exact hC | exact andL hC | exact andL (andL hC) | exact andL (andL (andL hC)) | exact andR hC | simp_all) (Cert.loadV (Try.tab_ok _ _ rfl) rfl rfl rfl)) rfl ?_
  refine AOps.gC rfl rfl (fun hC => Cert.ungd (k := 9) rfl (by first | exact hC | exact andL hC | exact andL (andL hC) | exact andL (andL (andL hC)) | exact andR hC | simp_all) (Cert.notB rfl)) rfl ?_
  refine AOps.s0 (Cert.pickAnd rfl rfl (fun h => by first | exact h | exact notT h | exact andI hC h | exact andI hC (notT h) | simp_all) rfl) rfl ?_
  refine AOps.s0 (Cert.move (by conv => lhs; whnf)) rfl ?_
  refine AOps.gC rfl rfl (fun hC => Cert.fieldV (Try.tab_ok _ _ rfl) rfl rfl (Try.tab_ok _ _ rfl) rfl rfl (by conv => lhs; whnf)) rfl ?_
  refine AOps.gC rfl rfl (fun hC => Cert.ungd (k := 13) rfl (by first | exact hC | exact andL hC | exact andL (andL hC) | exact andL (andL (andL hC)) | exact andR hC | simp_all) (Cert.loadV (Try.tab_ok _ _ rfl) rfl rfl rfl)) rfl ?_
  refine AOps.gC rfl rfl (fun hC => Cert.fieldV (Try.tab_ok _ _ rfl) rfl rfl (Try.tab_ok _ _ rfl) rfl rfl (by conv => lhs; whnf)) rfl ?_
  refine AOps.gC rfl rfl (fun hC => Cert.ungd (k := 15) rfl (by first | exact hC | exact andL hC | exact andL (andL hC) | exact andL (andL (andL hC)) | exact andR hC | simp_all) (Cert.loadV (Try.tab_ok _ _ rfl) rfl rfl rfl)) rfl ?_
  obtain ⟨x4, gx4, hE⟩ := guardO_some hE
  refine AOps.gC rfl rfl (fun hC => Cert.ungd (k := 14) rfl (by first | exact hC | exact andL hC | exact andL (andL hC) | exact andL (andL (andL hC)) | exact andR hC | simp_all) (Cert.ungd (k := 16) rfl (by first | exact hC | exact andL hC | exact andL (andL hC) | exact andL (andL (andL hC)) | exact andR hC | simp_all) (Cert.callP rfl rfl (fun H => slices_Contains_stringstring_walk (gx4 hC) H)))) rfl ?_
  refine AOps.gC rfl rfl (fun hC => Cert.ungd (k := 17) rfl (by first | exact hC | exact andL hC | exact andL (andL hC) | exact andL (andL (andL hC)) | exact andR hC | simp_all) (Cert.notB rfl)) rfl ?_
  refine AOps.s0 (Cert.pickAnd rfl rfl (fun h => by first | exact h | exact notT h | exact andI hC h | exact andI hC (notT h) | simp_all) rfl) rfl ?_
  refine AOps.s0 (Cert.assign (by conv => lhs; whnf)) rfl ?_
  refine AOps.nil ?_
  refine hK2 _ ?_
  clear hK2 K2
  refine AWp.ret ?_
  repeat (first | refine xBlock_ret ?_ | refine xThen_ret ?_)
  obtain rfl := Option.some.inj hE
  refine retQ.retF H rfl ⟨rfl, rfl⟩ ?_
  exact (fun _ _ h => h)
end Go.Proofs

namespace Go.Proofs
open Go Go.Ab
def fields_object_j2 (a0 : TDoc) (a1 : TDef) (a2 : TValue)   : Option Bool := (slices_ContainsFunc_nputapiInput a1.FInputs (fun y0 => fields_object_1 y0 a2)).bind fun x4 => some (!x4)
def fields_object_l7 (a0 : TDoc) (a1 : TDef) (a2 : TValue) (k_rec_76 : TDoc → TRef → TValue → Option Bool) : Nat → Nat → Option Bool
  | 0, _ => none
  | n7 + 1, s14_8 => bif (decide (((s14_8 : Nat) : Int) < ((a2.FKeys.l.length : Nat) : Int))) then ((a2.FKeys.l[s14_8]?).bind fun x14 => (schema_InputOf a1.FInputs x14).bind fun x16 => guardO (!((!x16.2) || (decide (((a2.FItems.l.length : Nat) : Int) ≤ ((s14_8 : Nat) : Int))))) (a2.FItems.l[s14_8]?) TValue.zero fun x18 => guardO (!((!x16.2) || (decide (((a2.FItems.l.length : Nat) : Int) ≤ ((s14_8 : Nat) : Int))))) (k_rec_76 a0 x16.1.FType x18) false fun x19 => bif (((!x16.2) || (decide (((a2.FItems.l.length : Nat) : Int) ≤ ((s14_8 : Nat) : Int)))) || (!x19)) then (some false) else ((fields_object_l7 a0 a1 a2 k_rec_76 n7) (s14_8 + 1))) else (fields_object_j2 a0 a1 a2  )
mutual
def fields_fits_n : Nat → TDoc → TRef → TValue → Option Bool
  | 0, _, _, _ => none
  | n + 1, a0, a1, a2 => bif (decide (a2.FKind = (7 : Int))) then (some true) else ((schema_IsInput a0 a1.FName).bind fun x7 => bif (!x7) then (some false) else (bif (decide (a2.FKind = (0 : Int))) then ((typeref_IsNonNull a1).bind fun x13 => some (!x13)) else ((typeref_Inner a1).bind fun x16 => bif x16.2 then (bif (!decide (a2.FKind = (5 : Int))) then (((fields_fits_n n) a0 x16.1 a2).bind fun x23 => some x23) else ((slices_ContainsFunc_alueapiValue a2.FItems (fun y0 => (fields_fits_1_n n) y0 a0 x16.1)).bind fun x25 => some (!x25))) else (bif ((a1.FName == ([73, 110, 116] : Bs))) then (some (((decide (a2.FKind = (2 : Int))) && (decide ((-2147483648 : Int) ≤ a2.FInt))) && (decide (a2.FInt < (2147483648 : Int))))) else (bif ((a1.FName == ([83, 116, 114, 105, 110, 103] : Bs))) then (some (decide (a2.FKind = (3 : Int)))) else (bif ((a1.FName == ([66, 111, 111, 108, 101, 97, 110] : Bs))) then (some (decide (a2.FKind = (1 : Int)))) else (bif ((a1.FName == ([73, 68] : Bs))) then (some ((decide (a2.FKind = (3 : Int))) || (decide (a2.FKind = (2 : Int))))) else ((schema_Find a0 a1.FName).bind fun x41 => bif (decide (x41.1.FKind = (4 : Int))) then (guardO ((decide (a2.FKind = (4 : Int)))) (slices_ContainsFunc_berapiMember x41.1.FMembers (fun y0 => fields_fits_2 y0 a2)) false fun x46 => some ((decide (a2.FKind = (4 : Int))) && x46)) else (guardO ((decide (a2.FKind = (6 : Int)))) ((fields_object_n n) a0 x41.1 a2) false fun x48 => some ((decide (a2.FKind = (6 : Int))) && x48))))))))))
def fields_fits_1_n : Nat → TValue → TDoc → TRef → Option Bool
  | 0, _, _, _ => none
  | n + 1, a0, a1, a2 => ((fields_fits_n n) a1 a2 a0).bind fun x3 => some (!x3)
def fields_object_n : Nat → TDoc → TDef → TValue → Option Bool
  | 0, _, _, _ => none
  | n + 1, a0, a1, a2 => fields_object_l7 a0 a1 a2 (fields_fits_n n) F0 0
end
set_option maxRecDepth 100000 in
set_option maxHeartbeats 2000000 in
theorem fields_fits_step (n : Nat) (ih_76 : ∀ {a0 : TDoc} {a1 : TRef} {a2 : TValue}   {r : Bool}, fields_fits_n n a0 a1 a2 = some r → ∀ (H : Heap), ACalls Try.prog 76 [.agg (TDoc.c a0), .agg (TRef.c a1), .agg (TValue.c a2)] H fun v h' => v = .a (.d (.bool r)) ∧ h' = H) (ih_82 : ∀ {a0 : TValue} {a1 : TDoc} {a2 : TRef}   {r : Bool}, fields_fits_1_n n a0 a1 a2 = some r → ∀ (H : Heap), ACalls Try.prog 82 [.agg (TValue.c a0), .d (.view (TDoc.c a1)), .d (.view (TRef.c a2))] H fun v h' => v = .a (.d (.bool r)) ∧ h' = H) (ih_85 : ∀ {a0 : TDoc} {a1 : TDef} {a2 : TValue}   {r : Bool}, fields_object_n n a0 a1 a2 = some r → ∀ (H : Heap), ACalls Try.prog 85 [.agg (TDoc.c a0), .agg (TDef.c a1), .agg (TValue.c a2)] H fun v h' => v = .a (.d (.bool r)) ∧ h' = H) : ∀ {a0 : TDoc} {a1 : TRef} {a2 : TValue}   {r : Bool}, fields_fits_n (n + 1) a0 a1 a2 = some r → ∀ (H : Heap), ACalls Try.prog 76 [.agg (TDoc.c a0), .agg (TRef.c a1), .agg (TValue.c a2)] H fun v h' => v = .a (.d (.bool r)) ∧ h' = H := by
  intro a0 a1 a2   r hE H 
  rw [fields_fits_n] at hE
  refine ACalls.of_wp (fn := Try.f76) (c := _) Try.tab_ok (fun _ _ => Try.call76 _ _) Try.func76 rfl (n := 111) rfl (rs := [.tmp 6]) rfl rfl ?_
  refine AWp.seqK fun K1 hK1 => ?_
  refine AWp.region ?_
  refine AOps.s0 (Cert.boxV rfl) rfl ?_
  refine AOps.s0 (Cert.boxV rfl) rfl ?_
  refine AOps.s0 (Cert.boxV rfl) rfl ?_
  refine AOps.s0 (Cert.assign (by conv => lhs; whnf)) rfl ?_
  refine AOps.nil ?_
  refine hK1 _ ?_
  clear hK1 K1
  refine AWp.seqK fun K2 hK2 => ?_
  refine AWp.block ?_
  refine AWp.seqK fun K3 hK3 => ?_
  refine AWp.region ?_
  refine AOps.s0 (Cert.fieldV (Try.tab_ok _ _ rfl) rfl rfl (Try.tab_ok _ _ rfl) rfl rfl (by conv => lhs; whnf)) rfl ?_
  refine AOps.s0 (Cert.loadV (Try.tab_ok _ _ rfl) rfl rfl rfl) rfl ?_
  refine AOps.s0 (Cert.binI rfl rfl rfl) rfl ?_
  refine AOps.s0 (Cert.assign (by conv => lhs; whnf)) rfl ?_
  refine AOps.nil ?_
  refine hK3 _ ?_
  clear hK3 K3
  refine AWp.cond rfl (fun hc4 => ?_) (fun hc4 => ?_)
  · have hE := condT hc4 hE
    try dsimp only at hc4
    refine AWp.seqK fun K5 hK5 => ?_
    refine AWp.region ?_
    refine AOps.s0 (Cert.assign (by conv => lhs; whnf)) rfl ?_
    refine AOps.nil ?_
    refine hK5 _ ?_
    clear hK5 K5
    refine AWp.ret ?_
    repeat (first | refine xBlock_ret ?_ | refine xThen_ret ?_)
    obtain rfl := Option.some.inj hE
    refine retQ.retF H rfl ⟨rfl, rfl⟩ ?_
    exact (fun _ _ h => h)
  · have hE := condF hc4 hE
    try dsimp only at hc4
    refine AWp.seqK fun K6 hK6 => ?_
    refine AWp.region ?_
    refine AOps.s0 (Cert.loadV (Try.tab_ok _ _ rfl) rfl rfl rfl) rfl ?_
    refine AOps.s0 (Cert.fieldV (Try.tab_ok _ _ rfl) rfl rfl (Try.tab_ok _ _ rfl) rfl rfl (by conv => lhs; whnf)) rfl ?_
    refine AOps.s0 (Cert.loadV (Try.tab_ok _ _ rfl) rfl rfl rfl) rfl ?_
    obtain ⟨x7, gx7, hE⟩ := bindO_some hE
    refine AOps.s0 (Cert.callP rfl rfl (fun H => schema_IsInput_walk gx7 H)) rfl ?_
    refine AOps.s0 (Cert.notB rfl) rfl ?_
    refine AOps.s0 (Cert.assign (by conv => lhs; whnf)) rfl ?_
    refine AOps.nil ?_
    refine hK6 _ ?_
    clear hK6 K6
    refine AWp.cond rfl (fun hc8 => ?_) (fun hc8 => ?_)
    · have hE := condT hc8 hE
      try dsimp only at hc8
      refine AWp.seqK fun K9 hK9 => ?_
      refine AWp.region ?_
      refine AOps.s0 (Cert.assign (by conv => lhs; whnf)) rfl ?_
      refine AOps.nil ?_
      refine hK9 _ ?_
      clear hK9 K9
      refine AWp.ret ?_
      repeat (first | refine xBlock_ret ?_ | refine xThen_ret ?_)
      obtain rfl := Option.some.inj hE
      refine retQ.retF H rfl ⟨rfl, rfl⟩ ?_
      exact (fun _ _ h => h)
    · have hE := condF hc8 hE
      try dsimp only at hc8
      refine AWp.seqK fun K10 hK10 => ?_
      refine AWp.region ?_
      refine AOps.s0 (Cert.fieldV (Try.tab_ok _ _ rfl) rfl rfl (Try.tab_ok _ _ rfl) rfl rfl (by conv => lhs; whnf)) rfl ?_
      refine AOps.s0 (Cert.loadV (Try.tab_ok _ _ rfl) rfl rfl rfl) rfl ?_
      refine AOps.s0 (Cert.binI rfl rfl rfl) rfl ?_
      refine AOps.s0 (Cert.assign (by conv => lhs; whnf)) rfl ?_
      refine AOps.nil ?_
      refine hK10 _ ?_
      clear hK10 K10
      refine AWp.cond rfl (fun hc11 => ?_) (fun hc11 => ?_)
      · have hE := condT hc11 hE
        try dsimp only at hc11
        refine AWp.seqK fun K12 hK12 => ?_
        refine AWp.region ?_
        refine AOps.s0 (Cert.loadV (Try.tab_ok _ _ rfl) rfl rfl rfl) rfl ?_
        obtain ⟨x13, gx13, hE⟩ := bindO_some hE
        refine AOps.s0 (Cert.callP rfl rfl (fun H => typeref_IsNonNull_walk gx13 H)) rfl ?_
        refine AOps.s0 (Cert.notB rfl) rfl ?_
        refine AOps.s0 (Cert.assign (by conv => lhs; whnf)) rfl ?_
        refine AOps.nil ?_
        refine hK12 _ ?_
        clear hK12 K12
        refine AWp.ret ?_
        repeat (first | refine xBlock_ret ?_ | refine xThen_ret ?_)
        obtain rfl := Option.some.inj hE
        refine retQ.retF H rfl ⟨rfl, rfl⟩ ?_
        exact (fun _ _ h => h)
      · have hE := condF hc11 hE
        try dsimp only at hc11
        refine AWp.skip ?_
        refine hK2 _ ?_
        clear hK2 K2
        refine AWp.seqK fun K14 hK14 => ?_
        refine AWp.seqK fun K15 hK15 => ?_
        refine AWp.region ?_
        refine AOps.s0 (Cert.loadV (Try.tab_ok _ _ rfl) rfl rfl rfl) rfl ?_
        obtain ⟨x16, gx16, hE⟩ := bindO_some hE
        refine AOps.s0 (Cert.callP rfl rfl (fun H => typeref_Inner_walk gx16 H)) rfl ?_
        refine AOps.s0 (Cert.move (by conv => lhs; whnf)) rfl ?_
        refine AOps.s0 (Cert.extract rfl rfl) rfl ?_
        refine AOps.s0 (Cert.extract rfl rfl) rfl ?_
        refine AOps.sL (Cert.allocL (Try.tab_ok _ _ rfl) rfl (by repeat (first | exact Snoc.nil | apply Snoc.cons))) rfl ?_
        refine AOps.sLn (Cert.storeLF (Try.tab_ok _ _ rfl) rfl rfl rfl rfl rfl (by repeat (first | exact SetAt.zero | apply SetAt.succ))) ?_
        refine AOps.s0 (Cert.assign (by conv => lhs; whnf)) rfl ?_
        refine AOps.nil ?_
        refine hK15 _ ?_
        clear hK15 K15
        refine AWp.freeze 7 _ rfl (by repeat (first | exact Snoc.nil | apply Snoc.cons)) (Keeps.c (k := 3) (by conv => lhs; whnf) (by rfl) (Keeps.c (k := 4) (by conv => lhs; whnf) (by rfl) (Keeps.c (k := 5) (by conv => lhs; whnf) (by rfl) (Keeps.c (k := 8) (by conv => lhs; whnf) (by rfl) Keeps.nil)))) ?_
        refine AWp.seqK fun K17 hK17 => ?_
        refine AWp.region ?_
        refine AOps.s0 (Cert.move (by conv => lhs; whnf)) rfl ?_
        refine AOps.nil ?_
        refine hK17 _ ?_
        clear hK17 K17
        refine AWp.cond rfl (fun hc18 => ?_) (fun hc18 => ?_)
        · have hE := condT hc18 hE
          try dsimp only at hc18
          refine AWp.seqK fun K19 hK19 => ?_
          refine AWp.seqK fun K20 hK20 => ?_
          refine AWp.region ?_
          refine AOps.s0 (Cert.fieldV (Try.tab_ok _ _ rfl) rfl rfl (Try.tab_ok _ _ rfl) rfl rfl (by conv => lhs; whnf)) rfl ?_
          refine AOps.s0 (Cert.loadV (Try.tab_ok _ _ rfl) rfl rfl rfl) rfl ?_
          refine AOps.s0 (Cert.binI rfl rfl rfl) rfl ?_
          refine AOps.nil ?_
          refine hK20 _ ?_
          clear hK20 K20
          refine AWp.cond rfl (fun hc21 => ?_) (fun hc21 => ?_)
          · have hE := condT hc21 hE
            try dsimp only at hc21
            refine AWp.seqK fun K22 hK22 => ?_
            refine AWp.region ?_
            refine AOps.s0 (Cert.loadV (Try.tab_ok _ _ rfl) rfl rfl rfl) rfl ?_
            refine AOps.s0 (Cert.loadV (Try.tab_ok _ _ rfl) rfl rfl rfl) rfl ?_
            refine AOps.s0 (Cert.loadV (Try.tab_ok _ _ rfl) rfl rfl rfl) rfl ?_
            obtain ⟨x23, gx23, hE⟩ := bindO_some hE
            refine AOps.s0 (Cert.callP rfl rfl (fun H => ih_76 gx23 H)) rfl ?_
            refine AOps.s0 (Cert.assign (by conv => lhs; whnf)) rfl ?_
            refine AOps.nil ?_
            refine hK22 _ ?_
            clear hK22 K22
            refine AWp.ret ?_
            repeat (first | refine xBlock_ret ?_ | refine xThen_ret ?_)
            obtain rfl := Option.some.inj hE
            refine retQ.retF H rfl ⟨rfl, rfl⟩ ?_
            exact (fun _ _ h => h)
          · have hE := condF hc21 hE
            try dsimp only at hc21
            refine AWp.skip ?_
            refine hK19 _ ?_
            clear hK19 K19
            refine AWp.seqK fun K24 hK24 => ?_
            refine AWp.region ?_
            refine AOps.s0 (Cert.fieldV (Try.tab_ok _ _ rfl) rfl rfl (Try.tab_ok _ _ rfl) rfl rfl (by conv => lhs; whnf)) rfl ?_
            refine AOps.s0 (Cert.loadV (Try.tab_ok _ _ rfl) rfl rfl (congrArg (fun x => some (A.d x)) (TValue.FItemsD_eq _))) rfl ?_
            refine AOps.s0 (Cert.makeFunc rfl) rfl ?_
            obtain ⟨x25, gx25, hE⟩ := bindO_some hE
            refine AOps.s0 (Cert.callP rfl rfl (fun H => slices_ContainsFunc_alueapiValue_walk gx25 H (fun _ _ hx => ih_82 hx))) rfl ?_
            refine AOps.s0 (Cert.notB rfl) rfl ?_
            refine AOps.s0 (Cert.assign (by conv => lhs; whnf)) rfl ?_
            refine AOps.nil ?_
            refine hK24 _ ?_
            clear hK24 K24
            refine AWp.ret ?_
            repeat (first | refine xBlock_ret ?_ | refine xThen_ret ?_)
            obtain rfl := Option.some.inj hE
            refine retQ.retF H rfl ⟨rfl, rfl⟩ ?_
            exact (fun _ _ h => h)
        · have hE := condF hc18 hE
          try dsimp only at hc18
          refine AWp.skip ?_
          refine hK14 _ ?_
          clear hK14 K14
          refine AWp.seqK fun K26 hK26 => ?_
          refine AWp.seqK fun K27 hK27 => ?_
          refine AWp.region ?_
          refine AOps.s0 (Cert.fieldV (Try.tab_ok _ _ rfl) rfl rfl (Try.tab_ok _ _ rfl) rfl rfl (by conv => lhs; whnf)) rfl ?_
          refine AOps.s0 (Cert.loadV (Try.tab_ok _ _ rfl) rfl rfl rfl) rfl ?_
          refine AOps.nil ?_
          refine hK27 _ ?_
          clear hK27 K27
          refine AWp.block ?_
          refine AWp.seqK fun K28 hK28 => ?_
          refine AWp.region ?_
          refine AOps.s0 (Cert.binS rfl rfl rfl) rfl ?_
          refine AOps.s0 (Cert.assign (by conv => lhs; whnf)) rfl ?_
          refine AOps.nil ?_
          refine hK28 _ ?_
          clear hK28 K28
          refine AWp.cond rfl (fun hc29 => ?_) (fun hc29 => ?_)
          · have hE := condT hc29 hE
            try dsimp only at hc29
            refine AWp.seqK fun K30 hK30 => ?_
            refine AWp.region ?_
            refine AOps.s0 (Cert.fieldV (Try.tab_ok _ _ rfl) rfl rfl (Try.tab_ok _ _ rfl) rfl rfl (by conv => lhs; whnf)) rfl ?_
            refine AOps.s0 (Cert.loadV (Try.tab_ok _ _ rfl) rfl rfl rfl) rfl ?_
            refine AOps.s0 (Cert.binI rfl rfl rfl) rfl ?_
            refine AOps.s0 (Cert.move (by conv => lhs; whnf)) rfl ?_
            refine AOps.gC rfl rfl (fun hC => Cert.fieldV (Try.tab_ok _ _ rfl) rfl rfl (Try.tab_ok _ _ rfl) rfl rfl (by conv => lhs; whnf)) rfl ?_
            refine AOps.gC rfl rfl (fun hC => Cert.ungd (k := 54) rfl (by first | exact hC | exact andL hC | exact andL (andL hC) | exact andL (andL (andL hC)) | exact andR hC | simp_all) (Cert.loadV (Try.tab_ok _ _ rfl) rfl rfl rfl)) rfl ?_
            refine AOps.gC rfl rfl (fun hC => Cert.ungd (k := 55) rfl (by first | exact hC | exact andL hC | exact andL (andL hC) | exact andL (andL (andL hC)) | exact andR hC | simp_all) (Cert.binI rfl rfl rfl)) rfl ?_
            refine AOps.s0 (Cert.pickAnd rfl rfl (fun h => by first | exact h | exact notT h | exact andI hC h | exact andI hC (notT h) | simp_all) rfl) rfl ?_
            refine AOps.s0 (Cert.move (by conv => lhs; whnf)) rfl ?_
            refine AOps.gC rfl rfl (fun hC => Cert.fieldV (Try.tab_ok _ _ rfl) rfl rfl (Try.tab_ok _ _ rfl) rfl rfl (by conv => lhs; whnf)) rfl ?_
            refine AOps.gC rfl rfl (fun hC => Cert.ungd (k := 59) rfl (by first | exact hC | exact andL hC | exact andL (andL hC) | exact andL (andL (andL hC)) | exact andR hC | simp_all) (Cert.loadV (Try.tab_ok _ _ rfl) rfl rfl rfl)) rfl ?_
            refine AOps.gC rfl rfl (fun hC => Cert.ungd (k := 60) rfl (by first | exact hC | exact andL hC | exact andL (andL hC) | exact andL (andL (andL hC)) | exact andR hC | simp_all) (Cert.binI rfl rfl rfl)) rfl ?_
            refine AOps.s0 (Cert.pickAnd rfl rfl (fun h => by first | exact h | exact notT h | exact andI hC h | exact andI hC (notT h) | simp_all) rfl) rfl ?_
            refine AOps.s0 (Cert.assign (by conv => lhs; whnf)) rfl ?_
            refine AOps.nil ?_
            refine hK30 _ ?_
            clear hK30 K30
            refine AWp.ret ?_
            repeat (first | refine xBlock_ret ?_ | refine xThen_ret ?_)
            obtain rfl := Option.some.inj hE
            refine retQ.retF H rfl ⟨rfl, rfl⟩ ?_
            exact (fun _ _ h => h)
          · have hE := condF hc29 hE
            try dsimp only at hc29
            refine AWp.seqK fun K31 hK31 => ?_
            refine AWp.region ?_
            refine AOps.s0 (Cert.binS rfl rfl rfl) rfl ?_
            refine AOps.s0 (Cert.assign (by conv => lhs; whnf)) rfl ?_
            refine AOps.nil ?_
            refine hK31 _ ?_
            clear hK31 K31
            refine AWp.cond rfl (fun hc32 => ?_) (fun hc32 => ?_)
            · have hE := condT hc32 hE
              try dsimp only at hc32
              refine AWp.seqK fun K33 hK33 => ?_
              refine AWp.region ?_
              refine AOps.s0 (Cert.fieldV (Try.tab_ok _ _ rfl) rfl rfl (Try.tab_ok _ _ rfl) rfl rfl (by conv => lhs; whnf)) rfl ?_
              refine AOps.s0 (Cert.loadV (Try.tab_ok _ _ rfl) rfl rfl rfl) rfl ?_
              refine AOps.s0 (Cert.binI rfl rfl rfl) rfl ?_
              refine AOps.s0 (Cert.assign (by conv => lhs; whnf)) rfl ?_
              refine AOps.nil ?_
              refine hK33 _ ?_
              clear hK33 K33
              refine AWp.ret ?_
              repeat (first | refine xBlock_ret ?_ | refine xThen_ret ?_)
              obtain rfl := Option.some.inj hE
              refine retQ.retF H rfl ⟨rfl, rfl⟩ ?_
              exact (fun _ _ h => h)
            · have hE := condF hc32 hE
              try dsimp only at hc32
              refine AWp.seqK fun K34 hK34 => ?_
              refine AWp.region ?_
              refine AOps.s0 (Cert.binS rfl rfl rfl) rfl ?_
              refine AOps.s0 (Cert.assign (by conv => lhs; whnf)) rfl ?_
              refine AOps.nil ?_
              refine hK34 _ ?_
              clear hK34 K34
              refine AWp.cond rfl (fun hc35 => ?_) (fun hc35 => ?_)
              · have hE := condT hc35 hE
                try dsimp only at hc35
                refine AWp.seqK fun K36 hK36 => ?_
                refine AWp.region ?_
                refine AOps.s0 (Cert.fieldV (Try.tab_ok _ _ rfl) rfl rfl (Try.tab_ok _ _ rfl) rfl rfl (by conv => lhs; whnf)) rfl ?_
                refine AOps.s0 (Cert.loadV (Try.tab_ok _ _ rfl) rfl rfl rfl) rfl ?_
                refine AOps.s0 (Cert.binI rfl rfl rfl) rfl ?_
                refine AOps.s0 (Cert.assign (by conv => lhs; whnf)) rfl ?_
                refine AOps.nil ?_
                refine hK36 _ ?_
                clear hK36 K36
                refine AWp.ret ?_
                repeat (first | refine xBlock_ret ?_ | refine xThen_ret ?_)
                obtain rfl := Option.some.inj hE
                refine retQ.retF H rfl ⟨rfl, rfl⟩ ?_
                exact (fun _ _ h => h)
              · have hE := condF hc35 hE
                try dsimp only at hc35
                refine AWp.seqK fun K37 hK37 => ?_
                refine AWp.region ?_
                refine AOps.s0 (Cert.binS rfl rfl rfl) rfl ?_
                refine AOps.s0 (Cert.assign (by conv => lhs; whnf)) rfl ?_
                refine AOps.nil ?_
                refine hK37 _ ?_
                clear hK37 K37
                refine AWp.cond rfl (fun hc38 => ?_) (fun hc38 => ?_)
                · have hE := condT hc38 hE
                  try dsimp only at hc38
                  refine AWp.seqK fun K39 hK39 => ?_
                  refine AWp.region ?_
                  refine AOps.s0 (Cert.fieldV (Try.tab_ok _ _ rfl) rfl rfl (Try.tab_ok _ _ rfl) rfl rfl (by conv => lhs; whnf)) rfl ?_
                  refine AOps.s0 (Cert.loadV (Try.tab_ok _ _ rfl) rfl rfl rfl) rfl ?_
                  refine AOps.s0 (Cert.binI rfl rfl rfl) rfl ?_
                  refine AOps.s0 (Cert.move (by conv => lhs; whnf)) rfl ?_
                  refine AOps.gC rfl rfl (fun hC => Cert.fieldV (Try.tab_ok _ _ rfl) rfl rfl (Try.tab_ok _ _ rfl) rfl rfl (by conv => lhs; whnf)) rfl ?_
                  refine AOps.gC rfl rfl (fun hC => Cert.ungd (k := 79) rfl (by first | exact hC | exact andL hC | exact andL (andL hC) | exact andL (andL (andL hC)) | exact andR hC | simp_all) (Cert.loadV (Try.tab_ok _ _ rfl) rfl rfl rfl)) rfl ?_
                  refine AOps.gC rfl rfl (fun hC => Cert.ungd (k := 80) rfl (by first | exact hC | exact andL hC | exact andL (andL hC) | exact andL (andL (andL hC)) | exact andR hC | simp_all) (Cert.binI rfl rfl rfl)) rfl ?_
                  refine AOps.s0 (Cert.pickOr rfl rfl rfl (fun h => by first | exact h | exact notT h | exact andI hC h | exact andI hC (notT h) | simp_all)) rfl ?_
                  refine AOps.s0 (Cert.assign (by conv => lhs; whnf)) rfl ?_
                  refine AOps.nil ?_
                  refine hK39 _ ?_
                  clear hK39 K39
                  refine AWp.ret ?_
                  repeat (first | refine xBlock_ret ?_ | refine xThen_ret ?_)
                  obtain rfl := Option.some.inj hE
                  refine retQ.retF H rfl ⟨rfl, rfl⟩ ?_
                  exact (fun _ _ h => h)
                · have hE := condF hc38 hE
                  try dsimp only at hc38
                  refine AWp.skip ?_
                  refine hK26 _ ?_
                  clear hK26 K26
                  refine AWp.seqK fun K40 hK40 => ?_
                  refine AWp.region ?_
                  refine AOps.s0 (Cert.loadV (Try.tab_ok _ _ rfl) rfl rfl rfl) rfl ?_
                  refine AOps.s0 (Cert.fieldV (Try.tab_ok _ _ rfl) rfl rfl (Try.tab_ok _ _ rfl) rfl rfl (by conv => lhs; whnf)) rfl ?_
                  refine AOps.s0 (Cert.loadV (Try.tab_ok _ _ rfl) rfl rfl rfl) rfl ?_
                  obtain ⟨x41, gx41, hE⟩ := bindO_some hE
                  refine AOps.s0 (Cert.callP rfl rfl (fun H => schema_Find_walk gx41 H)) rfl ?_
                  refine AOps.s0 (Cert.move (by conv => lhs; whnf)) rfl ?_
                  refine AOps.s0 (Cert.extract rfl rfl) rfl ?_
                  refine AOps.s0 (Cert.extract rfl rfl) rfl ?_
                  refine AOps.sL (Cert.allocL (Try.tab_ok _ _ rfl) rfl (by repeat (first | exact Snoc.nil | apply Snoc.cons))) rfl ?_
                  refine AOps.sLn (Cert.storeLF (Try.tab_ok _ _ rfl) rfl rfl rfl rfl rfl (by repeat (first | exact SetAt.zero | apply SetAt.succ))) ?_
                  refine AOps.s0 (Cert.assign (by conv => lhs; whnf)) rfl ?_
                  refine AOps.nil ?_
                  refine hK40 _ ?_
                  clear hK40 K40
                  refine AWp.freeze 9 _ rfl (by repeat (first | exact Snoc.nil | apply Snoc.cons)) (Keeps.c (k := 3) (by conv => lhs; whnf) (by rfl) (Keeps.c (k := 5) (by conv => lhs; whnf) (by rfl) Keeps.nil)) ?_
                  refine AWp.seqK fun K42 hK42 => ?_
                  refine AWp.seqK fun K43 hK43 => ?_
                  refine AWp.region ?_
                  refine AOps.s0 (Cert.fieldV (Try.tab_ok _ _ rfl) rfl rfl (Try.tab_ok _ _ rfl) rfl rfl (by conv => lhs; whnf)) rfl ?_
                  refine AOps.s0 (Cert.loadV (Try.tab_ok _ _ rfl) rfl rfl rfl) rfl ?_
                  refine AOps.s0 (Cert.binI rfl rfl rfl) rfl ?_
                  refine AOps.nil ?_
                  refine hK43 _ ?_
                  clear hK43 K43
                  refine AWp.cond rfl (fun hc44 => ?_) (fun hc44 => ?_)
                  · have hE := condT hc44 hE
                    try dsimp only at hc44
                    refine AWp.seqK fun K45 hK45 => ?_
                    refine AWp.region ?_
                    refine AOps.s0 (Cert.fieldV (Try.tab_ok _ _ rfl) rfl rfl (Try.tab_ok _ _ rfl) rfl rfl (by conv => lhs; whnf)) rfl ?_
                    refine AOps.s0 (Cert.loadV (Try.tab_ok _ _ rfl) rfl rfl rfl) rfl ?_
                    refine AOps.s0 (Cert.binI rfl rfl rfl) rfl ?_
                    refine AOps.s0 (Cert.move (by conv => lhs; whnf)) rfl ?_
                    refine AOps.gC rfl rfl (fun hC => Cert.fieldV (Try.tab_ok _ _ rfl) rfl rfl (Try.tab_ok _ _ rfl) rfl rfl (by conv => lhs; whnf)) rfl ?_
                    refine AOps.gC rfl rfl (fun hC => Cert.ungd (k := 97) rfl (by first | exact hC | exact andL hC | exact andL (andL hC) | exact andL (andL (andL hC)) | exact andR hC | simp_all) (Cert.loadV (Try.tab_ok _ _ rfl) rfl rfl rfl)) rfl ?_
                    refine AOps.gC rfl rfl (fun hC => Cert.makeFunc rfl) rfl ?_
                    obtain ⟨x46, gx46, hE⟩ := guardO_some hE
                    refine AOps.gC rfl rfl (fun hC => Cert.ungd (k := 98) rfl (by first | exact hC | exact andL hC | exact andL (andL hC) | exact andL (andL (andL hC)) | exact andR hC | simp_all) (Cert.ungd (k := 99) rfl (by first | exact hC | exact andL hC | exact andL (andL hC) | exact andL (andL (andL hC)) | exact andR hC | simp_all) (Cert.callP rfl rfl (fun H => slices_ContainsFunc_berapiMember_walk (gx46 hC) H (fun _ _ hx => fields_fits_2_walk hx))))) rfl ?_
                    refine AOps.s0 (Cert.pickAnd rfl rfl (fun h => by first | exact h | exact notT h | exact andI hC h | exact andI hC (notT h) | simp_all) rfl) rfl ?_
                    refine AOps.s0 (Cert.assign (by conv => lhs; whnf)) rfl ?_
                    refine AOps.nil ?_
                    refine hK45 _ ?_
                    clear hK45 K45
                    refine AWp.ret ?_
                    repeat (first | refine xBlock_ret ?_ | refine xThen_ret ?_)
                    obtain rfl := Option.some.inj hE
                    refine retQ.retF H rfl ⟨rfl, rfl⟩ ?_
                    exact (fun _ _ h => h)
                  · have hE := condF hc44 hE
                    try dsimp only at hc44
                    refine AWp.skip ?_
                    refine hK42 _ ?_
                    clear hK42 K42
                    refine AWp.seqK fun K47 hK47 => ?_
                    refine AWp.region ?_
                    refine AOps.s0 (Cert.fieldV (Try.tab_ok _ _ rfl) rfl rfl (Try.tab_ok _ _ rfl) rfl rfl (by conv => lhs; whnf)) rfl ?_
                    refine AOps.s0 (Cert.loadV (Try.tab_ok _ _ rfl) rfl rfl rfl) rfl ?_
                    refine AOps.s0 (Cert.binI rfl rfl rfl) rfl ?_
                    refine AOps.s0 (Cert.move (by conv => lhs; whnf)) rfl ?_
                    refine AOps.gC rfl rfl (fun hC => Cert.loadV (Try.tab_ok _ _ rfl) rfl rfl rfl) rfl ?_
                    refine AOps.gC rfl rfl (fun hC => Cert.loadV (Try.tab_ok _ _ rfl) rfl rfl rfl) rfl ?_
                    refine AOps.gC rfl rfl (fun hC => Cert.loadV (Try.tab_ok _ _ rfl) rfl rfl rfl) rfl ?_
                    obtain ⟨x48, gx48, hE⟩ := guardO_some hE
                    refine AOps.gC rfl rfl (fun hC => Cert.ungd (k := 106) rfl (by first | exact hC | exact andL hC | exact andL (andL hC) | exact andL (andL (andL hC)) | exact andR hC | simp_all) (Cert.ungd (k := 107) rfl (by first | exact hC | exact andL hC | exact andL (andL hC) | exact andL (andL (andL hC)) | exact andR hC | simp_all) (Cert.ungd (k := 108) rfl (by first | exact hC | exact andL hC | exact andL (andL hC) | exact andL (andL (andL hC)) | exact andR hC | simp_all) (Cert.callP rfl rfl (fun H => ih_85 (gx48 hC) H))))) rfl ?_
                    refine AOps.s0 (Cert.pickAnd rfl rfl (fun h => by first | exact h | exact notT h | exact andI hC h | exact andI hC (notT h) | simp_all) rfl) rfl ?_
                    refine AOps.s0 (Cert.assign (by conv => lhs; whnf)) rfl ?_
                    refine AOps.nil ?_
                    refine hK47 _ ?_
                    clear hK47 K47
                    refine AWp.ret ?_
                    repeat (first | refine xBlock_ret ?_ | refine xThen_ret ?_)
                    obtain rfl := Option.some.inj hE
                    refine retQ.retF H rfl ⟨rfl, rfl⟩ ?_
                    exact (fun _ _ h => h)
set_option maxRecDepth 100000 in
set_option maxHeartbeats 2000000 in
theorem fields_fits_1_step (n : Nat) (ih_76 : ∀ {a0 : TDoc} {a1 : TRef} {a2 : TValue}   {r : Bool}, fields_fits_n n a0 a1 a2 = some r → ∀ (H : Heap), ACalls Try.prog 76 [.agg (TDoc.c a0), .agg (TRef.c a1), .agg (TValue.c a2)] H fun v h' => v = .a (.d (.bool r)) ∧ h' = H) (ih_82 : ∀ {a0 : TValue} {a1 : TDoc} {a2 : TRef}   {r : Bool}, fields_fits_1_n n a0 a1 a2 = some r → ∀ (H : Heap), ACalls Try.prog 82 [.agg (TValue.c a0), .d (.view (TDoc.c a1)), .d (.view (TRef.c a2))] H fun v h' => v = .a (.d (.bool r)) ∧ h' = H) (ih_85 : ∀ {a0 : TDoc} {a1 : TDef} {a2 : TValue}   {r : Bool}, fields_object_n n a0 a1 a2 = some r → ∀ (H : Heap), ACalls Try.prog 85 [.agg (TDoc.c a0), .agg (TDef.c a1), .agg (TValue.c a2)] H fun v h' => v = .a (.d (.bool r)) ∧ h' = H) : ∀ {a0 : TValue} {a1 : TDoc} {a2 : TRef}   {r : Bool}, fields_fits_1_n (n + 1) a0 a1 a2 = some r → ∀ (H : Heap), ACalls Try.prog 82 [.agg (TValue.c a0), .d (.view (TDoc.c a1)), .d (.view (TRef.c a2))] H fun v h' => v = .a (.d (.bool r)) ∧ h' = H := by
  intro a0 a1 a2   r hE H 
  rw [fields_fits_1_n] at hE
  refine ACalls.of_wp (fn := Try.f82) (c := _) Try.tab_ok (fun _ _ => Try.call82 _ _) Try.func82 rfl (n := 10) rfl (rs := [.tmp 4]) rfl rfl ?_
  refine AWp.seqK fun K1 hK1 => ?_
  refine AWp.region ?_
  refine AOps.s0 (Cert.boxV rfl) rfl ?_
  refine AOps.s0 (Cert.assign (by conv => lhs; whnf)) rfl ?_
  refine AOps.nil ?_
  refine hK1 _ ?_
  clear hK1 K1
  refine AWp.seqK fun K2 hK2 => ?_
  refine AWp.region ?_
  refine AOps.s0 (Cert.loadV (Try.tab_ok _ _ rfl) rfl rfl rfl) rfl ?_
  refine AOps.s0 (Cert.loadV (Try.tab_ok _ _ rfl) rfl rfl rfl) rfl ?_
  refine AOps.s0 (Cert.loadV (Try.tab_ok _ _ rfl) rfl rfl rfl) rfl ?_
  obtain ⟨x3, gx3, hE⟩ := bindO_some hE
  refine AOps.s0 (Cert.callP rfl rfl (fun H => ih_76 gx3 H)) rfl ?_
  refine AOps.s0 (Cert.notB rfl) rfl ?_
  refine AOps.s0 (Cert.assign (by conv => lhs; whnf)) rfl ?_
  refine AOps.nil ?_
  refine hK2 _ ?_
  clear hK2 K2
  refine AWp.ret ?_
  repeat (first | refine xBlock_ret ?_ | refine xThen_ret ?_)
  obtain rfl := Option.some.inj hE
  refine retQ.retF H rfl ⟨rfl, rfl⟩ ?_
  exact (fun _ _ h => h)
set_option maxRecDepth 100000 in
set_option maxHeartbeats 2000000 in
theorem fields_object_step (n : Nat) (ih_76 : ∀ {a0 : TDoc} {a1 : TRef} {a2 : TValue}   {r : Bool}, fields_fits_n n a0 a1 a2 = some r → ∀ (H : Heap), ACalls Try.prog 76 [.agg (TDoc.c a0), .agg (TRef.c a1), .agg (TValue.c a2)] H fun v h' => v = .a (.d (.bool r)) ∧ h' = H) (ih_82 : ∀ {a0 : TValue} {a1 : TDoc} {a2 : TRef}   {r : Bool}, fields_fits_1_n n a0 a1 a2 = some r → ∀ (H : Heap), ACalls Try.prog 82 [.agg (TValue.c a0), .d (.view (TDoc.c a1)), .d (.view (TRef.c a2))] H fun v h' => v = .a (.d (.bool r)) ∧ h' = H) (ih_85 : ∀ {a0 : TDoc} {a1 : TDef} {a2 : TValue}   {r : Bool}, fields_object_n n a0 a1 a2 = some r → ∀ (H : Heap), ACalls Try.prog 85 [.agg (TDoc.c a0), .agg (TDef.c a1), .agg (TValue.c a2)] H fun v h' => v = .a (.d (.bool r)) ∧ h' = H) : ∀ {a0 : TDoc} {a1 : TDef} {a2 : TValue}   {r : Bool}, fields_object_n (n + 1) a0 a1 a2 = some r → ∀ (H : Heap), ACalls Try.prog 85 [.agg (TDoc.c a0), .agg (TDef.c a1), .agg (TValue.c a2)] H fun v h' => v = .a (.d (.bool r)) ∧ h' = H := by
  intro a0 a1 a2   r hE H 
  rw [fields_object_n] at hE
  refine ACalls.of_wp (fn := Try.f85) (c := _) Try.tab_ok (fun _ _ => Try.call85 _ _) Try.func85 rfl (n := 53) rfl (rs := [.tmp 6]) rfl rfl ?_
  refine AWp.seqK fun K1 hK1 => ?_
  refine AWp.region ?_
  refine AOps.s0 (Cert.boxV rfl) rfl ?_
  refine AOps.s0 (Cert.boxV rfl) rfl ?_
  refine AOps.s0 (Cert.boxV rfl) rfl ?_
  refine AOps.s0 (Cert.assign (by conv => lhs; whnf)) rfl ?_
  refine AOps.nil ?_
  refine hK1 _ ?_
  clear hK1 K1
  refine AWp.seqJH (KeepsT.cons (k := 4) (by conv => lhs; whnf) (KeepsT.cons (k := 5) (by conv => lhs; whnf) KeepsT.nil)) (fun (z : Unit) => []) (fun z => H) (fun z => fields_object_j2 a0 a1 a2  = some r) ?_ ?_
  · intro K2 hK2
    refine AWp.seqK fun K5 hK5 => ?_
    refine AWp.region ?_
    refine AOps.s0 (Cert.fieldV (Try.tab_ok _ _ rfl) rfl rfl (Try.tab_ok _ _ rfl) rfl rfl (by conv => lhs; whnf)) rfl ?_
    refine AOps.s0 (Cert.loadV (Try.tab_ok _ _ rfl) rfl rfl rfl) rfl ?_
    refine AOps.sLen (f := strE) (s := a2.FKeys) (Try.tab_ok _ _ rfl) rfl rfl rfl rfl fun hL6 => ?_
    refine AOps.s0 (Cert.move (by conv => lhs; whnf)) rfl ?_
    refine AOps.nil ?_
    refine hK5 _ ?_
    clear hK5 K5
    refine AWp.block ?_
    refine AWp.loopH (KeepsT.cons (k := 3) (by conv => lhs; whnf) (KeepsT.cons (k := 4) (by conv => lhs; whnf) (KeepsT.cons (k := 5) (by conv => lhs; whnf) (KeepsT.cons (k := 12) (by conv => lhs; whnf) (KeepsT.cons (k := 13) (by conv => lhs; whnf) KeepsT.nil))))) (fun (z : Nat × Nat) => [(14, .a (.d (.int .i64 ((z.2 : Nat) : Int))))]) (fun z => H) (fun z => z.1) (fun z => fields_object_l7 a0 a1 a2 (fields_fits_n n) z.1 z.2 = some r) (F0, 0) hE (Weak.to (by repeat (first | exact Keeps.nil | refine Keeps.c rfl rfl ?_ | refine Keeps.c (by (first | (first | rfl | ((conv => lhs; whnf); first | (simp [cellsA, faultsT, faultsD, namesD, Fault.mk_c, Nat.add_assoc, empty_append, Bool.and_assoc]; done) | (simp [cellsA, faultsT, faultsD, namesD, Nat.add_assoc, empty_append, Bool.and_assoc]; repeat (first | rfl | constructor)))) | rfl | (simp only [get_same, ev]; done) | (simp [*, cellsA]; done) | (show V.a (A.d (D.slice _ _ _ _)) = V.a (A.d (D.slice _ _ _ _)); simp [*, cellsA]; done))) rfl ?_)) (by repeat (first | exact Pfx.nil | apply Pfx.cons)) (by first | rfl | (first | rfl | (simp only [Heap.set_set, List.length_append, List.length_nil, List.length_cons, List.length_map, List.length_singleton, Nat.zero_add]; done) | (simp [Heap.set_set, Nat.add_assoc]; done)) | (((funext n; simp only [Heap.set]; (repeat' split) <;> simp_all)) <;> first | rfl | exact ⟨rfl, rfl⟩))) ?_
    rintro ⟨n7, s14_8⟩ hE K7 hK7
    try dsimp only at hE
    cases n7 with
    | zero => cases hE
    | succ n7 =>
        rw [fields_object_l7] at hE
        refine AWp.seqK fun K9 hK9 => ?_
        refine AWp.region ?_
        refine AOps.s0 (Cert.binI rfl rfl rfl) rfl ?_
        refine AOps.nil ?_
        refine hK9 _ ?_
        clear hK9 K9
        refine AWp.seqK fun K10 hK10 => ?_
        refine AWp.cond rfl (fun hc11 => ?_) (fun hc11 => ?_)
        · have hE := condT hc11 hE
          try dsimp only at hc11
          have hf11 := of_decide_eq_true hc11
          refine AWp.skip ?_
          refine hK10 _ ?_
          clear hK10 K10
          refine AWp.seqK fun K12 hK12 => ?_
          refine AWp.block ?_
          refine AWp.seqK fun K13 hK13 => ?_
          refine AWp.region ?_
          refine AOps.s0 (Cert.move (by conv => lhs; whnf)) rfl ?_
          obtain ⟨x14, gx14, hE⟩ := bindO_some hE
          refine AOps.s0 (Cert.idxMn (f := strE) (n := s14_8) (Try.tab_ok _ _ rfl) rfl (Try.tab_ok _ _ rfl) rfl rfl rfl gx14) rfl ?_
          refine AOps.s0 (Cert.loadV (Try.tab_ok _ _ rfl) rfl rfl rfl) rfl ?_
          refine AOps.s0 (Cert.assign (by conv => lhs; whnf)) rfl ?_
          refine AOps.s0 (Cert.assign (by conv => lhs; whnf)) rfl ?_
          refine AOps.nil ?_
          refine hK13 _ ?_
          clear hK13 K13
          refine AWp.seqK fun K15 hK15 => ?_
          refine AWp.region ?_
          refine AOps.s0 (Cert.fieldV (Try.tab_ok _ _ rfl) rfl rfl (Try.tab_ok _ _ rfl) rfl rfl (by conv => lhs; whnf)) rfl ?_
          refine AOps.s0 (Cert.loadV (Try.tab_ok _ _ rfl) rfl rfl rfl) rfl ?_
          refine AOps.s0 (Cert.move (by conv => lhs; whnf)) rfl ?_
          obtain ⟨x16, gx16, hE⟩ := bindO_some hE
          refine AOps.s0 (Cert.callP rfl rfl (fun H => schema_InputOf_walk gx16 H)) rfl ?_
          refine AOps.s0 (Cert.move (by conv => lhs; whnf)) rfl ?_
          refine AOps.s0 (Cert.extract rfl rfl) rfl ?_
          refine AOps.s0 (Cert.extract rfl rfl) rfl ?_
          refine AOps.sL (Cert.allocL (Try.tab_ok _ _ rfl) rfl (by repeat (first | exact Snoc.nil | apply Snoc.cons))) rfl ?_
          refine AOps.sLn (Cert.storeLF (Try.tab_ok _ _ rfl) rfl rfl rfl rfl rfl (by repeat (first | exact SetAt.zero | apply SetAt.succ))) ?_
          refine AOps.s0 (Cert.assign (by conv => lhs; whnf)) rfl ?_
          refine AOps.nil ?_
          refine hK15 _ ?_
          clear hK15 K15
          refine AWp.freeze 9 _ rfl (by repeat (first | exact Snoc.nil | apply Snoc.cons)) (Keeps.c (k := 3) (by conv => lhs; whnf) (by rfl) (Keeps.c (k := 4) (by conv => lhs; whnf) (by rfl) (Keeps.c (k := 5) (by conv => lhs; whnf) (by rfl) (Keeps.c (k := 7) (by conv => lhs; whnf) (by rfl) (Keeps.c (k := 10) (by conv => lhs; whnf) (by rfl) (Keeps.c (k := 12) (by conv => lhs; whnf) (by rfl) (Keeps.c (k := 13) (by conv => lhs; whnf) (by rfl) (Keeps.c (k := 14) (by conv => lhs; whnf) (by rfl) Keeps.nil)))))))) ?_
          refine AWp.seqK fun K17 hK17 => ?_
          refine AWp.draw rfl ?_
          refine DOps.s0 (Cert.move (by conv => lhs; whnf)) rfl ?_
          refine DOps.s0 (Cert.notB rfl) rfl ?_
          refine DOps.s0 (Cert.move (by conv => lhs; whnf)) rfl ?_
          refine DOps.gC rfl rfl (fun hC => Cert.move (by conv => lhs; whnf)) rfl ?_
          refine DOps.gC rfl rfl (fun hC => Cert.fieldV (Try.tab_ok _ _ rfl) rfl rfl (Try.tab_ok _ _ rfl) rfl rfl (by conv => lhs; whnf)) rfl ?_
          refine DOps.gC rfl rfl (fun hC => Cert.ungd (k := 30) rfl (by first | exact hC | exact andL hC | exact andL (andL hC) | exact andL (andL (andL hC)) | exact andR hC | simp_all) (Cert.loadV (Try.tab_ok _ _ rfl) rfl rfl (congrArg (fun x => some (A.d x)) (TValue.FItemsD_eq _)))) rfl ?_
          refine DOps.gC rfl rfl (fun hC => Cert.ungd (k := 31) rfl (by first | exact hC | exact andL hC | exact andL (andL hC) | exact andL (andL (andL hC)) | exact andR hC | simp_all) (Cert.lenM' (f := TValue.c) (s := a2.FItems) (Try.tab_ok _ _ rfl) rfl rfl rfl)) rfl ?_
          refine DOps.gC rfl rfl (fun hC => Cert.ungd (k := 29) rfl (by first | exact hC | exact andL hC | exact andL (andL hC) | exact andL (andL (andL hC)) | exact andR hC | simp_all) (Cert.ungd (k := 32) rfl (by first | exact hC | exact andL hC | exact andL (andL hC) | exact andL (andL (andL hC)) | exact andR hC | simp_all) (Cert.binI rfl rfl rfl))) rfl ?_
          refine DOps.s0 (Cert.pickOr rfl rfl rfl (fun h => by first | exact h | exact notT h | exact andI hC h | exact andI hC (notT h) | simp_all)) rfl ?_
          refine DOps.s0 (Cert.move (by conv => lhs; whnf)) rfl ?_
          refine DOps.gC rfl rfl (fun hC => Cert.loadV (Try.tab_ok _ _ rfl) rfl rfl rfl) rfl ?_
          refine DOps.gC rfl rfl (fun hC => Cert.fieldV (Try.tab_ok _ _ rfl) rfl rfl (Try.tab_ok _ _ rfl) rfl rfl (by conv => lhs; whnf)) rfl ?_
          refine DOps.gC rfl rfl (fun hC => Cert.ungd (k := 37) rfl (by first | exact hC | exact andL hC | exact andL (andL hC) | exact andL (andL (andL hC)) | exact andR hC | simp_all) (Cert.loadV (Try.tab_ok _ _ rfl) rfl rfl rfl)) rfl ?_
          refine DOps.gC rfl rfl (fun hC => Cert.fieldV (Try.tab_ok _ _ rfl) rfl rfl (Try.tab_ok _ _ rfl) rfl rfl (by conv => lhs; whnf)) rfl ?_
          refine DOps.gC rfl rfl (fun hC => Cert.ungd (k := 39) rfl (by first | exact hC | exact andL hC | exact andL (andL hC) | exact andL (andL (andL hC)) | exact andR hC | simp_all) (Cert.loadV (Try.tab_ok _ _ rfl) rfl rfl (congrArg (fun x => some (A.d x)) (TValue.FItemsD_eq _)))) rfl ?_
          refine DOps.gC rfl rfl (fun hC => Cert.move (by conv => lhs; whnf)) rfl ?_
          obtain ⟨x18, gx18, hE⟩ := guardO_some hE
          refine DOps.gC rfl rfl (fun hC => Cert.ungd (k := 40) rfl (by first | exact hC | exact andL hC | exact andL (andL hC) | exact andL (andL (andL hC)) | exact andR hC | simp_all) (Cert.ungd (k := 41) rfl (by first | exact hC | exact andL hC | exact andL (andL hC) | exact andL (andL (andL hC)) | exact andR hC | simp_all) (Cert.idxMn (f := TValue.c) (n := s14_8) (Try.tab_ok _ _ rfl) rfl (Try.tab_ok _ _ rfl) rfl rfl rfl (gx18 hC)))) rfl ?_
          refine DOps.gC rfl rfl (fun hC => Cert.ungd (k := 42) rfl (by first | exact hC | exact andL hC | exact andL (andL hC) | exact andL (andL (andL hC)) | exact andR hC | simp_all) (Cert.loadV (Try.tab_ok _ _ rfl) rfl rfl rfl)) rfl ?_
          obtain ⟨x19, gx19, hE⟩ := guardO_some hE
          refine DOps.gC rfl rfl (fun hC => Cert.ungd (k := 36) rfl (by first | exact hC | exact andL hC | exact andL (andL hC) | exact andL (andL (andL hC)) | exact andR hC | simp_all) (Cert.ungd (k := 38) rfl (by first | exact hC | exact andL hC | exact andL (andL hC) | exact andL (andL (andL hC)) | exact andR hC | simp_all) (Cert.ungd (k := 43) rfl (by first | exact hC | exact andL hC | exact andL (andL hC) | exact andL (andL (andL hC)) | exact andR hC | simp_all) (Cert.callP rfl rfl (fun H => ih_76 (gx19 hC) H))))) rfl ?_
          refine DOps.gC rfl rfl (fun hC => Cert.ungd (k := 44) rfl (by first | exact hC | exact andL hC | exact andL (andL hC) | exact andL (andL (andL hC)) | exact andR hC | simp_all) (Cert.notB rfl)) rfl ?_
          refine DOps.s0 (Cert.pickOr rfl rfl rfl (fun h => by first | exact h | exact notT h | exact andI hC h | exact andI hC (notT h) | simp_all)) rfl ?_
          refine DOps.nil (by decide +kernel) ?_
          refine hK17 _ ?_
          clear hK17 K17
          refine AWp.cond rfl (fun hc20 => ?_) (fun hc20 => ?_)
          · have hE := condT hc20 hE
            try dsimp only at hc20
            refine AWp.seqK fun K21 hK21 => ?_
            refine AWp.region ?_
            refine AOps.s0 (Cert.assign (by conv => lhs; whnf)) rfl ?_
            refine AOps.nil ?_
            refine hK21 _ ?_
            clear hK21 K21
            refine AWp.ret ?_
            repeat (first | refine xBlock_ret ?_ | refine xThen_ret ?_)
            obtain rfl := Option.some.inj hE
            refine retQ.retF H rfl ⟨rfl, rfl⟩ ?_
            exact (fun _ _ h => h)
          · have hE := condF hc20 hE
            try dsimp only at hc20
            refine AWp.skip ?_
            refine hK12 _ ?_
            clear hK12 K12
            refine AWp.region ?_
            refine AOps.s0 (Cert.addI rfl rfl (by first | omega | (dsimp only; omega)) (by first | omega | (dsimp only; omega))) rfl ?_
            refine AOps.s0 (Cert.move (by conv => lhs; whnf)) rfl ?_
            refine AOps.nil ?_
            exact hK7 _ (n7, (s14_8 + 1)) (Weak.to (by repeat (first | exact Keeps.nil | refine Keeps.c rfl rfl ?_ | refine Keeps.c (by (first | (first | rfl | ((conv => lhs; whnf); first | (simp [cellsA, faultsT, faultsD, namesD, Fault.mk_c, Nat.add_assoc, empty_append, Bool.and_assoc]; done) | (simp [cellsA, faultsT, faultsD, namesD, Nat.add_assoc, empty_append, Bool.and_assoc]; repeat (first | rfl | constructor)))) | rfl | (simp only [get_same, ev]; done) | (simp [*, cellsA]; done) | (show V.a (A.d (D.slice _ _ _ _)) = V.a (A.d (D.slice _ _ _ _)); simp [*, cellsA]; done))) rfl ?_)) (by repeat (first | exact Pfx.nil | apply Pfx.cons)) (by first | rfl | (first | rfl | (simp only [Heap.set_set, List.length_append, List.length_nil, List.length_cons, List.length_map, List.length_singleton, Nat.zero_add]; done) | (simp [Heap.set_set, Nat.add_assoc]; done)) | (((funext n; simp only [Heap.set]; (repeat' split) <;> simp_all)) <;> first | rfl | exact ⟨rfl, rfl⟩))) hE (Nat.lt_succ_self _)
        · have hE := condF hc11 hE
          try dsimp only at hc11
          refine AWp.exit ?_
          exact hK2 _ () (Weak.to (by repeat (first | exact Keeps.nil | refine Keeps.c rfl rfl ?_ | refine Keeps.c (by (first | (first | rfl | ((conv => lhs; whnf); first | (simp [cellsA, faultsT, faultsD, namesD, Fault.mk_c, Nat.add_assoc, empty_append, Bool.and_assoc]; done) | (simp [cellsA, faultsT, faultsD, namesD, Nat.add_assoc, empty_append, Bool.and_assoc]; repeat (first | rfl | constructor)))) | rfl | (simp only [get_same, ev]; done) | (simp [*, cellsA]; done) | (show V.a (A.d (D.slice _ _ _ _)) = V.a (A.d (D.slice _ _ _ _)); simp [*, cellsA]; done))) rfl ?_)) (by repeat (first | exact Pfx.nil | apply Pfx.cons)) (by first | rfl | (first | rfl | (simp only [Heap.set_set, List.length_append, List.length_nil, List.length_cons, List.length_map, List.length_singleton, Nat.zero_add]; done) | (simp [Heap.set_set, Nat.add_assoc]; done)) | (((funext n; simp only [Heap.set]; (repeat' split) <;> simp_all)) <;> first | rfl | exact ⟨rfl, rfl⟩))) hE
  · rintro _ hE
    try dsimp only at hE
    unfold fields_object_j2 at hE
    refine AWp.seqK fun K3 hK3 => ?_
    refine AWp.region ?_
    refine AOps.s0 (Cert.fieldV (Try.tab_ok _ _ rfl) rfl rfl (Try.tab_ok _ _ rfl) rfl rfl (by conv => lhs; whnf)) rfl ?_
    refine AOps.s0 (Cert.loadV (Try.tab_ok _ _ rfl) rfl rfl rfl) rfl ?_
    refine AOps.s0 (Cert.makeFunc rfl) rfl ?_
    obtain ⟨x4, gx4, hE⟩ := bindO_some hE
    refine AOps.s0 (Cert.callP rfl rfl (fun H => slices_ContainsFunc_nputapiInput_walk gx4 H (fun _ _ hx => fields_object_1_walk hx))) rfl ?_
    refine AOps.s0 (Cert.notB rfl) rfl ?_
    refine AOps.s0 (Cert.assign (by conv => lhs; whnf)) rfl ?_
    refine AOps.nil ?_
    refine hK3 _ ?_
    clear hK3 K3
    refine AWp.ret ?_
    repeat (first | refine xBlock_ret ?_ | refine xThen_ret ?_)
    obtain rfl := Option.some.inj hE
    refine retQ.retF H rfl ⟨rfl, rfl⟩ ?_
    exact (fun _ _ h => h)
theorem fields_fits_all : ∀ (n : Nat), (∀ {a0 : TDoc} {a1 : TRef} {a2 : TValue}   {r : Bool}, fields_fits_n n a0 a1 a2 = some r → ∀ (H : Heap), ACalls Try.prog 76 [.agg (TDoc.c a0), .agg (TRef.c a1), .agg (TValue.c a2)] H fun v h' => v = .a (.d (.bool r)) ∧ h' = H) ∧ (∀ {a0 : TValue} {a1 : TDoc} {a2 : TRef}   {r : Bool}, fields_fits_1_n n a0 a1 a2 = some r → ∀ (H : Heap), ACalls Try.prog 82 [.agg (TValue.c a0), .d (.view (TDoc.c a1)), .d (.view (TRef.c a2))] H fun v h' => v = .a (.d (.bool r)) ∧ h' = H) ∧ (∀ {a0 : TDoc} {a1 : TDef} {a2 : TValue}   {r : Bool}, fields_object_n n a0 a1 a2 = some r → ∀ (H : Heap), ACalls Try.prog 85 [.agg (TDoc.c a0), .agg (TDef.c a1), .agg (TValue.c a2)] H fun v h' => v = .a (.d (.bool r)) ∧ h' = H)
  | 0 => ⟨fun hE => by first | cases hE | (rw [fields_fits_n] at hE; cases hE), fun hE => by first | cases hE | (rw [fields_fits_1_n] at hE; cases hE), fun hE => by first | cases hE | (rw [fields_object_n] at hE; cases hE)⟩
  | n + 1 => ⟨fields_fits_step n (fields_fits_all n).1 (fields_fits_all n).2.1 (fields_fits_all n).2.2, fields_fits_1_step n (fields_fits_all n).1 (fields_fits_all n).2.1 (fields_fits_all n).2.2, fields_object_step n (fields_fits_all n).1 (fields_fits_all n).2.1 (fields_fits_all n).2.2⟩
def fields_fits (a0 : TDoc) (a1 : TRef) (a2 : TValue) : Option Bool := fields_fits_n F0 a0 a1 a2
theorem fields_fits_walk {a0 : TDoc} {a1 : TRef} {a2 : TValue}   {r : Bool} (hE : fields_fits a0 a1 a2 = some r) (H : Heap)  : ACalls Try.prog 76 [.agg (TDoc.c a0), .agg (TRef.c a1), .agg (TValue.c a2)] H fun v h' => v = .a (.d (.bool r)) ∧ h' = H := (fields_fits_all F0).1 hE H 
def fields_fits_1 (a0 : TValue) (a1 : TDoc) (a2 : TRef) : Option Bool := fields_fits_1_n F0 a0 a1 a2
theorem fields_fits_1_walk {a0 : TValue} {a1 : TDoc} {a2 : TRef}   {r : Bool} (hE : fields_fits_1 a0 a1 a2 = some r) (H : Heap)  : ACalls Try.prog 82 [.agg (TValue.c a0), .d (.view (TDoc.c a1)), .d (.view (TRef.c a2))] H fun v h' => v = .a (.d (.bool r)) ∧ h' = H := (fields_fits_all F0).2.1 hE H 
def fields_object (a0 : TDoc) (a1 : TDef) (a2 : TValue) : Option Bool := fields_object_n F0 a0 a1 a2
theorem fields_object_walk {a0 : TDoc} {a1 : TDef} {a2 : TValue}   {r : Bool} (hE : fields_object a0 a1 a2 = some r) (H : Heap)  : ACalls Try.prog 85 [.agg (TDoc.c a0), .agg (TDef.c a1), .agg (TValue.c a2)] H fun v h' => v = .a (.d (.bool r)) ∧ h' = H := (fields_fits_all F0).2.2 hE H 
def fields_checker_known_j9 (a0 : Fields_checker) (a1 : (Sl TInput)) (a2 : (Sl TArg)) (a3 : Bool) (a4 : Bs) (n3 : Nat) (s20_4 : Nat) (y5_c0 : Fields_checker) (k_next_3 : Nat → Fields_checker → Option Fields_checker) (y10_c0 : Fields_checker) : Option Fields_checker := k_next_3 (s20_4 + 1) y10_c0
def fields_checker_known_l3 (a0 : Fields_checker) (a1 : (Sl TInput)) (a2 : (Sl TArg)) (a3 : Bool) (a4 : Bs)  : Nat → Nat → Fields_checker → Option Fields_checker
  | 0, _, _ => none
  | n3 + 1, s20_4, y5_c0 => bif (decide (((s20_4 : Nat) : Int) < ((a2.l.length : Nat) : Int))) then ((a2.l[s20_4]?).bind fun x12 => (schema_InputOf a1 x12.FName).bind fun x14 => (partC a2 none (some ((s20_4 : Nat) : Int))).bind fun x16 => (fields_given x16 x12.FName).bind fun x17 => bif ((!x14.2) || x17.2) then ((fields_checker_add y5_c0 true (22 : Int) a4).bind fun x22 => fields_checker_known_j9 a0 a1 a2 a3 a4 n3 s20_4 y5_c0 ((fields_checker_known_l3 a0 a1 a2 a3 a4 n3)) x22) else ((fields_fits y5_c0.Fd x14.1.FType x12.FValue).bind fun x23 => (fields_checker_add y5_c0 ((!x23) || (a3 && (((decide (x12.FValue.FKind = (7 : Int))) || ((decide (x12.FValue.FKind = (3 : Int))) && ((x12.FValue.FText == ([] : Bs))))) || ((decide (x12.FValue.FKind = (2 : Int))) && (decide (x12.FValue.FInt < (0 : Int))))))) (23 : Int) a4).bind fun x24 => fields_checker_known_j9 a0 a1 a2 a3 a4 n3 s20_4 y5_c0 ((fields_checker_known_l3 a0 a1 a2 a3 a4 n3)) x24)) else (some y5_c0)
def fields_checker_known (a0 : Fields_checker) (a1 : (Sl TInput)) (a2 : (Sl TArg)) (a3 : Bool) (a4 : Bs) : Option Fields_checker := fields_checker_known_l3 a0 a1 a2 a3 a4 F0 0 a0
set_option maxRecDepth 100000 in
set_option maxHeartbeats 2000000 in
theorem fields_checker_known_walk {a0 : Fields_checker} {a1 : (Sl TInput)} {a2 : (Sl TArg)} {a3 : Bool} {a4 : Bs} {w1 : Option Nat} {w2 : Option Nat} {c0 : Nat} {c0_2 : Nat} {r : Fields_checker} (hE : fields_checker_known a0 a1 a2 a3 a4 = some r) (H : Heap) (hc0 : H c0 = some (.cells (Fields_checker.cg (some c0_2) a0))) (ht0_2 : H c0_2 = some (.tok 2 a0.Fout.l.length)) : ACalls Try.prog 62 [.d (.ptr c0 0), .d (Sl.d 10 TInput.c w1 a1), .d (Sl.d 6 TArg.c w2 a2), .d (.bool a3), .d (.str a4)] H fun v h' => v = .tup [] ∧ h' = ((H.set c0_2 (some (.tok 2 r.Fout.l.length))).set c0 (some (.cells (Fields_checker.cg (some c0_2) r)))) := by
  unfold fields_checker_known at hE
  refine ACalls.of_wp (fn := Try.f62) (c := _) Try.tab_ok (fun _ _ => Try.call62 _ _) Try.func62 rfl (n := 94) rfl (rs := []) rfl rfl ?_
  have ne_c0_c0_2 : c0 ≠ c0_2 := fun e_ => by subst e_; simp_all
  refine AWp.heqA (h' := ((H.set c0_2 (some (.tok 2 a0.Fout.l.length))).set c0 (some (.cells (Fields_checker.cg (some c0_2) a0))))) (by funext n_; simp only [Heap.set]; (repeat' split) <;> simp_all) ?_
  refine AWp.seqK fun K1 hK1 => ?_
  refine AWp.region ?_
  refine AOps.s0 (Cert.move (by conv => lhs; whnf)) rfl ?_
  refine AOps.sLen (f := TArg.c) (s := a2) (Try.tab_ok _ _ rfl) rfl rfl rfl rfl fun hL2 => ?_
  refine AOps.s0 (Cert.move (by conv => lhs; whnf)) rfl ?_
  refine AOps.nil ?_
  refine hK1 _ ?_
  clear hK1 K1
  refine AWp.block ?_
  refine AWp.loopH (KeepsT.cons (k := 0) (by conv => lhs; whnf) (KeepsT.cons (k := 1) (by conv => lhs; whnf) (KeepsT.cons (k := 2) (by conv => lhs; whnf) (KeepsT.cons (k := 3) (by conv => lhs; whnf) (KeepsT.cons (k := 4) (by conv => lhs; whnf) (KeepsT.cons (k := 18) (by conv => lhs; whnf) (KeepsT.cons (k := 19) (by conv => lhs; whnf) KeepsT.nil))))))) (fun (z : Nat × Nat × Fields_checker) => [(20, .a (.d (.int .i64 ((z.2.1 : Nat) : Int))))]) (fun z => ((H.set c0_2 (some (.tok 2 z.2.2.Fout.l.length))).set c0 (some (.cells (Fields_checker.cg (some c0_2) z.2.2))))) (fun z => z.1) (fun z => fields_checker_known_l3 a0 a1 a2 a3 a4 z.1 z.2.1 z.2.2 = some r) (F0, 0, a0) hE (Weak.to (by repeat (first | exact Keeps.nil | refine Keeps.c rfl rfl ?_ | refine Keeps.c (by (first | (first | rfl | ((conv => lhs; whnf); first | (simp [cellsA, faultsT, faultsD, namesD, Fault.mk_c, Nat.add_assoc, empty_append, Bool.and_assoc]; done) | (simp [cellsA, faultsT, faultsD, namesD, Nat.add_assoc, empty_append, Bool.and_assoc]; repeat (first | rfl | constructor)))) | rfl | (simp only [get_same, ev]; done) | (simp [*, cellsA]; done) | (show V.a (A.d (D.slice _ _ _ _)) = V.a (A.d (D.slice _ _ _ _)); simp [*, cellsA]; done))) rfl ?_)) (by repeat (first | exact Pfx.nil | apply Pfx.cons)) (by first | rfl | (first | rfl | (simp only [Heap.set_set, List.length_append, List.length_nil, List.length_cons, List.length_map, List.length_singleton, Nat.zero_add]; done) | (simp [Heap.set_set, Nat.add_assoc]; done)) | (((funext n; simp only [Heap.set]; (repeat' split) <;> simp_all)) <;> first | rfl | exact ⟨rfl, rfl⟩))) ?_
  rintro ⟨n3, s20_4, y5_c0⟩ hE K3 hK3
  try dsimp only at hE
  cases n3 with
  | zero => cases hE
  | succ n3 =>
      rw [fields_checker_known_l3] at hE
      refine AWp.seqK fun K6 hK6 => ?_
      refine AWp.region ?_
      refine AOps.s0 (Cert.binI rfl rfl rfl) rfl ?_
      refine AOps.nil ?_
      refine hK6 _ ?_
      clear hK6 K6
      refine AWp.seqK fun K7 hK7 => ?_
      refine AWp.cond rfl (fun hc8 => ?_) (fun hc8 => ?_)
      · have hE := condT hc8 hE
        try dsimp only at hc8
        have hf8 := of_decide_eq_true hc8
        refine AWp.skip ?_
        refine hK7 _ ?_
        clear hK7 K7
        refine AWp.seqJH (KeepsT.cons (k := 0) (by conv => lhs; whnf) (KeepsT.cons (k := 1) (by conv => lhs; whnf) (KeepsT.cons (k := 2) (by conv => lhs; whnf) (KeepsT.cons (k := 3) (by conv => lhs; whnf) (KeepsT.cons (k := 4) (by conv => lhs; whnf) (KeepsT.cons (k := 18) (by conv => lhs; whnf) (KeepsT.cons (k := 19) (by conv => lhs; whnf) (KeepsT.cons (k := 20) (by conv => lhs; whnf) KeepsT.nil)))))))) (fun (z : Fields_checker) => []) (fun z => ((H.set c0_2 (some (.tok 2 z.Fout.l.length))).set c0 (some (.cells (Fields_checker.cg (some c0_2) z))))) (fun z => fields_checker_known_j9 a0 a1 a2 a3 a4 n3 s20_4 y5_c0 ((fields_checker_known_l3 a0 a1 a2 a3 a4 n3)) z = some r) ?_ ?_
        · intro K9 hK9
          refine AWp.block ?_
          refine AWp.seqK fun K11 hK11 => ?_
          refine AWp.region ?_
          refine AOps.s0 (Cert.move (by conv => lhs; whnf)) rfl ?_
          obtain ⟨x12, gx12, hE⟩ := bindO_some hE
          refine AOps.s0 (Cert.idxMn (f := TArg.c) (n := s20_4) (Try.tab_ok _ _ rfl) rfl (Try.tab_ok _ _ rfl) rfl rfl rfl gx12) rfl ?_
          refine AOps.s0 (Cert.loadV (Try.tab_ok _ _ rfl) rfl rfl rfl) rfl ?_
          refine AOps.sL (Cert.allocL (Try.tab_ok _ _ rfl) rfl (by repeat (first | exact Snoc.nil | apply Snoc.cons))) rfl ?_
          refine AOps.s0 (Cert.assign (by conv => lhs; whnf)) rfl ?_
          refine AOps.sLn (Cert.storeLF (Try.tab_ok _ _ rfl) rfl rfl rfl rfl rfl (by repeat (first | exact SetAt.zero | apply SetAt.succ))) ?_
          refine AOps.nil ?_
          refine hK11 _ ?_
          clear hK11 K11
          refine AWp.freeze 11 _ rfl (by repeat (first | exact Snoc.nil | apply Snoc.cons)) (Keeps.c (k := 0) (by conv => lhs; whnf) (by rfl) (Keeps.c (k := 1) (by conv => lhs; whnf) (by rfl) (Keeps.c (k := 2) (by conv => lhs; whnf) (by rfl) (Keeps.c (k := 3) (by conv => lhs; whnf) (by rfl) (Keeps.c (k := 4) (by conv => lhs; whnf) (by rfl) (Keeps.c (k := 10) (by conv => lhs; whnf) (by rfl) (Keeps.c (k := 18) (by conv => lhs; whnf) (by rfl) (Keeps.c (k := 19) (by conv => lhs; whnf) (by rfl) (Keeps.c (k := 20) (by conv => lhs; whnf) (by rfl) Keeps.nil))))))))) ?_
          refine AWp.seqK fun K13 hK13 => ?_
          refine AWp.region ?_
          refine AOps.s0 (Cert.move (by conv => lhs; whnf)) rfl ?_
          refine AOps.s0 (Cert.fieldV (Try.tab_ok _ _ rfl) rfl rfl (Try.tab_ok _ _ rfl) rfl rfl (by conv => lhs; whnf)) rfl ?_
          refine AOps.s0 (Cert.loadV (Try.tab_ok _ _ rfl) rfl rfl rfl) rfl ?_
          obtain ⟨x14, gx14, hE⟩ := bindO_some hE
          refine AOps.s0 (Cert.callP rfl rfl (fun H => schema_InputOf_walk gx14 H)) rfl ?_
          refine AOps.s0 (Cert.move (by conv => lhs; whnf)) rfl ?_
          refine AOps.s0 (Cert.extract rfl rfl) rfl ?_
          refine AOps.s0 (Cert.extract rfl rfl) rfl ?_
          refine AOps.sL (Cert.allocL (Try.tab_ok _ _ rfl) rfl (by repeat (first | exact Snoc.nil | apply Snoc.cons))) rfl ?_
          refine AOps.sLn (Cert.storeLF (Try.tab_ok _ _ rfl) rfl rfl rfl rfl rfl (by repeat (first | exact SetAt.zero | apply SetAt.succ))) ?_
          refine AOps.s0 (Cert.assign (by conv => lhs; whnf)) rfl ?_
          refine AOps.nil ?_
          refine hK13 _ ?_
          clear hK13 K13
          refine AWp.freeze 12 _ rfl (by repeat (first | exact Snoc.nil | apply Snoc.cons)) (Keeps.c (k := 0) (by conv => lhs; whnf) (by rfl) (Keeps.c (k := 1) (by conv => lhs; whnf) (by rfl) (Keeps.c (k := 2) (by conv => lhs; whnf) (by rfl) (Keeps.c (k := 3) (by conv => lhs; whnf) (by rfl) (Keeps.c (k := 4) (by conv => lhs; whnf) (by rfl) (Keeps.c (k := 10) (by conv => lhs; whnf) (by rfl) (Keeps.c (k := 11) (by conv => lhs; whnf) (by rfl) (Keeps.c (k := 13) (by conv => lhs; whnf) (by rfl) (Keeps.c (k := 18) (by conv => lhs; whnf) (by rfl) (Keeps.c (k := 19) (by conv => lhs; whnf) (by rfl) (Keeps.c (k := 20) (by conv => lhs; whnf) (by rfl) Keeps.nil))))))))))) ?_
          refine AWp.seqK fun K15 hK15 => ?_
          refine AWp.draw rfl ?_
          refine DOps.s0 (Cert.move (by conv => lhs; whnf)) rfl ?_
          refine DOps.s0 (Cert.move (by conv => lhs; whnf)) rfl ?_
          obtain ⟨x16, gx16, hE⟩ := bindO_some hE
          refine DOps.s0 (Cert.partM (f := TArg.c) (l := none) (r := (some ((s20_4 : Nat) : Int))) (Try.tab_ok _ _ rfl) rfl (Try.tab_ok _ _ rfl) rfl rfl trivial rfl gx16) rfl ?_
          refine DOps.s0 (Cert.fieldV (Try.tab_ok _ _ rfl) rfl rfl (Try.tab_ok _ _ rfl) rfl rfl (by conv => lhs; whnf)) rfl ?_
          refine DOps.s0 (Cert.loadV (Try.tab_ok _ _ rfl) rfl rfl rfl) rfl ?_
          obtain ⟨x17, gx17, hE⟩ := bindO_some hE
          refine DOps.s0 (Cert.callP rfl rfl (fun H => fields_given_walk gx17 H)) rfl ?_
          refine DOps.s0 (Cert.move (by conv => lhs; whnf)) rfl ?_
          refine DOps.s0 (Cert.extract rfl rfl) rfl ?_
          refine DOps.s0 (Cert.extract rfl rfl) rfl ?_
          refine DOps.sL (Cert.allocL (Try.tab_ok _ _ rfl) rfl (by repeat (first | exact Snoc.nil | apply Snoc.cons))) rfl ?_
          refine DOps.sLn (Cert.storeLF (Try.tab_ok _ _ rfl) rfl rfl rfl rfl rfl (by repeat (first | exact SetAt.zero | apply SetAt.succ))) ?_
          refine DOps.s0 (Cert.assign (by conv => lhs; whnf)) rfl ?_
          refine DOps.nil (by decide +kernel) ?_
          refine hK15 _ ?_
          clear hK15 K15
          refine AWp.freeze 14 _ rfl (by repeat (first | exact Snoc.nil | apply Snoc.cons)) (Keeps.c (k := 0) (by conv => lhs; whnf) (by rfl) (Keeps.c (k := 1) (by conv => lhs; whnf) (by rfl) (Keeps.c (k := 2) (by conv => lhs; whnf) (by rfl) (Keeps.c (k := 3) (by conv => lhs; whnf) (by rfl) (Keeps.c (k := 4) (by conv => lhs; whnf) (by rfl) (Keeps.c (k := 11) (by conv => lhs; whnf) (by rfl) (Keeps.c (k := 12) (by conv => lhs; whnf) (by rfl) (Keeps.c (k := 13) (by conv => lhs; whnf) (by rfl) (Keeps.c (k := 15) (by conv => lhs; whnf) (by rfl) (Keeps.c (k := 18) (by conv => lhs; whnf) (by rfl) (Keeps.c (k := 19) (by conv => lhs; whnf) (by rfl) (Keeps.c (k := 20) (by conv => lhs; whnf) (by rfl) Keeps.nil)))))))))))) ?_
          refine AWp.seqK fun K18 hK18 => ?_
          refine AWp.region ?_
          refine AOps.s0 (Cert.fieldV (Try.tab_ok _ _ rfl) rfl rfl (Try.tab_ok _ _ rfl) rfl rfl (by conv => lhs; whnf)) rfl ?_
          refine AOps.s0 (Cert.loadV (Try.tab_ok _ _ rfl) rfl rfl rfl) rfl ?_
          refine AOps.sL (Cert.allocL (Try.tab_ok _ _ rfl) rfl (by repeat (first | exact Snoc.nil | apply Snoc.cons))) rfl ?_
          refine AOps.sLn (Cert.storeLF (Try.tab_ok _ _ rfl) rfl rfl rfl rfl rfl (by repeat (first | exact SetAt.zero | apply SetAt.succ))) ?_
          refine AOps.nil ?_
          refine hK18 _ ?_
          clear hK18 K18
          refine AWp.freeze 16 _ rfl (by repeat (first | exact Snoc.nil | apply Snoc.cons)) (Keeps.c (k := 0) (by conv => lhs; whnf) (by rfl) (Keeps.c (k := 1) (by conv => lhs; whnf) (by rfl) (Keeps.c (k := 2) (by conv => lhs; whnf) (by rfl) (Keeps.c (k := 3) (by conv => lhs; whnf) (by rfl) (Keeps.c (k := 4) (by conv => lhs; whnf) (by rfl) (Keeps.c (k := 12) (by conv => lhs; whnf) (by rfl) (Keeps.c (k := 13) (by conv => lhs; whnf) (by rfl) (Keeps.c (k := 15) (by conv => lhs; whnf) (by rfl) (Keeps.c (k := 18) (by conv => lhs; whnf) (by rfl) (Keeps.c (k := 19) (by conv => lhs; whnf) (by rfl) (Keeps.c (k := 20) (by conv => lhs; whnf) (by rfl) Keeps.nil))))))))))) ?_
          refine AWp.seqK fun K19 hK19 => ?_
          refine AWp.region ?_
          refine AOps.s0 (Cert.fieldV (Try.tab_ok _ _ rfl) rfl rfl (Try.tab_ok _ _ rfl) rfl rfl (by conv => lhs; whnf)) rfl ?_
          refine AOps.s0 (Cert.loadV (Try.tab_ok _ _ rfl) rfl rfl rfl) rfl ?_
          refine AOps.s0 (Cert.binI rfl rfl rfl) rfl ?_
          refine AOps.s0 (Cert.move (by conv => lhs; whnf)) rfl ?_
          refine AOps.gC rfl rfl (fun hC => Cert.fieldV (Try.tab_ok _ _ rfl) rfl rfl (Try.tab_ok _ _ rfl) rfl rfl (by conv => lhs; whnf)) rfl ?_
          refine AOps.gC rfl rfl (fun hC => Cert.ungd (k := 47) rfl (by first | exact hC | exact andL hC | exact andL (andL hC) | exact andL (andL (andL hC)) | exact andR hC | simp_all) (Cert.loadV (Try.tab_ok _ _ rfl) rfl rfl rfl)) rfl ?_
          refine AOps.gC rfl rfl (fun hC => Cert.ungd (k := 48) rfl (by first | exact hC | exact andL hC | exact andL (andL hC) | exact andL (andL (andL hC)) | exact andR hC | simp_all) (Cert.binI rfl rfl rfl)) rfl ?_
          refine AOps.gC rfl rfl (fun hC => Cert.ungd (k := 49) rfl (by first | exact hC | exact andL hC | exact andL (andL hC) | exact andL (andL (andL hC)) | exact andR hC | simp_all) (Cert.move (by conv => lhs; whnf))) rfl ?_
          refine AOps.gC rfl rfl (fun hC => Cert.fieldV (Try.tab_ok _ _ rfl) rfl rfl (Try.tab_ok _ _ rfl) rfl rfl (by conv => lhs; whnf)) rfl ?_
          refine AOps.gC rfl rfl (fun hC => Cert.ungd (k := 51) rfl (by first | exact hC | exact andL hC | exact andL (andL hC) | exact andL (andL (andL hC)) | exact andR hC | simp_all) (Cert.loadV (Try.tab_ok _ _ rfl) rfl rfl rfl)) rfl ?_
          refine AOps.gC rfl rfl (fun hC => Cert.ungd (k := 52) rfl (by first | exact hC | exact andL hC | exact andL (andL hC) | exact andL (andL (andL hC)) | exact andR hC | simp_all) (Cert.binS rfl rfl rfl)) rfl ?_
          refine AOps.gC rfl rfl (fun hC => Cert.ungd (k := 50) rfl (by first | exact hC | exact andL hC | exact andL (andL hC) | exact andL (andL (andL hC)) | exact andR hC | simp_all) (Cert.pickAnd rfl rfl (fun h => by first | exact h | exact notT h | exact andI hC h | exact andI hC (notT h) | simp_all) rfl)) rfl ?_
          refine AOps.s0 (Cert.pickOr rfl rfl rfl (fun h => by first | exact h | exact notT h | exact andI hC h | exact andI hC (notT h) | simp_all)) rfl ?_
          refine AOps.s0 (Cert.move (by conv => lhs; whnf)) rfl ?_
          refine AOps.gC rfl rfl (fun hC => Cert.fieldV (Try.tab_ok _ _ rfl) rfl rfl (Try.tab_ok _ _ rfl) rfl rfl (by conv => lhs; whnf)) rfl ?_
          refine AOps.gC rfl rfl (fun hC => Cert.ungd (k := 57) rfl (by first | exact hC | exact andL hC | exact andL (andL hC) | exact andL (andL (andL hC)) | exact andR hC | simp_all) (Cert.loadV (Try.tab_ok _ _ rfl) rfl rfl rfl)) rfl ?_
          refine AOps.gC rfl rfl (fun hC => Cert.ungd (k := 58) rfl (by first | exact hC | exact andL hC | exact andL (andL hC) | exact andL (andL (andL hC)) | exact andR hC | simp_all) (Cert.binI rfl rfl rfl)) rfl ?_
          refine AOps.gC rfl rfl (fun hC => Cert.ungd (k := 59) rfl (by first | exact hC | exact andL hC | exact andL (andL hC) | exact andL (andL (andL hC)) | exact andR hC | simp_all) (Cert.move (by conv => lhs; whnf))) rfl ?_
          refine AOps.gC rfl rfl (fun hC => Cert.fieldV (Try.tab_ok _ _ rfl) rfl rfl (Try.tab_ok _ _ rfl) rfl rfl (by conv => lhs; whnf)) rfl ?_
          refine AOps.gC rfl rfl (fun hC => Cert.ungd (k := 61) rfl (by first | exact hC | exact andL hC | exact andL (andL hC) | exact andL (andL (andL hC)) | exact andR hC | simp_all) (Cert.loadV (Try.tab_ok _ _ rfl) rfl rfl rfl)) rfl ?_
          refine AOps.gC rfl rfl (fun hC => Cert.ungd (k := 62) rfl (by first | exact hC | exact andL hC | exact andL (andL hC) | exact andL (andL (andL hC)) | exact andR hC | simp_all) (Cert.binI rfl rfl rfl)) rfl ?_
          refine AOps.gC rfl rfl (fun hC => Cert.ungd (k := 60) rfl (by first | exact hC | exact andL hC | exact andL (andL hC) | exact andL (andL (andL hC)) | exact andR hC | simp_all) (Cert.pickAnd rfl rfl (fun h => by first | exact h | exact notT h | exact andI hC h | exact andI hC (notT h) | simp_all) rfl)) rfl ?_
          refine AOps.s0 (Cert.pickOr rfl rfl rfl (fun h => by first | exact h | exact notT h | exact andI hC h | exact andI hC (notT h) | simp_all)) rfl ?_
          refine AOps.s0 (Cert.assign (by conv => lhs; whnf)) rfl ?_
          refine AOps.nil ?_
          refine hK19 _ ?_
          clear hK19 K19
          refine AWp.block ?_
          refine AWp.seqK fun K20 hK20 => ?_
          refine AWp.region ?_
          refine AOps.s0 (Cert.move (by conv => lhs; whnf)) rfl ?_
          refine AOps.s0 (Cert.notB rfl) rfl ?_
          refine AOps.s0 (Cert.move (by conv => lhs; whnf)) rfl ?_
          refine AOps.gC rfl rfl (fun hC => Cert.move (by conv => lhs; whnf)) rfl ?_
          refine AOps.s0 (Cert.pickOr rfl rfl rfl (fun h => by first | exact h | exact notT h | exact andI hC h | exact andI hC (notT h) | simp_all)) rfl ?_
          refine AOps.s0 (Cert.assign (by conv => lhs; whnf)) rfl ?_
          refine AOps.nil ?_
          refine hK20 _ ?_
          clear hK20 K20
          refine AWp.cond rfl (fun hc21 => ?_) (fun hc21 => ?_)
          · have hE := condT hc21 hE
            try dsimp only at hc21
            refine AWp.region ?_
            refine AOps.s0 (Cert.move (by conv => lhs; whnf)) rfl ?_
            refine AOps.s0 (Cert.move (by conv => lhs; whnf)) rfl ?_
            obtain ⟨x22, gx22, hE⟩ := bindO_some hE
            refine AOps.sH (Cert.callH rfl rfl (fields_checker_add_walk gx22 _ (by (first | assumption | exact Heap.set_same _ _ _ | ((repeat (refine (Heap.set_other _ _ (by first | assumption | (apply Ne.symm; assumption))).trans ?_)); first | assumption | exact Heap.set_same _ _ _) | (simp only [Heap.set_set, Heap.set_same]; done) | (simp [Heap.set, *]; done))) (by (first | assumption | exact Heap.set_same _ _ _ | ((repeat (refine (Heap.set_other _ _ (by first | assumption | (apply Ne.symm; assumption))).trans ?_)); first | assumption | exact Heap.set_same _ _ _) | (simp only [Heap.set_set, Heap.set_same]; done) | (simp [Heap.set, *]; done))))) rfl ?_
            refine AOps.heq (h' := ((H.set c0_2 (some (.tok 2 x22.Fout.l.length))).set c0 (some (.cells (Fields_checker.cg (some c0_2) x22))))) (by first | rfl | (rw [Heap.set_set]; rfl) | (funext n_; simp only [Heap.set]; (repeat' split) <;> first | rfl | (exfalso; simp_all; done) | (simp_all; done))) ?_
            refine AOps.nil ?_
            exact hK9 _ x22 (Weak.to (by repeat (first | exact Keeps.nil | refine Keeps.c rfl rfl ?_ | refine Keeps.c (by (first | (first | rfl | ((conv => lhs; whnf); first | (simp [cellsA, faultsT, faultsD, namesD, Fault.mk_c, Nat.add_assoc, empty_append, Bool.and_assoc]; done) | (simp [cellsA, faultsT, faultsD, namesD, Nat.add_assoc, empty_append, Bool.and_assoc]; repeat (first | rfl | constructor)))) | rfl | (simp only [get_same, ev]; done) | (simp [*, cellsA]; done) | (show V.a (A.d (D.slice _ _ _ _)) = V.a (A.d (D.slice _ _ _ _)); simp [*, cellsA]; done))) rfl ?_)) (by repeat (first | exact Pfx.nil | apply Pfx.cons)) (by first | rfl | (first | rfl | (simp only [Heap.set_set, List.length_append, List.length_nil, List.length_cons, List.length_map, List.length_singleton, Nat.zero_add]; done) | (simp [Heap.set_set, Nat.add_assoc]; done)) | (((funext n; simp only [Heap.set]; (repeat' split) <;> simp_all)) <;> first | rfl | exact ⟨rfl, rfl⟩))) hE
          · have hE := condF hc21 hE
            try dsimp only at hc21
            refine AWp.draw rfl ?_
            refine DOps.s0 (Cert.move (by conv => lhs; whnf)) rfl ?_
            refine DOps.s0 (Cert.move (by conv => lhs; whnf)) rfl ?_
            refine DOps.s0 (Cert.nilP rfl) rfl ?_
            refine DOps.s0 (Cert.fieldP (Try.tab_ok _ _ rfl) rfl rfl (Try.tab_ok _ _ rfl) rfl rfl) rfl ?_
            refine DOps.s0 (Cert.loadP (Try.tab_ok _ _ rfl) rfl rfl (by (first | assumption | exact Heap.set_same _ _ _ | ((repeat (refine (Heap.set_other _ _ (by first | assumption | (apply Ne.symm; assumption))).trans ?_)); first | assumption | exact Heap.set_same _ _ _) | (simp only [Heap.set_set, Heap.set_same]; done) | (simp [Heap.set, *]; done))) rfl) rfl ?_
            refine DOps.s0 (Cert.fieldV (Try.tab_ok _ _ rfl) rfl rfl (Try.tab_ok _ _ rfl) rfl rfl (by conv => lhs; whnf)) rfl ?_
            refine DOps.s0 (Cert.loadV (Try.tab_ok _ _ rfl) rfl rfl rfl) rfl ?_
            refine DOps.s0 (Cert.loadV (Try.tab_ok _ _ rfl) rfl rfl rfl) rfl ?_
            obtain ⟨x23, gx23, hE⟩ := bindO_some hE
            refine DOps.s0 (Cert.callP rfl rfl (fun H => fields_fits_walk gx23 H)) rfl ?_
            refine DOps.s0 (Cert.notB rfl) rfl ?_
            refine DOps.s0 (Cert.move (by conv => lhs; whnf)) rfl ?_
            refine DOps.gC rfl rfl (fun hC => Cert.move (by conv => lhs; whnf)) rfl ?_
            refine DOps.gC rfl rfl (fun hC => Cert.ungd (k := 77) rfl (by first | exact hC | exact andL hC | exact andL (andL hC) | exact andL (andL (andL hC)) | exact andR hC | simp_all) (Cert.move (by conv => lhs; whnf))) rfl ?_
            refine DOps.gC rfl rfl (fun hC => Cert.move (by conv => lhs; whnf)) rfl ?_
            refine DOps.gC rfl rfl (fun hC => Cert.ungd (k := 78) rfl (by first | exact hC | exact andL hC | exact andL (andL hC) | exact andL (andL (andL hC)) | exact andR hC | simp_all) (Cert.pickAnd rfl rfl (fun h => by first | exact h | exact notT h | exact andI hC h | exact andI hC (notT h) | simp_all) rfl)) rfl ?_
            refine DOps.s0 (Cert.pickOr rfl rfl rfl (fun h => by first | exact h | exact notT h | exact andI hC h | exact andI hC (notT h) | simp_all)) rfl ?_
            refine DOps.s0 (Cert.move (by conv => lhs; whnf)) rfl ?_
            obtain ⟨x24, gx24, hE⟩ := bindO_some hE
            refine DOps.sH (Cert.callH rfl rfl (fields_checker_add_walk gx24 _ (by (first | assumption | exact Heap.set_same _ _ _ | ((repeat (refine (Heap.set_other _ _ (by first | assumption | (apply Ne.symm; assumption))).trans ?_)); first | assumption | exact Heap.set_same _ _ _) | (simp only [Heap.set_set, Heap.set_same]; done) | (simp [Heap.set, *]; done))) (by (first | assumption | exact Heap.set_same _ _ _ | ((repeat (refine (Heap.set_other _ _ (by first | assumption | (apply Ne.symm; assumption))).trans ?_)); first | assumption | exact Heap.set_same _ _ _) | (simp only [Heap.set_set, Heap.set_same]; done) | (simp [Heap.set, *]; done))))) rfl ?_
            refine DOps.heq (h' := ((H.set c0_2 (some (.tok 2 x24.Fout.l.length))).set c0 (some (.cells (Fields_checker.cg (some c0_2) x24))))) (by first | rfl | (rw [Heap.set_set]; rfl) | (funext n_; simp only [Heap.set]; (repeat' split) <;> first | rfl | (exfalso; simp_all; done) | (simp_all; done))) ?_
            refine DOps.nil (by decide +kernel) ?_
            exact hK9 _ x24 (Weak.to (by repeat (first | exact Keeps.nil | refine Keeps.c rfl rfl ?_ | refine Keeps.c (by (first | (first | rfl | ((conv => lhs; whnf); first | (simp [cellsA, faultsT, faultsD, namesD, Fault.mk_c, Nat.add_assoc, empty_append, Bool.and_assoc]; done) | (simp [cellsA, faultsT, faultsD, namesD, Nat.add_assoc, empty_append, Bool.and_assoc]; repeat (first | rfl | constructor)))) | rfl | (simp only [get_same, ev]; done) | (simp [*, cellsA]; done) | (show V.a (A.d (D.slice _ _ _ _)) = V.a (A.d (D.slice _ _ _ _)); simp [*, cellsA]; done))) rfl ?_)) (by repeat (first | exact Pfx.nil | apply Pfx.cons)) (by first | rfl | (first | rfl | (simp only [Heap.set_set, List.length_append, List.length_nil, List.length_cons, List.length_map, List.length_singleton, Nat.zero_add]; done) | (simp [Heap.set_set, Nat.add_assoc]; done)) | (((funext n; simp only [Heap.set]; (repeat' split) <;> simp_all)) <;> first | rfl | exact ⟨rfl, rfl⟩))) hE
        · rintro y10_c0 hE
          try dsimp only at hE
          unfold fields_checker_known_j9 at hE
          refine AWp.region ?_
          refine AOps.s0 (Cert.addI rfl rfl (by first | omega | (dsimp only; omega)) (by first | omega | (dsimp only; omega))) rfl ?_
          refine AOps.s0 (Cert.move (by conv => lhs; whnf)) rfl ?_
          refine AOps.nil ?_
          exact hK3 _ (n3, (s20_4 + 1), y10_c0) (Weak.to (by repeat (first | exact Keeps.nil | refine Keeps.c rfl rfl ?_ | refine Keeps.c (by (first | (first | rfl | ((conv => lhs; whnf); first | (simp [cellsA, faultsT, faultsD, namesD, Fault.mk_c, Nat.add_assoc, empty_append, Bool.and_assoc]; done) | (simp [cellsA, faultsT, faultsD, namesD, Nat.add_assoc, empty_append, Bool.and_assoc]; repeat (first | rfl | constructor)))) | rfl | (simp only [get_same, ev]; done) | (simp [*, cellsA]; done) | (show V.a (A.d (D.slice _ _ _ _)) = V.a (A.d (D.slice _ _ _ _)); simp [*, cellsA]; done))) rfl ?_)) (by repeat (first | exact Pfx.nil | apply Pfx.cons)) (by first | rfl | (first | rfl | (simp only [Heap.set_set, List.length_append, List.length_nil, List.length_cons, List.length_map, List.length_singleton, Nat.zero_add]; done) | (simp [Heap.set_set, Nat.add_assoc]; done)) | (((funext n; simp only [Heap.set]; (repeat' split) <;> simp_all)) <;> first | rfl | exact ⟨rfl, rfl⟩))) hE (Nat.lt_succ_self _)
      · have hE := condF hc8 hE
        try dsimp only at hc8
        refine AWp.exit ?_
        repeat (first | refine xBlock_normal ?_ | refine xThen_exit ?_ | refine xBlock_exit ?_)
        obtain rfl := Option.some.inj hE
        refine retQ.normalF ((H.set c0_2 (some (.tok 2 y5_c0.Fout.l.length))).set c0 (some (.cells (Fields_checker.cg (some c0_2) y5_c0)))) (xs := []) rfl ⟨rfl, rfl⟩ ?_
        exact (fun _ _ h => h)
end Go.Proofs

namespace Go.Proofs
open Go Go.Ab
def fields_checker_dirs_j10 (a0 : Fields_checker) (a1 : TSel) (a2 : TRef) (a3 : Bool) (a4 : Bs) (n4 : Nat) (s21_5 : Nat) (y6_c0 : Fields_checker) (k_next_4 : Nat → Fields_checker → Option Fields_checker) (y11_c0 : Fields_checker) : Option Fields_checker := k_next_4 (s21_5 + 1) y11_c0
def fields_checker_dirs_l30 (a0 : Fields_checker) (a1 : TSel) (a2 : TRef) (a3 : Bool) (a4 : Bs) (n4 : Nat) (s21_5 : Nat) (y6_c0 : Fields_checker) (x13 : TDir) (x16 : (Sl TInput)) (s13_18 : (Sl TInput)) (x21 : (Sl TDir)) (x22 : Bool) (x27 : Fields_checker) (k_next_4 : Nat → Fields_checker → Option Fields_checker) : Nat → Nat → Fields_checker → Option Fields_checker
  | 0, _, _ => none
  | n30 + 1, s78_31, y32_c0 => bif (decide (((s78_31 : Nat) : Int) < ((s13_18.l.length : Nat) : Int))) then ((s13_18.l[s78_31]?).bind fun x38 => (fields_given x13.FArgs x38.FName).bind fun x40 => (fields_checker_add y32_c0 (!x40.2) (22 : Int) a4).bind fun x41 => (fields_checker_dirs_l30 a0 a1 a2 a3 a4 n4 s21_5 y6_c0 x13 x16 s13_18 x21 x22 x27 k_next_4 n30) (s78_31 + 1) x41) else (fields_checker_dirs_j10 a0 a1 a2 a3 a4 n4 s21_5 y6_c0 k_next_4 y32_c0)
def fields_checker_dirs_j17 (a0 : Fields_checker) (a1 : TSel) (a2 : TRef) (a3 : Bool) (a4 : Bs) (n4 : Nat) (s21_5 : Nat) (y6_c0 : Fields_checker) (x13 : TDir) (x16 : (Sl TInput)) (k_next_4 : Nat → Fields_checker → Option Fields_checker) (s13_18 : (Sl TInput)) : Option Fields_checker := guardO (!s13_18.nl) (partC a1.FDirs none (some ((s21_5 : Nat) : Int))) (Sl.nil : Sl TDir) fun x21 => guardO (!s13_18.nl) (slices_ContainsFunc_apiDirapiDir x21 (fun y0 => fields_checker_dirs_1 y0 x13)) false fun x22 => bif (s13_18.nl || x22) then ((fields_checker_add y6_c0 true (29 : Int) a4).bind fun x25 => fields_checker_dirs_j10 a0 a1 a2 a3 a4 n4 s21_5 y6_c0 k_next_4 x25) else ((fields_checker_known y6_c0 s13_18 x13.FArgs (((x13.FName == ([100, 101, 102, 101, 114] : Bs))) || ((x13.FName == ([115, 116, 114, 101, 97, 109] : Bs)))) a4).bind fun x27 => fields_checker_dirs_l30 a0 a1 a2 a3 a4 n4 s21_5 y6_c0 x13 x16 s13_18 x21 x22 x27 k_next_4 F0 0 x27)
def fields_checker_dirs_l4 (a0 : Fields_checker) (a1 : TSel) (a2 : TRef) (a3 : Bool) (a4 : Bs)  : Nat → Nat → Fields_checker → Option Fields_checker
  | 0, _, _ => none
  | n4 + 1, s21_5, y6_c0 => bif (decide (((s21_5 : Nat) : Int) < ((a1.FDirs.l.length : Nat) : Int))) then ((a1.FDirs.l[s21_5]?).bind fun x13 => (fields_argsOf x13.FName ((!decide (a1.FKind = (2 : Int))) && (!decide (a1.FKind = (3 : Int))))).bind fun x16 => guardO ((((x13.FName == ([115, 116, 114, 101, 97, 109] : Bs))) && a3)) (typeref_IsList a2) false fun x43 => bif ((((x13.FName == ([115, 116, 114, 101, 97, 109] : Bs))) && a3) && (!x43)) then (fields_checker_dirs_j17 a0 a1 a2 a3 a4 n4 s21_5 y6_c0 x13 x16 ((fields_checker_dirs_l4 a0 a1 a2 a3 a4 n4)) (Sl.nil : Sl TInput)) else (fields_checker_dirs_j17 a0 a1 a2 a3 a4 n4 s21_5 y6_c0 x13 x16 ((fields_checker_dirs_l4 a0 a1 a2 a3 a4 n4)) x16)) else (some y6_c0)
def fields_checker_dirs (a0 : Fields_checker) (a1 : TSel) (a2 : TRef) (a3 : Bool) (a4 : Bs) : Option Fields_checker := fields_checker_dirs_l4 a0 a1 a2 a3 a4 F0 0 a0
set_option maxRecDepth 100000 in
set_option maxHeartbeats 2000000 in
theorem fields_checker_dirs_walk {a0 : Fields_checker} {a1 : TSel} {a2 : TRef} {a3 : Bool} {a4 : Bs}  {c0 : Nat} {c0_2 : Nat} {r : Fields_checker} (hE : fields_checker_dirs a0 a1 a2 a3 a4 = some r) (H : Heap) (hc0 : H c0 = some (.cells (Fields_checker.cg (some c0_2) a0))) (ht0_2 : H c0_2 = some (.tok 2 a0.Fout.l.length)) : ACalls Try.prog 45 [.d (.ptr c0 0), .agg (TSel.c a1), .agg (TRef.c a2), .d (.bool a3), .d (.str a4)] H fun v h' => v = .tup [] ∧ h' = ((H.set c0_2 (some (.tok 2 r.Fout.l.length))).set c0 (some (.cells (Fields_checker.cg (some c0_2) r)))) := by
  unfold fields_checker_dirs at hE
  refine ACalls.of_wp (fn := Try.f45) (c := _) Try.tab_ok (fun _ _ => Try.call45 _ _) Try.func45 rfl (n := 97) rfl (rs := []) rfl rfl ?_
  have ne_c0_c0_2 : c0 ≠ c0_2 := fun e_ => by subst e_; simp_all
  refine AWp.heqA (h' := ((H.set c0_2 (some (.tok 2 a0.Fout.l.length))).set c0 (some (.cells (Fields_checker.cg (some c0_2) a0))))) (by funext n_; simp only [Heap.set]; (repeat' split) <;> simp_all) ?_
  refine AWp.seqK fun K1 hK1 => ?_
  refine AWp.region ?_
  refine AOps.s0 (Cert.boxV rfl) rfl ?_
  refine AOps.s0 (Cert.boxV rfl) rfl ?_
  refine AOps.nil ?_
  refine hK1 _ ?_
  clear hK1 K1
  refine AWp.seqK fun K2 hK2 => ?_
  refine AWp.region ?_
  refine AOps.s0 (Cert.fieldV (Try.tab_ok _ _ rfl) rfl rfl (Try.tab_ok _ _ rfl) rfl rfl (by conv => lhs; whnf)) rfl ?_
  refine AOps.s0 (Cert.loadV (Try.tab_ok _ _ rfl) rfl rfl rfl) rfl ?_
  refine AOps.sLen (f := TDir.c) (s := a1.FDirs) (Try.tab_ok _ _ rfl) rfl rfl rfl rfl fun hL3 => ?_
  refine AOps.s0 (Cert.move (by conv => lhs; whnf)) rfl ?_
  refine AOps.nil ?_
  refine hK2 _ ?_
  clear hK2 K2
  refine AWp.block ?_
  refine AWp.loopH (KeepsT.cons (k := 0) (by conv => lhs; whnf) (KeepsT.cons (k := 3) (by conv => lhs; whnf) (KeepsT.cons (k := 4) (by conv => lhs; whnf) (KeepsT.cons (k := 6) (by conv => lhs; whnf) (KeepsT.cons (k := 7) (by conv => lhs; whnf) (KeepsT.cons (k := 19) (by conv => lhs; whnf) (KeepsT.cons (k := 20) (by conv => lhs; whnf) KeepsT.nil))))))) (fun (z : Nat × Nat × Fields_checker) => [(21, .a (.d (.int .i64 ((z.2.1 : Nat) : Int))))]) (fun z => ((H.set c0_2 (some (.tok 2 z.2.2.Fout.l.length))).set c0 (some (.cells (Fields_checker.cg (some c0_2) z.2.2))))) (fun z => z.1) (fun z => fields_checker_dirs_l4 a0 a1 a2 a3 a4 z.1 z.2.1 z.2.2 = some r) (F0, 0, a0) hE (Weak.to (by repeat (first | exact Keeps.nil | refine Keeps.c rfl rfl ?_ | refine Keeps.c (by (first | (first | rfl | ((conv => lhs; whnf); first | (simp [cellsA, faultsT, faultsD, namesD, Fault.mk_c, Nat.add_assoc, empty_append, Bool.and_assoc]; done) | (simp [cellsA, faultsT, faultsD, namesD, Nat.add_assoc, empty_append, Bool.and_assoc]; repeat (first | rfl | constructor)))) | rfl | (simp only [get_same, ev]; done) | (simp [*, cellsA]; done) | (show V.a (A.d (D.slice _ _ _ _)) = V.a (A.d (D.slice _ _ _ _)); simp [*, cellsA]; done))) rfl ?_)) (by repeat (first | exact Pfx.nil | apply Pfx.cons)) (by first | rfl | (first | rfl | (simp only [Heap.set_set, List.length_append, List.length_nil, List.length_cons, List.length_map, List.length_singleton, Nat.zero_add]; done) | (simp [Heap.set_set, Nat.add_assoc]; done)) | (((funext n; simp only [Heap.set]; (repeat' split) <;> simp_all)) <;> first | rfl | exact ⟨rfl, rfl⟩))) ?_
  rintro ⟨n4, s21_5, y6_c0⟩ hE K4 hK4
  try dsimp only at hE
  cases n4 with
  | zero => cases hE
  | succ n4 =>
      rw [fields_checker_dirs_l4] at hE
      refine AWp.seqK fun K7 hK7 => ?_
      refine AWp.region ?_
      refine AOps.s0 (Cert.binI rfl rfl rfl) rfl ?_
      refine AOps.nil ?_
      refine hK7 _ ?_
      clear hK7 K7
      refine AWp.seqK fun K8 hK8 => ?_
      refine AWp.cond rfl (fun hc9 => ?_) (fun hc9 => ?_)
      · have hE := condT hc9 hE
        try dsimp only at hc9
        have hf9 := of_decide_eq_true hc9
        refine AWp.skip ?_
        refine hK8 _ ?_
        clear hK8 K8
        refine AWp.seqJH (KeepsT.cons (k := 0) (by conv => lhs; whnf) (KeepsT.cons (k := 3) (by conv => lhs; whnf) (KeepsT.cons (k := 4) (by conv => lhs; whnf) (KeepsT.cons (k := 6) (by conv => lhs; whnf) (KeepsT.cons (k := 7) (by conv => lhs; whnf) (KeepsT.cons (k := 19) (by conv => lhs; whnf) (KeepsT.cons (k := 20) (by conv => lhs; whnf) (KeepsT.cons (k := 21) (by conv => lhs; whnf) KeepsT.nil)))))))) (fun (z : Fields_checker) => []) (fun z => ((H.set c0_2 (some (.tok 2 z.Fout.l.length))).set c0 (some (.cells (Fields_checker.cg (some c0_2) z))))) (fun z => fields_checker_dirs_j10 a0 a1 a2 a3 a4 n4 s21_5 y6_c0 ((fields_checker_dirs_l4 a0 a1 a2 a3 a4 n4)) z = some r) ?_ ?_
        · intro K10 hK10
          refine AWp.block ?_
          refine AWp.seqK fun K12 hK12 => ?_
          refine AWp.region ?_
          refine AOps.s0 (Cert.move (by conv => lhs; whnf)) rfl ?_
          obtain ⟨x13, gx13, hE⟩ := bindO_some hE
          refine AOps.s0 (Cert.idxMn (f := TDir.c) (n := s21_5) (Try.tab_ok _ _ rfl) rfl (Try.tab_ok _ _ rfl) rfl rfl rfl gx13) rfl ?_
          refine AOps.s0 (Cert.loadV (Try.tab_ok _ _ rfl) rfl rfl rfl) rfl ?_
          refine AOps.sL (Cert.allocL (Try.tab_ok _ _ rfl) rfl (by repeat (first | exact Snoc.nil | apply Snoc.cons))) rfl ?_
          refine AOps.s0 (Cert.assign (by conv => lhs; whnf)) rfl ?_
          refine AOps.sLn (Cert.storeLF (Try.tab_ok _ _ rfl) rfl rfl rfl rfl rfl (by repeat (first | exact SetAt.zero | apply SetAt.succ))) ?_
          refine AOps.nil ?_
          refine hK12 _ ?_
          clear hK12 K12
          refine AWp.freeze 11 _ rfl (by repeat (first | exact Snoc.nil | apply Snoc.cons)) (Keeps.c (k := 0) (by conv => lhs; whnf) (by rfl) (Keeps.c (k := 3) (by conv => lhs; whnf) (by rfl) (Keeps.c (k := 4) (by conv => lhs; whnf) (by rfl) (Keeps.c (k := 6) (by conv => lhs; whnf) (by rfl) (Keeps.c (k := 7) (by conv => lhs; whnf) (by rfl) (Keeps.c (k := 10) (by conv => lhs; whnf) (by rfl) (Keeps.c (k := 19) (by conv => lhs; whnf) (by rfl) (Keeps.c (k := 20) (by conv => lhs; whnf) (by rfl) (Keeps.c (k := 21) (by conv => lhs; whnf) (by rfl) Keeps.nil))))))))) ?_
          refine AWp.seqK fun K14 hK14 => ?_
          refine AWp.region ?_
          refine AOps.s0 (Cert.fieldV (Try.tab_ok _ _ rfl) rfl rfl (Try.tab_ok _ _ rfl) rfl rfl (by conv => lhs; whnf)) rfl ?_
          refine AOps.s0 (Cert.loadV (Try.tab_ok _ _ rfl) rfl rfl rfl) rfl ?_
          refine AOps.s0 (Cert.binI rfl rfl rfl) rfl ?_
          refine AOps.s0 (Cert.move (by conv => lhs; whnf)) rfl ?_
          refine AOps.gC rfl rfl (fun hC => Cert.fieldV (Try.tab_ok _ _ rfl) rfl rfl (Try.tab_ok _ _ rfl) rfl rfl (by conv => lhs; whnf)) rfl ?_
          refine AOps.gC rfl rfl (fun hC => Cert.ungd (k := 30) rfl (by first | exact hC | exact andL hC | exact andL (andL hC) | exact andL (andL (andL hC)) | exact andR hC | simp_all) (Cert.loadV (Try.tab_ok _ _ rfl) rfl rfl rfl)) rfl ?_
          refine AOps.gC rfl rfl (fun hC => Cert.ungd (k := 31) rfl (by first | exact hC | exact andL hC | exact andL (andL hC) | exact andL (andL (andL hC)) | exact andR hC | simp_all) (Cert.binI rfl rfl rfl)) rfl ?_
          refine AOps.s0 (Cert.pickAnd rfl rfl (fun h => by first | exact h | exact notT h | exact andI hC h | exact andI hC (notT h) | simp_all) rfl) rfl ?_
          refine AOps.s0 (Cert.assign (by conv => lhs; whnf)) rfl ?_
          refine AOps.nil ?_
          refine hK14 _ ?_
          clear hK14 K14
          refine AWp.seqK fun K15 hK15 => ?_
          refine AWp.region ?_
          refine AOps.s0 (Cert.fieldV (Try.tab_ok _ _ rfl) rfl rfl (Try.tab_ok _ _ rfl) rfl rfl (by conv => lhs; whnf)) rfl ?_
          refine AOps.s0 (Cert.loadV (Try.tab_ok _ _ rfl) rfl rfl rfl) rfl ?_
          refine AOps.s0 (Cert.move (by conv => lhs; whnf)) rfl ?_
          obtain ⟨x16, gx16, hE⟩ := bindO_some hE
          refine AOps.s0 (Cert.callP rfl rfl (fun H => fields_argsOf_walk gx16 H)) rfl ?_
          refine AOps.s0 (Cert.assign (by conv => lhs; whnf)) rfl ?_
          refine AOps.nil ?_
          refine hK15 _ ?_
          clear hK15 K15
          refine AWp.seqJH (KeepsT.cons (k := 0) (by conv => lhs; whnf) (KeepsT.cons (k := 3) (by conv => lhs; whnf) (KeepsT.cons (k := 4) (by conv => lhs; whnf) (KeepsT.cons (k := 6) (by conv => lhs; whnf) (KeepsT.cons (k := 7) (by conv => lhs; whnf) (KeepsT.cons (k := 10) (by conv => lhs; whnf) (KeepsT.cons (k := 11) (by conv => lhs; whnf) (KeepsT.cons (k := 19) (by conv => lhs; whnf) (KeepsT.cons (k := 20) (by conv => lhs; whnf) (KeepsT.cons (k := 21) (by conv => lhs; whnf) KeepsT.nil)))))))))) (fun (z : (Sl TInput)) => [(13, .a (.d (Sl.d 10 TInput.c none z)))]) (fun z => ((H.set c0_2 (some (.tok 2 y6_c0.Fout.l.length))).set c0 (some (.cells (Fields_checker.cg (some c0_2) y6_c0))))) (fun z => fields_checker_dirs_j17 a0 a1 a2 a3 a4 n4 s21_5 y6_c0 x13 x16 ((fields_checker_dirs_l4 a0 a1 a2 a3 a4 n4)) z = some r) ?_ ?_
          · intro K17 hK17
            refine AWp.seqK fun K42 hK42 => ?_
            refine AWp.region ?_
            refine AOps.s0 (Cert.fieldV (Try.tab_ok _ _ rfl) rfl rfl (Try.tab_ok _ _ rfl) rfl rfl (by conv => lhs; whnf)) rfl ?_
            refine AOps.s0 (Cert.loadV (Try.tab_ok _ _ rfl) rfl rfl rfl) rfl ?_
            refine AOps.s0 (Cert.binS rfl rfl rfl) rfl ?_
            refine AOps.s0 (Cert.move (by conv => lhs; whnf)) rfl ?_
            refine AOps.gC rfl rfl (fun hC => Cert.move (by conv => lhs; whnf)) rfl ?_
            refine AOps.s0 (Cert.pickAnd rfl rfl (fun h => by first | exact h | exact notT h | exact andI hC h | exact andI hC (notT h) | simp_all) rfl) rfl ?_
            refine AOps.s0 (Cert.move (by conv => lhs; whnf)) rfl ?_
            refine AOps.gC rfl rfl (fun hC => Cert.loadV (Try.tab_ok _ _ rfl) rfl rfl rfl) rfl ?_
            obtain ⟨x43, gx43, hE⟩ := guardO_some hE
            refine AOps.gC rfl rfl (fun hC => Cert.ungd (k := 45) rfl (by first | exact hC | exact andL hC | exact andL (andL hC) | exact andL (andL (andL hC)) | exact andR hC | simp_all) (Cert.callP rfl rfl (fun H => typeref_IsList_walk (gx43 hC) H))) rfl ?_
            refine AOps.gC rfl rfl (fun hC => Cert.ungd (k := 46) rfl (by first | exact hC | exact andL hC | exact andL (andL hC) | exact andL (andL (andL hC)) | exact andR hC | simp_all) (Cert.notB rfl)) rfl ?_
            refine AOps.s0 (Cert.pickAnd rfl rfl (fun h => by first | exact h | exact notT h | exact andI hC h | exact andI hC (notT h) | simp_all) rfl) rfl ?_
            refine AOps.nil ?_
            refine hK42 _ ?_
            clear hK42 K42
            refine AWp.cond rfl (fun hc44 => ?_) (fun hc44 => ?_)
            · have hE := condT hc44 hE
              try dsimp only at hc44
              refine AWp.region ?_
              refine AOps.s0 (Cert.assignNil (k' := 10) rfl) rfl ?_
              refine AOps.nil ?_
              exact hK17 _ (Sl.nil : Sl TInput) (Weak.to (by repeat (first | exact Keeps.nil | refine Keeps.c rfl rfl ?_ | refine Keeps.c (by (first | (first | rfl | ((conv => lhs; whnf); first | (simp [cellsA, faultsT, faultsD, namesD, Fault.mk_c, Nat.add_assoc, empty_append, Bool.and_assoc]; done) | (simp [cellsA, faultsT, faultsD, namesD, Nat.add_assoc, empty_append, Bool.and_assoc]; repeat (first | rfl | constructor)))) | rfl | (simp only [get_same, ev]; done) | (simp [*, cellsA]; done) | (show V.a (A.d (D.slice _ _ _ _)) = V.a (A.d (D.slice _ _ _ _)); simp [*, cellsA]; done))) rfl ?_)) (by repeat (first | exact Pfx.nil | apply Pfx.cons)) (by first | rfl | (first | rfl | (simp only [Heap.set_set, List.length_append, List.length_nil, List.length_cons, List.length_map, List.length_singleton, Nat.zero_add]; done) | (simp [Heap.set_set, Nat.add_assoc]; done)) | (((funext n; simp only [Heap.set]; (repeat' split) <;> simp_all)) <;> first | rfl | exact ⟨rfl, rfl⟩))) hE
            · have hE := condF hc44 hE
              try dsimp only at hc44
              refine AWp.skip ?_
              exact hK17 _ x16 (Weak.to (by repeat (first | exact Keeps.nil | refine Keeps.c rfl rfl ?_ | refine Keeps.c (by (first | (first | rfl | ((conv => lhs; whnf); first | (simp [cellsA, faultsT, faultsD, namesD, Fault.mk_c, Nat.add_assoc, empty_append, Bool.and_assoc]; done) | (simp [cellsA, faultsT, faultsD, namesD, Nat.add_assoc, empty_append, Bool.and_assoc]; repeat (first | rfl | constructor)))) | rfl | (simp only [get_same, ev]; done) | (simp [*, cellsA]; done) | (show V.a (A.d (D.slice _ _ _ _)) = V.a (A.d (D.slice _ _ _ _)); simp [*, cellsA]; done))) rfl ?_)) (by repeat (first | exact Pfx.nil | apply Pfx.cons)) (by first | rfl | (first | rfl | (simp only [Heap.set_set, List.length_append, List.length_nil, List.length_cons, List.length_map, List.length_singleton, Nat.zero_add]; done) | (simp [Heap.set_set, Nat.add_assoc]; done)) | (((funext n; simp only [Heap.set]; (repeat' split) <;> simp_all)) <;> first | rfl | exact ⟨rfl, rfl⟩))) hE
          · rintro s13_18 hE
            try dsimp only at hE
            unfold fields_checker_dirs_j17 at hE
            refine AWp.seqK fun K19 hK19 => ?_
            refine AWp.seqK fun K20 hK20 => ?_
            refine AWp.region ?_
            refine AOps.s0 (Cert.move (by conv => lhs; whnf)) rfl ?_
            refine AOps.s0 (Cert.eqNil (Try.tab_ok _ _ rfl) rfl rfl) rfl ?_
            refine AOps.s0 (Cert.move (by conv => lhs; whnf)) rfl ?_
            refine AOps.gC rfl rfl (fun hC => Cert.fieldV (Try.tab_ok _ _ rfl) rfl rfl (Try.tab_ok _ _ rfl) rfl rfl (by conv => lhs; whnf)) rfl ?_
            refine AOps.gC rfl rfl (fun hC => Cert.ungd (k := 52) rfl (by first | exact hC | exact andL hC | exact andL (andL hC) | exact andL (andL (andL hC)) | exact andR hC | simp_all) (Cert.loadV (Try.tab_ok _ _ rfl) rfl rfl rfl)) rfl ?_
            refine AOps.gC rfl rfl (fun hC => Cert.move (by conv => lhs; whnf)) rfl ?_
            obtain ⟨x21, gx21, hE⟩ := guardO_some hE
            refine AOps.gC rfl rfl (fun hC => Cert.ungd (k := 53) rfl (by first | exact hC | exact andL hC | exact andL (andL hC) | exact andL (andL (andL hC)) | exact andR hC | simp_all) (Cert.ungd (k := 54) rfl (by first | exact hC | exact andL hC | exact andL (andL hC) | exact andL (andL (andL hC)) | exact andR hC | simp_all) (Cert.partM (f := TDir.c) (l := none) (r := (some ((s21_5 : Nat) : Int))) (Try.tab_ok _ _ rfl) rfl (Try.tab_ok _ _ rfl) rfl rfl trivial rfl (gx21 hC)))) rfl ?_
            refine AOps.gC rfl rfl (fun hC => Cert.makeFunc rfl) rfl ?_
            obtain ⟨x22, gx22, hE⟩ := guardO_some hE
            refine AOps.gC rfl rfl (fun hC => Cert.ungd (k := 55) rfl (by first | exact hC | exact andL hC | exact andL (andL hC) | exact andL (andL (andL hC)) | exact andR hC | simp_all) (Cert.ungd (k := 56) rfl (by first | exact hC | exact andL hC | exact andL (andL hC) | exact andL (andL (andL hC)) | exact andR hC | simp_all) (Cert.callP rfl rfl (fun H => slices_ContainsFunc_apiDirapiDir_walk (gx22 hC) H (fun _ _ hx => fields_checker_dirs_1_walk hx))))) rfl ?_
            refine AOps.s0 (Cert.pickOr rfl rfl rfl (fun h => by first | exact h | exact notT h | exact andI hC h | exact andI hC (notT h) | simp_all)) rfl ?_
            refine AOps.nil ?_
            refine hK20 _ ?_
            clear hK20 K20
            refine AWp.cond rfl (fun hc23 => ?_) (fun hc23 => ?_)
            · have hE := condT hc23 hE
              try dsimp only at hc23
              refine AWp.seqK fun K24 hK24 => ?_
              refine AWp.region ?_
              refine AOps.s0 (Cert.move (by conv => lhs; whnf)) rfl ?_
              refine AOps.s0 (Cert.move (by conv => lhs; whnf)) rfl ?_
              obtain ⟨x25, gx25, hE⟩ := bindO_some hE
              refine AOps.sH (Cert.callH rfl rfl (fields_checker_add_walk gx25 _ (by (first | assumption | exact Heap.set_same _ _ _ | ((repeat (refine (Heap.set_other _ _ (by first | assumption | (apply Ne.symm; assumption))).trans ?_)); first | assumption | exact Heap.set_same _ _ _) | (simp only [Heap.set_set, Heap.set_same]; done) | (simp [Heap.set, *]; done))) (by (first | assumption | exact Heap.set_same _ _ _ | ((repeat (refine (Heap.set_other _ _ (by first | assumption | (apply Ne.symm; assumption))).trans ?_)); first | assumption | exact Heap.set_same _ _ _) | (simp only [Heap.set_set, Heap.set_same]; done) | (simp [Heap.set, *]; done))))) rfl ?_
              refine AOps.heq (h' := ((H.set c0_2 (some (.tok 2 x25.Fout.l.length))).set c0 (some (.cells (Fields_checker.cg (some c0_2) x25))))) (by first | rfl | (rw [Heap.set_set]; rfl) | (funext n_; simp only [Heap.set]; (repeat' split) <;> first | rfl | (exfalso; simp_all; done) | (simp_all; done))) ?_
              refine AOps.nil ?_
              refine hK24 _ ?_
              clear hK24 K24
              refine AWp.exit ?_
              exact hK10 _ x25 (Weak.to (by repeat (first | exact Keeps.nil | refine Keeps.c rfl rfl ?_ | refine Keeps.c (by (first | (first | rfl | ((conv => lhs; whnf); first | (simp [cellsA, faultsT, faultsD, namesD, Fault.mk_c, Nat.add_assoc, empty_append, Bool.and_assoc]; done) | (simp [cellsA, faultsT, faultsD, namesD, Nat.add_assoc, empty_append, Bool.and_assoc]; repeat (first | rfl | constructor)))) | rfl | (simp only [get_same, ev]; done) | (simp [*, cellsA]; done) | (show V.a (A.d (D.slice _ _ _ _)) = V.a (A.d (D.slice _ _ _ _)); simp [*, cellsA]; done))) rfl ?_)) (by repeat (first | exact Pfx.nil | apply Pfx.cons)) (by first | rfl | (first | rfl | (simp only [Heap.set_set, List.length_append, List.length_nil, List.length_cons, List.length_map, List.length_singleton, Nat.zero_add]; done) | (simp [Heap.set_set, Nat.add_assoc]; done)) | (((funext n; simp only [Heap.set]; (repeat' split) <;> simp_all)) <;> first | rfl | exact ⟨rfl, rfl⟩))) hE
            · have hE := condF hc23 hE
              try dsimp only at hc23
              refine AWp.skip ?_
              refine hK19 _ ?_
              clear hK19 K19
              refine AWp.seqK fun K26 hK26 => ?_
              refine AWp.region ?_
              refine AOps.s0 (Cert.move (by conv => lhs; whnf)) rfl ?_
              refine AOps.s0 (Cert.move (by conv => lhs; whnf)) rfl ?_
              refine AOps.s0 (Cert.fieldV (Try.tab_ok _ _ rfl) rfl rfl (Try.tab_ok _ _ rfl) rfl rfl (by conv => lhs; whnf)) rfl ?_
              refine AOps.s0 (Cert.loadV (Try.tab_ok _ _ rfl) rfl rfl rfl) rfl ?_
              refine AOps.s0 (Cert.fieldV (Try.tab_ok _ _ rfl) rfl rfl (Try.tab_ok _ _ rfl) rfl rfl (by conv => lhs; whnf)) rfl ?_
              refine AOps.s0 (Cert.loadV (Try.tab_ok _ _ rfl) rfl rfl rfl) rfl ?_
              refine AOps.s0 (Cert.binS rfl rfl rfl) rfl ?_
              refine AOps.s0 (Cert.move (by conv => lhs; whnf)) rfl ?_
              refine AOps.gC rfl rfl (fun hC => Cert.fieldV (Try.tab_ok _ _ rfl) rfl rfl (Try.tab_ok _ _ rfl) rfl rfl (by conv => lhs; whnf)) rfl ?_
              refine AOps.gC rfl rfl (fun hC => Cert.ungd (k := 70) rfl (by first | exact hC | exact andL hC | exact andL (andL hC) | exact andL (andL (andL hC)) | exact andR hC | simp_all) (Cert.loadV (Try.tab_ok _ _ rfl) rfl rfl rfl)) rfl ?_
              refine AOps.gC rfl rfl (fun hC => Cert.ungd (k := 71) rfl (by first | exact hC | exact andL hC | exact andL (andL hC) | exact andL (andL (andL hC)) | exact andR hC | simp_all) (Cert.binS rfl rfl rfl)) rfl ?_
              refine AOps.s0 (Cert.pickOr rfl rfl rfl (fun h => by first | exact h | exact notT h | exact andI hC h | exact andI hC (notT h) | simp_all)) rfl ?_
              refine AOps.s0 (Cert.move (by conv => lhs; whnf)) rfl ?_
              obtain ⟨x27, gx27, hE⟩ := bindO_some hE
              refine AOps.sH (Cert.callH rfl rfl (fields_checker_known_walk gx27 _ (by (first | assumption | exact Heap.set_same _ _ _ | ((repeat (refine (Heap.set_other _ _ (by first | assumption | (apply Ne.symm; assumption))).trans ?_)); first | assumption | exact Heap.set_same _ _ _) | (simp only [Heap.set_set, Heap.set_same]; done) | (simp [Heap.set, *]; done))) (by (first | assumption | exact Heap.set_same _ _ _ | ((repeat (refine (Heap.set_other _ _ (by first | assumption | (apply Ne.symm; assumption))).trans ?_)); first | assumption | exact Heap.set_same _ _ _) | (simp only [Heap.set_set, Heap.set_same]; done) | (simp [Heap.set, *]; done))))) rfl ?_
              refine AOps.heq (h' := ((H.set c0_2 (some (.tok 2 x27.Fout.l.length))).set c0 (some (.cells (Fields_checker.cg (some c0_2) x27))))) (by first | rfl | (rw [Heap.set_set]; rfl) | (funext n_; simp only [Heap.set]; (repeat' split) <;> first | rfl | (exfalso; simp_all; done) | (simp_all; done))) ?_
              refine AOps.nil ?_
              refine hK26 _ ?_
              clear hK26 K26
              refine AWp.seqK fun K28 hK28 => ?_
              refine AWp.region ?_
              refine AOps.s0 (Cert.move (by conv => lhs; whnf)) rfl ?_
              refine AOps.sLen (f := TInput.c) (s := s13_18) (Try.tab_ok _ _ rfl) rfl rfl rfl rfl fun hL29 => ?_
              refine AOps.s0 (Cert.move (by conv => lhs; whnf)) rfl ?_
              refine AOps.nil ?_
              refine hK28 _ ?_
              clear hK28 K28
              refine AWp.block ?_
              refine AWp.loopH (KeepsT.cons (k := 0) (by conv => lhs; whnf) (KeepsT.cons (k := 3) (by conv => lhs; whnf) (KeepsT.cons (k := 4) (by conv => lhs; whnf) (KeepsT.cons (k := 6) (by conv => lhs; whnf) (KeepsT.cons (k := 7) (by conv => lhs; whnf) (KeepsT.cons (k := 11) (by conv => lhs; whnf) (KeepsT.cons (k := 19) (by conv => lhs; whnf) (KeepsT.cons (k := 20) (by conv => lhs; whnf) (KeepsT.cons (k := 21) (by conv => lhs; whnf) (KeepsT.cons (k := 76) (by conv => lhs; whnf) (KeepsT.cons (k := 77) (by conv => lhs; whnf) KeepsT.nil))))))))))) (fun (z : Nat × Nat × Fields_checker) => [(78, .a (.d (.int .i64 ((z.2.1 : Nat) : Int))))]) (fun z => ((H.set c0_2 (some (.tok 2 z.2.2.Fout.l.length))).set c0 (some (.cells (Fields_checker.cg (some c0_2) z.2.2))))) (fun z => z.1) (fun z => fields_checker_dirs_l30 a0 a1 a2 a3 a4 n4 s21_5 y6_c0 x13 x16 s13_18 x21 x22 x27 ((fields_checker_dirs_l4 a0 a1 a2 a3 a4 n4)) z.1 z.2.1 z.2.2 = some r) (F0, 0, x27) hE (Weak.to (by repeat (first | exact Keeps.nil | refine Keeps.c rfl rfl ?_ | refine Keeps.c (by (first | (first | rfl | ((conv => lhs; whnf); first | (simp [cellsA, faultsT, faultsD, namesD, Fault.mk_c, Nat.add_assoc, empty_append, Bool.and_assoc]; done) | (simp [cellsA, faultsT, faultsD, namesD, Nat.add_assoc, empty_append, Bool.and_assoc]; repeat (first | rfl | constructor)))) | rfl | (simp only [get_same, ev]; done) | (simp [*, cellsA]; done) | (show V.a (A.d (D.slice _ _ _ _)) = V.a (A.d (D.slice _ _ _ _)); simp [*, cellsA]; done))) rfl ?_)) (by repeat (first | exact Pfx.nil | apply Pfx.cons)) (by first | rfl | (first | rfl | (simp only [Heap.set_set, List.length_append, List.length_nil, List.length_cons, List.length_map, List.length_singleton, Nat.zero_add]; done) | (simp [Heap.set_set, Nat.add_assoc]; done)) | (((funext n; simp only [Heap.set]; (repeat' split) <;> simp_all)) <;> first | rfl | exact ⟨rfl, rfl⟩))) ?_
              rintro ⟨n30, s78_31, y32_c0⟩ hE K30 hK30
              try dsimp only at hE
              cases n30 with
              | zero => cases hE
              | succ n30 =>
                  rw [fields_checker_dirs_l30] at hE
                  refine AWp.seqK fun K33 hK33 => ?_
                  refine AWp.region ?_
                  refine AOps.s0 (Cert.binI rfl rfl rfl) rfl ?_
                  refine AOps.nil ?_
                  refine hK33 _ ?_
                  clear hK33 K33
                  refine AWp.seqK fun K34 hK34 => ?_
                  refine AWp.cond rfl (fun hc35 => ?_) (fun hc35 => ?_)
                  · have hE := condT hc35 hE
                    try dsimp only at hc35
                    have hf35 := of_decide_eq_true hc35
                    refine AWp.skip ?_
                    refine hK34 _ ?_
                    clear hK34 K34
                    refine AWp.seqK fun K36 hK36 => ?_
                    refine AWp.block ?_
                    refine AWp.seqK fun K37 hK37 => ?_
                    refine AWp.region ?_
                    obtain ⟨x38, gx38, hE⟩ := bindO_some hE
                    refine AOps.s0 (Cert.idxMn (f := TInput.c) (n := s78_31) (Try.tab_ok _ _ rfl) rfl (Try.tab_ok _ _ rfl) rfl rfl rfl gx38) rfl ?_
                    refine AOps.s0 (Cert.loadV (Try.tab_ok _ _ rfl) rfl rfl rfl) rfl ?_
                    refine AOps.sL (Cert.allocL (Try.tab_ok _ _ rfl) rfl (by repeat (first | exact Snoc.nil | apply Snoc.cons))) rfl ?_
                    refine AOps.sLn (Cert.storeLF (Try.tab_ok _ _ rfl) rfl rfl rfl rfl rfl (by repeat (first | exact SetAt.zero | apply SetAt.succ))) ?_
                    refine AOps.nil ?_
                    refine hK37 _ ?_
                    clear hK37 K37
                    refine AWp.freeze 15 _ rfl (by repeat (first | exact Snoc.nil | apply Snoc.cons)) (Keeps.c (k := 0) (by conv => lhs; whnf) (by rfl) (Keeps.c (k := 3) (by conv => lhs; whnf) (by rfl) (Keeps.c (k := 4) (by conv => lhs; whnf) (by rfl) (Keeps.c (k := 6) (by conv => lhs; whnf) (by rfl) (Keeps.c (k := 7) (by conv => lhs; whnf) (by rfl) (Keeps.c (k := 11) (by conv => lhs; whnf) (by rfl) (Keeps.c (k := 19) (by conv => lhs; whnf) (by rfl) (Keeps.c (k := 20) (by conv => lhs; whnf) (by rfl) (Keeps.c (k := 21) (by conv => lhs; whnf) (by rfl) (Keeps.c (k := 76) (by conv => lhs; whnf) (by rfl) (Keeps.c (k := 77) (by conv => lhs; whnf) (by rfl) (Keeps.c (k := 78) (by conv => lhs; whnf) (by rfl) Keeps.nil)))))))))))) ?_
                    refine AWp.seqK fun K39 hK39 => ?_
                    refine AWp.region ?_
                    refine AOps.s0 (Cert.fieldV (Try.tab_ok _ _ rfl) rfl rfl (Try.tab_ok _ _ rfl) rfl rfl (by conv => lhs; whnf)) rfl ?_
                    refine AOps.s0 (Cert.loadV (Try.tab_ok _ _ rfl) rfl rfl rfl) rfl ?_
                    refine AOps.s0 (Cert.fieldV (Try.tab_ok _ _ rfl) rfl rfl (Try.tab_ok _ _ rfl) rfl rfl (by conv => lhs; whnf)) rfl ?_
                    refine AOps.s0 (Cert.loadV (Try.tab_ok _ _ rfl) rfl rfl rfl) rfl ?_
                    obtain ⟨x40, gx40, hE⟩ := bindO_some hE
                    refine AOps.s0 (Cert.callP rfl rfl (fun H => fields_given_walk gx40 H)) rfl ?_
                    refine AOps.s0 (Cert.move (by conv => lhs; whnf)) rfl ?_
                    refine AOps.s0 (Cert.extract rfl rfl) rfl ?_
                    refine AOps.s0 (Cert.extract rfl rfl) rfl ?_
                    refine AOps.sL (Cert.allocL (Try.tab_ok _ _ rfl) rfl (by repeat (first | exact Snoc.nil | apply Snoc.cons))) rfl ?_
                    refine AOps.sLn (Cert.storeLF (Try.tab_ok _ _ rfl) rfl rfl rfl rfl rfl (by repeat (first | exact SetAt.zero | apply SetAt.succ))) ?_
                    refine AOps.s0 (Cert.assign (by conv => lhs; whnf)) rfl ?_
                    refine AOps.nil ?_
                    refine hK39 _ ?_
                    clear hK39 K39
                    refine AWp.freeze 16 _ rfl (by repeat (first | exact Snoc.nil | apply Snoc.cons)) (Keeps.c (k := 0) (by conv => lhs; whnf) (by rfl) (Keeps.c (k := 3) (by conv => lhs; whnf) (by rfl) (Keeps.c (k := 4) (by conv => lhs; whnf) (by rfl) (Keeps.c (k := 6) (by conv => lhs; whnf) (by rfl) (Keeps.c (k := 7) (by conv => lhs; whnf) (by rfl) (Keeps.c (k := 11) (by conv => lhs; whnf) (by rfl) (Keeps.c (k := 17) (by conv => lhs; whnf) (by rfl) (Keeps.c (k := 19) (by conv => lhs; whnf) (by rfl) (Keeps.c (k := 20) (by conv => lhs; whnf) (by rfl) (Keeps.c (k := 21) (by conv => lhs; whnf) (by rfl) (Keeps.c (k := 76) (by conv => lhs; whnf) (by rfl) (Keeps.c (k := 77) (by conv => lhs; whnf) (by rfl) (Keeps.c (k := 78) (by conv => lhs; whnf) (by rfl) Keeps.nil))))))))))))) ?_
                    refine AWp.region ?_
                    refine AOps.s0 (Cert.move (by conv => lhs; whnf)) rfl ?_
                    refine AOps.s0 (Cert.move (by conv => lhs; whnf)) rfl ?_
                    refine AOps.s0 (Cert.notB rfl) rfl ?_
                    refine AOps.s0 (Cert.move (by conv => lhs; whnf)) rfl ?_
                    obtain ⟨x41, gx41, hE⟩ := bindO_some hE
                    refine AOps.sH (Cert.callH rfl rfl (fields_checker_add_walk gx41 _ (by (first | assumption | exact Heap.set_same _ _ _ | ((repeat (refine (Heap.set_other _ _ (by first | assumption | (apply Ne.symm; assumption))).trans ?_)); first | assumption | exact Heap.set_same _ _ _) | (simp only [Heap.set_set, Heap.set_same]; done) | (simp [Heap.set, *]; done))) (by (first | assumption | exact Heap.set_same _ _ _ | ((repeat (refine (Heap.set_other _ _ (by first | assumption | (apply Ne.symm; assumption))).trans ?_)); first | assumption | exact Heap.set_same _ _ _) | (simp only [Heap.set_set, Heap.set_same]; done) | (simp [Heap.set, *]; done))))) rfl ?_
                    refine AOps.heq (h' := ((H.set c0_2 (some (.tok 2 x41.Fout.l.length))).set c0 (some (.cells (Fields_checker.cg (some c0_2) x41))))) (by first | rfl | (rw [Heap.set_set]; rfl) | (funext n_; simp only [Heap.set]; (repeat' split) <;> first | rfl | (exfalso; simp_all; done) | (simp_all; done))) ?_
                    refine AOps.nil ?_
                    refine hK36 _ ?_
                    clear hK36 K36
                    refine AWp.region ?_
                    refine AOps.s0 (Cert.addI rfl rfl (by first | omega | (dsimp only; omega)) (by first | omega | (dsimp only; omega))) rfl ?_
                    refine AOps.s0 (Cert.move (by conv => lhs; whnf)) rfl ?_
                    refine AOps.nil ?_
                    exact hK30 _ (n30, (s78_31 + 1), x41) (Weak.to (by repeat (first | exact Keeps.nil | refine Keeps.c rfl rfl ?_ | refine Keeps.c (by (first | (first | rfl | ((conv => lhs; whnf); first | (simp [cellsA, faultsT, faultsD, namesD, Fault.mk_c, Nat.add_assoc, empty_append, Bool.and_assoc]; done) | (simp [cellsA, faultsT, faultsD, namesD, Nat.add_assoc, empty_append, Bool.and_assoc]; repeat (first | rfl | constructor)))) | rfl | (simp only [get_same, ev]; done) | (simp [*, cellsA]; done) | (show V.a (A.d (D.slice _ _ _ _)) = V.a (A.d (D.slice _ _ _ _)); simp [*, cellsA]; done))) rfl ?_)) (by repeat (first | exact Pfx.nil | apply Pfx.cons)) (by first | rfl | (first | rfl | (simp only [Heap.set_set, List.length_append, List.length_nil, List.length_cons, List.length_map, List.length_singleton, Nat.zero_add]; done) | (simp [Heap.set_set, Nat.add_assoc]; done)) | (((funext n; simp only [Heap.set]; (repeat' split) <;> simp_all)) <;> first | rfl | exact ⟨rfl, rfl⟩))) hE (Nat.lt_succ_self _)
                  · have hE := condF hc35 hE
                    try dsimp only at hc35
                    refine AWp.exit ?_
                    exact hK10 _ y32_c0 (Weak.to (by repeat (first | exact Keeps.nil | refine Keeps.c rfl rfl ?_ | refine Keeps.c (by (first | (first | rfl | ((conv => lhs; whnf); first | (simp [cellsA, faultsT, faultsD, namesD, Fault.mk_c, Nat.add_assoc, empty_append, Bool.and_assoc]; done) | (simp [cellsA, faultsT, faultsD, namesD, Nat.add_assoc, empty_append, Bool.and_assoc]; repeat (first | rfl | constructor)))) | rfl | (simp only [get_same, ev]; done) | (simp [*, cellsA]; done) | (show V.a (A.d (D.slice _ _ _ _)) = V.a (A.d (D.slice _ _ _ _)); simp [*, cellsA]; done))) rfl ?_)) (by repeat (first | exact Pfx.nil | apply Pfx.cons)) (by first | rfl | (first | rfl | (simp only [Heap.set_set, List.length_append, List.length_nil, List.length_cons, List.length_map, List.length_singleton, Nat.zero_add]; done) | (simp [Heap.set_set, Nat.add_assoc]; done)) | (((funext n; simp only [Heap.set]; (repeat' split) <;> simp_all)) <;> first | rfl | exact ⟨rfl, rfl⟩))) hE
        · rintro y11_c0 hE
          try dsimp only at hE
          unfold fields_checker_dirs_j10 at hE
          refine AWp.region ?_
          refine AOps.s0 (Cert.addI rfl rfl (by first | omega | (dsimp only; omega)) (by first | omega | (dsimp only; omega))) rfl ?_
          refine AOps.s0 (Cert.move (by conv => lhs; whnf)) rfl ?_
          refine AOps.nil ?_
          exact hK4 _ (n4, (s21_5 + 1), y11_c0) (Weak.to (by repeat (first | exact Keeps.nil | refine Keeps.c rfl rfl ?_ | refine Keeps.c (by (first | (first | rfl | ((conv => lhs; whnf); first | (simp [cellsA, faultsT, faultsD, namesD, Fault.mk_c, Nat.add_assoc, empty_append, Bool.and_assoc]; done) | (simp [cellsA, faultsT, faultsD, namesD, Nat.add_assoc, empty_append, Bool.and_assoc]; repeat (first | rfl | constructor)))) | rfl | (simp only [get_same, ev]; done) | (simp [*, cellsA]; done) | (show V.a (A.d (D.slice _ _ _ _)) = V.a (A.d (D.slice _ _ _ _)); simp [*, cellsA]; done))) rfl ?_)) (by repeat (first | exact Pfx.nil | apply Pfx.cons)) (by first | rfl | (first | rfl | (simp only [Heap.set_set, List.length_append, List.length_nil, List.length_cons, List.length_map, List.length_singleton, Nat.zero_add]; done) | (simp [Heap.set_set, Nat.add_assoc]; done)) | (((funext n; simp only [Heap.set]; (repeat' split) <;> simp_all)) <;> first | rfl | exact ⟨rfl, rfl⟩))) hE (Nat.lt_succ_self _)
      · have hE := condF hc9 hE
        try dsimp only at hc9
        refine AWp.exit ?_
        repeat (first | refine xBlock_normal ?_ | refine xThen_exit ?_ | refine xBlock_exit ?_)
        obtain rfl := Option.some.inj hE
        refine retQ.normalF ((H.set c0_2 (some (.tok 2 y6_c0.Fout.l.length))).set c0 (some (.cells (Fields_checker.cg (some c0_2) y6_c0)))) (xs := []) rfl ⟨rfl, rfl⟩ ?_
        exact (fun _ _ h => h)
def internal_stringslite_HasPrefix (a0 : Bs) (a1 : Bs) : Option Bool := guardO ((decide (((a1.length : Nat) : Int) ≤ ((a0.length : Nat) : Int)))) (cutC a0 none (some ((a1.length : Nat) : Int))) ([] : Bs) fun x5 => some ((decide (((a1.length : Nat) : Int) ≤ ((a0.length : Nat) : Int))) && ((x5 == a1)))
set_option maxRecDepth 100000 in
set_option maxHeartbeats 2000000 in
theorem internal_stringslite_HasPrefix_walk {a0 : Bs} {a1 : Bs}   {r : Bool} (hE : internal_stringslite_HasPrefix a0 a1 = some r) (H : Heap)  : ACalls Try.prog 86 [.d (.str a0), .d (.str a1)] H fun v h' => v = .a (.d (.bool r)) ∧ h' = H := by
  unfold internal_stringslite_HasPrefix at hE
  refine ACalls.of_wp (fn := Try.f86) (c := _) Try.tab_ok (fun _ _ => Try.call86 _ _) Try.func86 rfl (n := 18) rfl (rs := [.tmp 4]) rfl rfl ?_
  refine AWp.seqK fun K1 hK1 => ?_
  refine AWp.region ?_
  refine AOps.s0 (Cert.assign (by conv => lhs; whnf)) rfl ?_
  refine AOps.nil ?_
  refine hK1 _ ?_
  clear hK1 K1
  refine AWp.seqK fun K2 hK2 => ?_
  refine AWp.region ?_
  refine AOps.s0 (Cert.move (by conv => lhs; whnf)) rfl ?_
  refine AOps.sLenS (Try.tab_ok _ _ rfl) rfl rfl rfl rfl fun hL3 => ?_
  refine AOps.s0 (Cert.move (by conv => lhs; whnf)) rfl ?_
  refine AOps.sLenS (Try.tab_ok _ _ rfl) rfl rfl rfl rfl fun hL4 => ?_
  refine AOps.s0 (Cert.binI rfl rfl rfl) rfl ?_
  refine AOps.s0 (Cert.move (by conv => lhs; whnf)) rfl ?_
  refine AOps.gC rfl rfl (fun hC => Cert.move (by conv => lhs; whnf)) rfl ?_
  refine AOps.gC rfl rfl (fun hC => Cert.move (by conv => lhs; whnf)) rfl ?_
  refine AOps.gC rfl rfl (fun hC => Cert.ungd (k := 12) rfl (by first | exact hC | exact andL hC | exact andL (andL hC) | exact andL (andL (andL hC)) | exact andR hC | simp_all) (Cert.lenS (Try.tab_ok _ _ rfl) rfl rfl rfl)) rfl ?_
  obtain ⟨x5, gx5, hE⟩ := guardO_some hE
  refine AOps.gC rfl rfl (fun hC => Cert.ungd (k := 11) rfl (by first | exact hC | exact andL hC | exact andL (andL hC) | exact andL (andL (andL hC)) | exact andR hC | simp_all) (Cert.ungd (k := 13) rfl (by first | exact hC | exact andL hC | exact andL (andL hC) | exact andL (andL (andL hC)) | exact andR hC | simp_all) (Cert.cutM (l := none) (r := (some ((a1.length : Nat) : Int))) (Try.tab_ok _ _ rfl) rfl rfl trivial rfl (by simp) (gx5 hC)))) rfl ?_
  refine AOps.gC rfl rfl (fun hC => Cert.move (by conv => lhs; whnf)) rfl ?_
  refine AOps.gC rfl rfl (fun hC => Cert.ungd (k := 14) rfl (by first | exact hC | exact andL hC | exact andL (andL hC) | exact andL (andL (andL hC)) | exact andR hC | simp_all) (Cert.ungd (k := 15) rfl (by first | exact hC | exact andL hC | exact andL (andL hC) | exact andL (andL (andL hC)) | exact andR hC | simp_all) (Cert.binS rfl rfl rfl))) rfl ?_
  refine AOps.s0 (Cert.pickAnd rfl rfl (fun h => by first | exact h | exact notT h | exact andI hC h | exact andI hC (notT h) | simp_all) rfl) rfl ?_
  refine AOps.s0 (Cert.assign (by conv => lhs; whnf)) rfl ?_
  refine AOps.nil ?_
  refine hK2 _ ?_
  clear hK2 K2
  refine AWp.ret ?_
  repeat (first | refine xBlock_ret ?_ | refine xThen_ret ?_)
  obtain rfl := Option.some.inj hE
  refine retQ.retF H rfl ⟨rfl, rfl⟩ ?_
  exact (fun _ _ h => h)
def strings_HasPrefix (a0 : Bs) (a1 : Bs) : Option Bool := (internal_stringslite_HasPrefix a0 a1).bind fun x3 => some x3
set_option maxRecDepth 100000 in
set_option maxHeartbeats 2000000 in
theorem strings_HasPrefix_walk {a0 : Bs} {a1 : Bs}   {r : Bool} (hE : strings_HasPrefix a0 a1 = some r) (H : Heap)  : ACalls Try.prog 77 [.d (.str a0), .d (.str a1)] H fun v h' => v = .a (.d (.bool r)) ∧ h' = H := by
  unfold strings_HasPrefix at hE
  refine ACalls.of_wp (fn := Try.f77) (c := _) Try.tab_ok (fun _ _ => Try.call77 _ _) Try.func77 rfl (n := 8) rfl (rs := [.tmp 4]) rfl rfl ?_
  refine AWp.seqK fun K1 hK1 => ?_
  refine AWp.region ?_
  refine AOps.s0 (Cert.assign (by conv => lhs; whnf)) rfl ?_
  refine AOps.nil ?_
  refine hK1 _ ?_
  clear hK1 K1
  refine AWp.seqK fun K2 hK2 => ?_
  refine AWp.region ?_
  refine AOps.s0 (Cert.move (by conv => lhs; whnf)) rfl ?_
  refine AOps.s0 (Cert.move (by conv => lhs; whnf)) rfl ?_
  obtain ⟨x3, gx3, hE⟩ := bindO_some hE
  refine AOps.s0 (Cert.callP rfl rfl (fun H => internal_stringslite_HasPrefix_walk gx3 H)) rfl ?_
  refine AOps.s0 (Cert.assign (by conv => lhs; whnf)) rfl ?_
  refine AOps.nil ?_
  refine hK2 _ ?_
  clear hK2 K2
  refine AWp.ret ?_
  repeat (first | refine xBlock_ret ?_ | refine xThen_ret ?_)
  obtain rfl := Option.some.inj hE
  refine retQ.retF H rfl ⟨rfl, rfl⟩ ?_
  exact (fun _ _ h => h)
def text_Reserved (a0 : Bs) : Option Bool := (strings_HasPrefix a0 ([95, 95] : Bs)).bind fun x3 => some x3
set_option maxRecDepth 100000 in
set_option maxHeartbeats 2000000 in
theorem text_Reserved_walk {a0 : Bs}   {r : Bool} (hE : text_Reserved a0 = some r) (H : Heap)  : ACalls Try.prog 64 [.d (.str a0)] H fun v h' => v = .a (.d (.bool r)) ∧ h' = H := by
  unfold text_Reserved at hE
  refine ACalls.of_wp (fn := Try.f64) (c := _) Try.tab_ok (fun _ _ => Try.call64 _ _) Try.func64 rfl (n := 5) rfl (rs := [.tmp 2]) rfl rfl ?_
  refine AWp.seqK fun K1 hK1 => ?_
  refine AWp.region ?_
  refine AOps.s0 (Cert.assign (by conv => lhs; whnf)) rfl ?_
  refine AOps.nil ?_
  refine hK1 _ ?_
  clear hK1 K1
  refine AWp.seqK fun K2 hK2 => ?_
  refine AWp.region ?_
  refine AOps.s0 (Cert.move (by conv => lhs; whnf)) rfl ?_
  obtain ⟨x3, gx3, hE⟩ := bindO_some hE
  refine AOps.s0 (Cert.callP rfl rfl (fun H => strings_HasPrefix_walk gx3 H)) rfl ?_
  refine AOps.s0 (Cert.assign (by conv => lhs; whnf)) rfl ?_
  refine AOps.nil ?_
  refine hK2 _ ?_
  clear hK2 K2
  refine AWp.ret ?_
  repeat (first | refine xBlock_ret ?_ | refine xThen_ret ?_)
  obtain rfl := Option.some.inj hE
  refine retQ.retF H rfl ⟨rfl, rfl⟩ ?_
  exact (fun _ _ h => h)
end Go.Proofs
