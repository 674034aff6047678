import Derived.Test.YtmjbloiidajknaaDoorV5
set_option maxRecDepth 100000
set_option maxHeartbeats 2000000
set_option linter.unusedVariables false
set_option linter.unusedSimpArgs false
namespace Go.Proofs
open Go Go.Ab
open AOps Cert AWp
variable {lou : Lou}
def Z82_j14 (y10_l0 : TRef) (y11_l1 : TRef) (y12_l2 : TRef) (k_next_9 : TRef → TRef → TRef → TRef → Option (TRef × Bool)) (y15_l3 : TRef) : Option (TRef × Bool) := (Z70 y10_l0).bind fun x17 => (Z70 y11_l1).bind fun x19 => bif ((!x17.2) || (!x19.2)) then (some (y15_l3, true)) else ((appC 8 y15_l3.FWraps (⟨false, [(2 : Int)]⟩ : Sl Int)).bind fun x25 => k_next_9 x17.1 x19.1 y12_l2 (TRef.mk y15_l3.FName x25))
def Z82_l9  : Nat → TRef → TRef → TRef → TRef → Option (TRef × Bool)
 | 0, _, _, _, _ => none
 | n9 + 1, y10_l0, y11_l1, y12_l2, y13_l3 => (Z72 y10_l0).bind fun x27 => guardO (x27) (Z72 y11_l1) false fun x28 => bif (x27 && x28) then ((appC 8 y13_l3.FWraps (⟨false, [(1 : Int)]⟩ : Sl Int)).bind fun x30 => Z82_j14 y10_l0 y11_l1 y12_l2 ((Z82_l9  n9)) (TRef.mk y13_l3.FName x30)) else (Z82_j14 y10_l0 y11_l1 y12_l2 ((Z82_l9  n9)) y13_l3)
def Z82 (a0 : TRef) (a1 : TRef) : Option (TRef × Bool) := (Z81 a0 a1).bind fun x4 => bif (!x4) then (some ((TRef.mk ([] : Bs) (Sl.nil : Sl Int)), false)) else (Z82_l9 F0 a0 a1 TRef.zero (TRef.mk a0.FName (Sl.nil : Sl Int)))
theorem Z82_walk {a0 : TRef} {a1 : TRef}   {r : (TRef × Bool)} (hE : Z82 a0 a1 = some r) (H : Heap)  : ACalls Tryd.prog 23 [.agg (TRef.c a0), .agg (TRef.c a1)] H fun v h' => v = .tup [.agg (TRef.c r.1), .d (.bool r.2)] ∧ h' = H := by
 unfold Z82 at hE
 refine ACalls.of_wp (fn := Tryd.f23) (c := _) Tryd.tab_ok (fun _ _ => Tryd.call23 _ _) Tryd.func23 rfl (n := 54) rfl (rs := [.cell 4 45, .tmp 5]) rfl rfl ?_
 refine seqK fun K1 hK1 => ?_
 refine region ?_
 refine sL (boxL rfl (by repeat (first | exact Snoc.nil | apply Snoc.cons))) rfl ?_
 refine sL (boxL rfl (by repeat (first | exact Snoc.nil | apply Snoc.cons))) rfl ?_
 refine sL (allocLA (TK rfl) rfl) rfl ?_
 refine s0 assignA rfl ?_
 refine nil ?_
 refine hK1 _ ?_
 clear hK1 K1
 refine seqK fun K2 hK2 => ?_
 refine seqK fun K3 hK3 => ?_
 refine region ?_
 refine s0 (loadL (TK rfl) rfl rfl rfl rfl) rfl ?_
 refine s0 (loadL (TK rfl) rfl rfl rfl rfl) rfl ?_
 obtain ⟨x4, gx4, hE⟩ := bindO_some hE
 refine s0 (callP rfl rfl (fun H => Z81_walk gx4 H)) rfl ?_
 refine s0 (notB rfl) rfl ?_
 refine nil ?_
 refine hK3 _ ?_
 clear hK3 K3
 refine condE hE rfl (fun hc5 hE => ?_) (fun hc5 hE => ?_)
 ·refine seqK fun K6 hK6 => ?_
  refine region ?_
  refine s0 (build Tryd.tab_ok rfl rfl rfl rfl rfl rfl) rfl ?_
  refine sLn (storeLFA (TK rfl) rfl rfl rfl rfl rfl) ?_
  refine s0 assignA rfl ?_
  refine nil ?_
  refine hK6 _ ?_
  clear hK6 K6
  refine AWp.ret ?_
  repeat (first | refine xBlock_ret ?_ | refine xThen_ret ?_)
  obtain rfl := Option.some.inj hE
  refine retQ.retF H rfl ⟨rfl, rfl⟩ ?_
  exact (fun _ _ h => h)
 refine AWp.skip ?_
 refine hK2 _ ?_
 clear hK2 K2
 refine seqK fun K7 hK7 => ?_
 refine region ?_
 refine s0 (fieldL (TK rfl) rfl rfl (TK rfl) rfl rfl) rfl ?_
 refine s0 (loadL (TK rfl) rfl rfl rfl rfl) rfl ?_
 refine s0 (build Tryd.tab_ok rfl rfl rfl rfl rfl rfl) rfl ?_
 refine sL (allocLA (TK rfl) rfl) rfl ?_
 refine AOps.tok 1 fun tk6_8 htk6_8 => ?_
 refine AOps.relocal 3 _ rfl (fun j w cs hh hx => tok_cell 1 1 1 hh (t := tk6_8) hpG hx rfl) ?_
 refine sLn (storeLFA (TK rfl) rfl rfl rfl rfl rfl) ?_
 refine AOps.relocal 3 _ rfl (fun j w cs hh hx => tok_cell 1 1 1 hh (t := tk6_8) hpG hx rfl) ?_
 refine nil ?_
 refine hK7 _ ?_
 clear hK7 K7
 refine block ?_
 refine loopO (KeepsT.A (k := 2) (KeepsT.A (k := 3) (KeepsT.A (k := 4) (KeepsT.A (k := 6) KeepsT.nil)))) (fun (z : Nat × TRef × TRef × TRef × TRef) => []) (fun z => [TRef.c z.2.1, TRef.c z.2.2.1, TRef.c z.2.2.2.1, (strE z.2.2.2.2.FName ++ [Sl.d 1 (intE .i64) (some tk6_8) z.2.2.2.2.FWraps])]) (fun z => (H.set tk6_8 (some (.tok 1 z.2.2.2.2.FWraps.l.length)))) (fun z => z.1) (fun z => Z82_l9 z.1 z.2.1 z.2.2.1 z.2.2.2.1 z.2.2.2.2 = some r) (F0, a0, a1, TRef.zero, (TRef.mk a0.FName (Sl.nil : Sl Int))) hE Weak.toA ?_
 rintro ⟨n9, y10_l0, y11_l1, y12_l2, y13_l3⟩ hE K9 hK9
 try dsimp only at hE
 cases n9 with
 | zero => cases hE
 | succ n9 =>
   rw [Z82_l9] at hE
   refine block ?_
   refine seqJ (KeepsT.A (k := 2) (KeepsT.A (k := 3) (KeepsT.A (k := 4) (KeepsT.A (k := 6) KeepsT.nil)))) (fun (z : TRef) => []) (fun z => [TRef.c y10_l0, TRef.c y11_l1, TRef.c y12_l2, (strE z.FName ++ [Sl.d 1 (intE .i64) (some tk6_8) z.FWraps])]) (fun z => (H.set tk6_8 (some (.tok 1 z.FWraps.l.length)))) (fun z => Z82_j14 y10_l0 y11_l1 y12_l2 ((Z82_l9 n9)) z = some r) ?_ ?_
   ·intro K14 hK14
    refine seqK fun K26 hK26 => ?_
    refine region ?_
    refine s0 (loadL (TK rfl) rfl rfl rfl rfl) rfl ?_
    obtain ⟨x27, gx27, hE⟩ := bindO_some hE
    refine s0 (callP rfl rfl (fun H => Z72_walk gx27 H)) rfl ?_
    refine s0 moveA rfl ?_
    refine gC rfl rfl (fun hC => loadL (TK rfl) rfl rfl rfl rfl) rfl ?_
    obtain ⟨x28, gx28, hE⟩ := guardO_some hE
    refine gC rfl rfl (fun hC => ungdA (k := 22) rfl (callP rfl rfl (fun H => Z72_walk (gx28 hC) H))) rfl ?_
    refine s0 (pickAndA rfl rfl rfl) rfl ?_
    refine nil ?_
    refine hK26 _ ?_
    clear hK26 K26
    refine condE hE rfl (fun hc29 hE => ?_) (fun hc29 hE => ?_)
    ·refine region ?_
     refine s0 (fieldL (TK rfl) rfl rfl (TK rfl) rfl rfl) rfl ?_
     refine s0 (loadL (TK rfl) rfl rfl rfl rfl) rfl ?_
     refine s0 (buildSlice (TK rfl) rfl (TK rfl) rfl rfl rfl rfl rfl rfl) rfl ?_
     obtain ⟨x30, gx30, hE⟩ := bindO_some hE
     refine sH (appM (f := (intE .i64)) (TK rfl) rfl (TK rfl) (TK rfl) ⟨_, rfl⟩ rfl rfl (by decide) rfl rfl rfl rfl hpG rfl gx30) rfl ?_
     refine AOps.heq (h' := (H.set tk6_8 (some (.tok 1 x30.l.length)))) (by first | rfl | (rw [Heap.set_set]; rfl) | (funext n_; simp only [Heap.set]; (repeat' split) <;> first | rfl | (exfalso; simp_all; done) | (simp_all; done))) ?_
     refine s0 (fieldL (TK rfl) rfl rfl (TK rfl) rfl rfl) rfl ?_
     refine sLn (storeL1 (TK rfl) rfl rfl rfl rfl (by repeat (first | exact SetAt.zero | apply SetAt.succ)) (by repeat (first | exact SetAt.zero | apply SetAt.succ))) ?_
     refine nil ?_
     exact hK14 _ (TRef.mk y13_l3.FName x30) Weak.toA hE
    refine AWp.skip ?_
    exact hK14 _ y13_l3 Weak.toA hE
   rintro y15_l3 hE
   try dsimp only at hE
   unfold Z82_j14 at hE
   refine seqK fun K16 hK16 => ?_
   refine region ?_
   refine s0 (loadL (TK rfl) rfl rfl rfl rfl) rfl ?_
   obtain ⟨x17, gx17, hE⟩ := bindO_some hE
   refine s0 (callP rfl rfl (fun H => Z70_walk gx17 H)) rfl ?_
   refine s0 moveA rfl ?_
   refine s0 (extract rfl rfl) rfl ?_
   refine s0 (extract rfl rfl) rfl ?_
   refine sL (allocLA (TK rfl) rfl) rfl ?_
   refine sLn (storeLFA (TK rfl) rfl rfl rfl rfl rfl) ?_
   refine s0 assignA rfl ?_
   refine nil ?_
   refine hK16 _ ?_
   clear hK16 K16
   refine freezeA 7 _ rfl (Keeps.c (k := 2) (by conv => lhs; whnf) (by rfl) (Keeps.c (k := 3) (by conv => lhs; whnf) (by rfl) (Keeps.c (k := 4) (by conv => lhs; whnf) (by rfl) (Keeps.c (k := 6) (by conv => lhs; whnf) (by rfl) (Keeps.c (k := 8) (by conv => lhs; whnf) (by rfl) Keeps.nil))))) ?_
   refine seqK fun K18 hK18 => ?_
   refine region ?_
   refine s0 (loadL (TK rfl) rfl rfl rfl rfl) rfl ?_
   obtain ⟨x19, gx19, hE⟩ := bindO_some hE
   refine s0 (callP rfl rfl (fun H => Z70_walk gx19 H)) rfl ?_
   refine s0 moveA rfl ?_
   refine s0 (extract rfl rfl) rfl ?_
   refine s0 (extract rfl rfl) rfl ?_
   refine sL (allocLA (TK rfl) rfl) rfl ?_
   refine sLn (storeLFA (TK rfl) rfl rfl rfl rfl rfl) ?_
   refine s0 assignA rfl ?_
   refine nil ?_
   refine hK18 _ ?_
   clear hK18 K18
   refine freezeA 9 _ rfl (Keeps.c (k := 2) (by conv => lhs; whnf) (by rfl) (Keeps.c (k := 3) (by conv => lhs; whnf) (by rfl) (Keeps.c (k := 4) (by conv => lhs; whnf) (by rfl) (Keeps.c (k := 6) (by conv => lhs; whnf) (by rfl) (Keeps.c (k := 7) (by conv => lhs; whnf) (by rfl) (Keeps.c (k := 8) (by conv => lhs; whnf) (by rfl) (Keeps.c (k := 10) (by conv => lhs; whnf) (by rfl) Keeps.nil))))))) ?_
   refine seqK fun K20 hK20 => ?_
   refine seqK fun K21 hK21 => ?_
   refine region ?_
   refine s0 moveA rfl ?_
   refine s0 (notB rfl) rfl ?_
   refine s0 moveA rfl ?_
   refine gC rfl rfl (fun hC => moveA) rfl ?_
   refine gC rfl rfl (fun hC => ungdA (k := 43) rfl (notB rfl)) rfl ?_
   refine s0 (pickOrA rfl rfl rfl) rfl ?_
   refine nil ?_
   refine hK21 _ ?_
   clear hK21 K21
   refine condE hE rfl (fun hc22 hE => ?_) (fun hc22 hE => ?_)
   ·refine seqK fun K23 hK23 => ?_
    refine AWp.relocal 3 _ rfl (fun j w cs hh hx => untok_cell 1 hx rfl) ?_
    refine region ?_
    refine s0 (loadL (TK rfl) rfl rfl rfl rfl) rfl ?_
    refine sLn (storeLFA (TK rfl) rfl rfl rfl rfl rfl) ?_
    refine s0 assignA rfl ?_
    refine nil ?_
    refine hK23 _ ?_
    clear hK23 K23
    refine AWp.ret ?_
    repeat (first | refine xBlock_ret ?_ | refine xThen_ret ?_)
    obtain rfl := Option.some.inj hE
    refine retQ.retF H rfl ⟨rfl, rfl⟩ ?_
    first | exact Heap.sub_set htk6_8 | (simp only [Heap.set_set]; exact Heap.sub_set htk6_8)
   refine AWp.skip ?_
   refine hK20 _ ?_
   clear hK20 K20
   refine seqK fun K24 hK24 => ?_
   refine region ?_
   refine s0 (fieldL (TK rfl) rfl rfl (TK rfl) rfl rfl) rfl ?_
   refine s0 (loadL (TK rfl) rfl rfl rfl rfl) rfl ?_
   refine s0 (buildSlice (TK rfl) rfl (TK rfl) rfl rfl rfl rfl rfl rfl) rfl ?_
   obtain ⟨x25, gx25, hE⟩ := bindO_some hE
   refine sH (appM (f := (intE .i64)) (TK rfl) rfl (TK rfl) (TK rfl) ⟨_, rfl⟩ rfl rfl (by decide) rfl rfl rfl rfl hpG rfl gx25) rfl ?_
   refine AOps.heq (h' := (H.set tk6_8 (some (.tok 1 x25.l.length)))) (by first | rfl | (rw [Heap.set_set]; rfl) | (funext n_; simp only [Heap.set]; (repeat' split) <;> first | rfl | (exfalso; simp_all; done) | (simp_all; done))) ?_
   refine s0 (fieldL (TK rfl) rfl rfl (TK rfl) rfl rfl) rfl ?_
   refine sLn (storeL1 (TK rfl) rfl rfl rfl rfl (by repeat (first | exact SetAt.zero | apply SetAt.succ)) (by repeat (first | exact SetAt.zero | apply SetAt.succ))) ?_
   refine nil ?_
   refine hK24 _ ?_
   clear hK24 K24
   refine AWp.draw rfl ?_
   refine DOps.s0 (loadV (TK rfl) rfl rfl rfl) rfl ?_
   refine DOps.s0 (loadV (TK rfl) rfl rfl rfl) rfl ?_
   refine DOps.sLn (storeLFA (TK rfl) rfl rfl rfl rfl rfl) ?_
   refine DOps.sLn (storeLFA (TK rfl) rfl rfl rfl rfl rfl) ?_
   refine DOps.nil (by decide +kernel) ?_
   exact hK9 _ (n9, x17.1, x19.1, y12_l2, (TRef.mk y15_l3.FName x25)) Weak.toA hE (Nat.lt_succ_self _)
def Z80 (a0 : TRef) (a1 : TRef) : Option Bool := guardO (((a0.FName == a1.FName))) (Z43 a0.FWraps a1.FWraps) false fun x3 => some (((a0.FName == a1.FName)) && x3)
theorem Z80_walk {a0 : TRef} {a1 : TRef}   {r : Bool} (hE : Z80 a0 a1 = some r) (H : Heap)  : ACalls Tryd.prog 42 [.agg (TRef.c a0), .agg (TRef.c a1)] H fun v h' => v = .a (.d (.bool r)) ∧ h' = H := by
 unfold Z80 at hE
 refine ACalls.of_wp (fn := Tryd.f42) (c := _) Tryd.tab_ok (fun _ _ => Tryd.call42 _ _) Tryd.func42 rfl (n := 17) rfl (rs := [.tmp 4]) rfl rfl ?_
 refine seqK fun K1 hK1 => ?_
 refine region ?_
 refine s0 (boxV rfl) rfl ?_
 refine s0 (boxV rfl) rfl ?_
 refine s0 assignA rfl ?_
 refine nil ?_
 refine hK1 _ ?_
 clear hK1 K1
 refine seqK fun K2 hK2 => ?_
 refine region ?_
 refine s0 (fieldVA (TK rfl) rfl rfl (TK rfl) rfl rfl) rfl ?_
 refine s0 (loadV (TK rfl) rfl rfl rfl) rfl ?_
 refine s0 (fieldVA (TK rfl) rfl rfl (TK rfl) rfl rfl) rfl ?_
 refine s0 (loadV (TK rfl) rfl rfl rfl) rfl ?_
 refine s0 (binS rfl rfl rfl) rfl ?_
 refine s0 moveA rfl ?_
 refine gC rfl rfl (fun hC => fieldVA (TK rfl) rfl rfl (TK rfl) rfl rfl) rfl ?_
 refine gC rfl rfl (fun hC => ungdA (k := 11) rfl (loadV (TK rfl) rfl rfl rfl)) rfl ?_
 refine gC rfl rfl (fun hC => fieldVA (TK rfl) rfl rfl (TK rfl) rfl rfl) rfl ?_
 refine gC rfl rfl (fun hC => ungdA (k := 13) rfl (loadV (TK rfl) rfl rfl rfl)) rfl ?_
 obtain ⟨x3, gx3, hE⟩ := guardO_some hE
 refine gC rfl rfl (fun hC => ungdA (k := 12) rfl (ungdA (k := 14) rfl (callP rfl rfl (fun H => Z43_walk (gx3 hC) H)))) rfl ?_
 refine s0 (pickAndA rfl rfl rfl) rfl ?_
 refine s0 assignA rfl ?_
 refine nil ?_
 refine hK2 _ ?_
 clear hK2 K2
 refine AWp.ret ?_
 repeat (first | refine xBlock_ret ?_ | refine xThen_ret ?_)
 obtain rfl := Option.some.inj hE
 refine retQ.retF H rfl ⟨rfl, rfl⟩ ?_
 exact (fun _ _ h => h)
def Z69 (a0 : TRef) (a1 : TRef) : Option Bool := (Z82 a0 a1).bind fun x3 => guardO (x3.2) (Z80 x3.1 a1) false fun x5 => some (x3.2 && x5)
theorem Z69_walk {a0 : TRef} {a1 : TRef}   {r : Bool} (hE : Z69 a0 a1 = some r) (H : Heap)  : ACalls Tryd.prog 22 [.agg (TRef.c a0), .agg (TRef.c a1)] H fun v h' => v = .a (.d (.bool r)) ∧ h' = H := by
 unfold Z69 at hE
 refine ACalls.of_wp (fn := Tryd.f22) (c := _) Tryd.tab_ok (fun _ _ => Tryd.call22 _ _) Tryd.func22 rfl (n := 19) rfl (rs := [.tmp 4]) rfl rfl ?_
 refine seqK fun K1 hK1 => ?_
 refine region ?_
 refine s0 (boxV rfl) rfl ?_
 refine s0 (boxV rfl) rfl ?_
 refine s0 assignA rfl ?_
 refine nil ?_
 refine hK1 _ ?_
 clear hK1 K1
 refine seqK fun K2 hK2 => ?_
 refine region ?_
 refine s0 (loadV (TK rfl) rfl rfl rfl) rfl ?_
 refine s0 (loadV (TK rfl) rfl rfl rfl) rfl ?_
 obtain ⟨x3, gx3, hE⟩ := bindO_some hE
 refine s0 (callP rfl rfl (fun H => Z82_walk gx3 H)) rfl ?_
 refine s0 moveA rfl ?_
 refine s0 (extract rfl rfl) rfl ?_
 refine s0 (extract rfl rfl) rfl ?_
 refine sL (allocLA (TK rfl) rfl) rfl ?_
 refine sLn (storeLFA (TK rfl) rfl rfl rfl rfl rfl) ?_
 refine s0 assignA rfl ?_
 refine nil ?_
 refine hK2 _ ?_
 clear hK2 K2
 refine freezeA 5 _ rfl (Keeps.c (k := 3) (by conv => lhs; whnf) (by rfl) (Keeps.c (k := 6) (by conv => lhs; whnf) (by rfl) Keeps.nil)) ?_
 refine seqK fun K4 hK4 => ?_
 refine region ?_
 refine s0 moveA rfl ?_
 refine s0 moveA rfl ?_
 refine gC rfl rfl (fun hC => loadV (TK rfl) rfl rfl rfl) rfl ?_
 refine gC rfl rfl (fun hC => loadV (TK rfl) rfl rfl rfl) rfl ?_
 obtain ⟨x5, gx5, hE⟩ := guardO_some hE
 refine gC rfl rfl (fun hC => ungdA (k := 15) rfl (ungdA (k := 16) rfl (callP rfl rfl (fun H => Z80_walk (gx5 hC) H)))) rfl ?_
 refine s0 (pickAndA rfl rfl rfl) rfl ?_
 refine s0 assignA rfl ?_
 refine nil ?_
 refine hK4 _ ?_
 clear hK4 K4
 refine AWp.ret ?_
 repeat (first | refine xBlock_ret ?_ | refine xThen_ret ?_)
 obtain rfl := Option.some.inj hE
 refine retQ.retF H rfl ⟨rfl, rfl⟩ ?_
 exact (fun _ _ h => h)
def Z57_j8   : Option Bool := some true
def Z57_l12 (a0 : Bs)  : Nat → Nat → Option Bool
 | 0, _ => none
 | n12 + 1, s24_13 => bif (decide (((s24_13 : Nat) : Int) < ((a0.length : Nat) : Int))) then ((a0[s24_13]?).bind fun x20 => bif (!(((((decide ((97 : Int) ≤ ((x20.toNat : Nat) : Int))) && (decide (((x20.toNat : Nat) : Int) ≤ (122 : Int)))) || ((decide ((65 : Int) ≤ ((x20.toNat : Nat) : Int))) && (decide (((x20.toNat : Nat) : Int) ≤ (90 : Int))))) || ((decide ((48 : Int) ≤ ((x20.toNat : Nat) : Int))) && (decide (((x20.toNat : Nat) : Int) ≤ (57 : Int))))) || (decide (((x20.toNat : Nat) : Int) = (95 : Int))))) then (some false) else ((Z57_l12 a0 n12) (s24_13 + 1))) else (Z57_j8   )
def Z57 (a0 : Bs) : Option Bool := guardO (!(((a0 == ([] : Bs))) || (decide ((64 : Int) < ((a0.length : Nat) : Int))))) (a0[0]?) (0 : UInt8) fun x4 => guardO ((!(((a0 == ([] : Bs))) || (decide ((64 : Int) < ((a0.length : Nat) : Int)))) && (decide ((48 : Int) ≤ ((x4.toNat : Nat) : Int))))) (a0[0]?) (0 : UInt8) fun x5 => bif ((((a0 == ([] : Bs))) || (decide ((64 : Int) < ((a0.length : Nat) : Int)))) || ((decide ((48 : Int) ≤ ((x4.toNat : Nat) : Int))) && (decide (((x5.toNat : Nat) : Int) ≤ (57 : Int))))) then (some false) else (Z57_l12 a0 (a0.length + 1) 0)
theorem Z57_walk {a0 : Bs}   {r : Bool} (hE : Z57 a0 = some r) (H : Heap)  : ACalls Tryd.prog 46 [.d (.str a0)] H fun v h' => v = .a (.d (.bool r)) ∧ h' = H := by
 unfold Z57 at hE
 refine ACalls.of_wp (fn := Tryd.f46) (c := _) Tryd.tab_ok (fun _ _ => Tryd.call46 _ _) Tryd.func46 rfl (n := 58) rfl (rs := [.tmp 2]) rfl rfl ?_
 refine seqK fun K1 hK1 => ?_
 refine region ?_
 refine s0 assignA rfl ?_
 refine nil ?_
 refine hK1 _ ?_
 clear hK1 K1
 refine seqK fun K2 hK2 => ?_
 refine seqK fun K3 hK3 => ?_
 refine region ?_
 refine s0 moveA rfl ?_
 refine s0 (binS rfl rfl rfl) rfl ?_
 refine s0 moveA rfl ?_
 refine gC rfl rfl (fun hC => moveA) rfl ?_
 refine gC rfl rfl (fun hC => ungdA (k := 8) rfl (lenS (TK rfl) rfl rfl rfl)) rfl ?_
 refine gC rfl rfl (fun hC => ungdA (k := 9) rfl (binI rfl rfl rfl)) rfl ?_
 refine s0 (pickOrA rfl rfl rfl) rfl ?_
 refine s0 moveA rfl ?_
 refine gC rfl rfl (fun hC => moveA) rfl ?_
 obtain ⟨x4, gx4, hE⟩ := guardO_some hE
 refine gC rfl rfl (fun hC => ungdA (k := 13) rfl (idxSn (n := 0) (TK rfl) rfl rfl rfl (gx4 hC))) rfl ?_
 refine gC rfl rfl (fun hC => ungdA (k := 14) rfl (binI rfl rfl rfl)) rfl ?_
 refine gC rfl rfl (fun hC => ungdA (k := 15) rfl moveA) rfl ?_
 refine gC rfl rfl (fun hC => moveA) rfl ?_
 obtain ⟨x5, gx5, hE⟩ := guardO_some hE
 refine gC rfl rfl (fun hC => ungdA (k := 17) rfl (idxSn (n := 0) (TK rfl) rfl rfl rfl (gx5 hC))) rfl ?_
 refine gC rfl rfl (fun hC => ungdA (k := 18) rfl (binI rfl rfl rfl)) rfl ?_
 refine gC rfl rfl (fun hC => ungdA (k := 16) rfl (pickAndA rfl rfl rfl)) rfl ?_
 refine s0 (pickOrA rfl rfl rfl) rfl ?_
 refine nil ?_
 refine hK3 _ ?_
 clear hK3 K3
 refine condE hE rfl (fun hc6 hE => ?_) (fun hc6 hE => ?_)
 ·refine seqK fun K7 hK7 => ?_
  refine region ?_
  refine s0 assignA rfl ?_
  refine nil ?_
  refine hK7 _ ?_
  clear hK7 K7
  refine AWp.ret ?_
  repeat (first | refine xBlock_ret ?_ | refine xThen_ret ?_)
  obtain rfl := Option.some.inj hE
  refine retQ.retF H rfl ⟨rfl, rfl⟩ ?_
  exact (fun _ _ h => h)
 refine AWp.skip ?_
 refine hK2 _ ?_
 clear hK2 K2
 refine seqJH KeepsT.nil (fun (z : Unit) => []) (fun z => H) (fun z => Z57_j8  = some r) ?_ ?_
 ·intro K8 hK8
  refine seqK fun K10 hK10 => ?_
  refine region ?_
  refine s0 moveA rfl ?_
  refine sLenS (TK rfl) rfl rfl rfl rfl fun hL11 => ?_
  refine s0 moveA rfl ?_
  refine nil ?_
  refine hK10 _ ?_
  clear hK10 K10
  refine block ?_
  refine loopH (KeepsT.A (k := 0) (KeepsT.A (k := 23) KeepsT.nil)) (fun (z : Nat × Nat) => [(24, .a (.d (.int .i64 ((z.2 : Nat) : Int))))]) (fun z => H) (fun z => z.1) (fun z => Z57_l12 a0 z.1 z.2 = some r) ((a0.length + 1), 0) hE Weak.toA ?_
  rintro ⟨n12, s24_13⟩ hE K12 hK12
  try dsimp only at hE
  cases n12 with
  | zero => cases hE
  | succ n12 =>
    rw [Z57_l12] at hE
    refine seqK fun K14 hK14 => ?_
    refine region ?_
    refine s0 (binI rfl rfl rfl) rfl ?_
    refine nil ?_
    refine hK14 _ ?_
    clear hK14 K14
    refine seqK fun K15 hK15 => ?_
    refine condE hE rfl (fun hc16 hE => ?_) (fun hc16 hE => ?_)
    ·try dsimp only at hc16
     have hf16 := of_decide_eq_true hc16
     refine AWp.skip ?_
     refine hK15 _ ?_
     clear hK15 K15
     refine seqK fun K17 hK17 => ?_
     refine block ?_
     refine seqK fun K18 hK18 => ?_
     refine region ?_
     refine s0 moveA rfl ?_
     refine s0 assignA rfl ?_
     refine nil ?_
     refine hK18 _ ?_
     clear hK18 K18
     refine seqK fun K19 hK19 => ?_
     refine region ?_
     refine s0 moveA rfl ?_
     refine s0 moveA rfl ?_
     obtain ⟨x20, gx20, hE⟩ := bindO_some hE
     refine s0 (idxSn (n := s24_13) (TK rfl) rfl rfl rfl gx20) rfl ?_
     refine s0 assignA rfl ?_
     refine nil ?_
     refine hK19 _ ?_
     clear hK19 K19
     refine seqK fun K21 hK21 => ?_
     refine region ?_
     refine s0 moveA rfl ?_
     refine s0 (binI rfl rfl rfl) rfl ?_
     refine s0 moveA rfl ?_
     refine gC rfl rfl (fun hC => moveA) rfl ?_
     refine gC rfl rfl (fun hC => ungdA (k := 33) rfl (binI rfl rfl rfl)) rfl ?_
     refine s0 (pickAndA rfl rfl rfl) rfl ?_
     refine s0 moveA rfl ?_
     refine gC rfl rfl (fun hC => moveA) rfl ?_
     refine gC rfl rfl (fun hC => ungdA (k := 37) rfl (binI rfl rfl rfl)) rfl ?_
     refine gC rfl rfl (fun hC => ungdA (k := 38) rfl moveA) rfl ?_
     refine gC rfl rfl (fun hC => moveA) rfl ?_
     refine gC rfl rfl (fun hC => ungdA (k := 40) rfl (binI rfl rfl rfl)) rfl ?_
     refine gC rfl rfl (fun hC => ungdA (k := 39) rfl (pickAndA rfl rfl rfl)) rfl ?_
     refine s0 (pickOrA rfl rfl rfl) rfl ?_
     refine s0 moveA rfl ?_
     refine gC rfl rfl (fun hC => moveA) rfl ?_
     refine gC rfl rfl (fun hC => ungdA (k := 45) rfl (binI rfl rfl rfl)) rfl ?_
     refine gC rfl rfl (fun hC => ungdA (k := 46) rfl moveA) rfl ?_
     refine gC rfl rfl (fun hC => moveA) rfl ?_
     refine gC rfl rfl (fun hC => ungdA (k := 48) rfl (binI rfl rfl rfl)) rfl ?_
     refine gC rfl rfl (fun hC => ungdA (k := 47) rfl (pickAndA rfl rfl rfl)) rfl ?_
     refine s0 (pickOrA rfl rfl rfl) rfl ?_
     refine s0 moveA rfl ?_
     refine gC rfl rfl (fun hC => moveA) rfl ?_
     refine gC rfl rfl (fun hC => ungdA (k := 53) rfl (binI rfl rfl rfl)) rfl ?_
     refine s0 (pickOrA rfl rfl rfl) rfl ?_
     refine s0 (notB rfl) rfl ?_
     refine nil ?_
     refine hK21 _ ?_
     clear hK21 K21
     refine condE hE rfl (fun hc22 hE => ?_) (fun hc22 hE => ?_)
     ·refine seqK fun K23 hK23 => ?_
      refine region ?_
      refine s0 assignA rfl ?_
      refine nil ?_
      refine hK23 _ ?_
      clear hK23 K23
      refine AWp.ret ?_
      repeat (first | refine xBlock_ret ?_ | refine xThen_ret ?_)
      obtain rfl := Option.some.inj hE
      refine retQ.retF H rfl ⟨rfl, rfl⟩ ?_
      exact (fun _ _ h => h)
     refine AWp.skip ?_
     refine hK17 _ ?_
     clear hK17 K17
     refine region ?_
     refine s0 (addI rfl rfl (by first | omega | (dsimp only; omega) | (simp at *; omega)) (by first | omega | (dsimp only; omega) | (simp at *; omega))) rfl ?_
     refine s0 moveA rfl ?_
     refine nil ?_
     exact hK12 _ (n12, (s24_13 + 1)) Weak.toA hE (Nat.lt_succ_self _)
    refine AWp.exit ?_
    exact hK8 _ () Weak.toA hE
 rintro _ hE
 try dsimp only at hE
 unfold Z57_j8 at hE
 refine seqK fun K9 hK9 => ?_
 refine region ?_
 refine s0 assignA rfl ?_
 refine nil ?_
 refine hK9 _ ?_
 clear hK9 K9
 refine AWp.ret ?_
 repeat (first | refine xBlock_ret ?_ | refine xThen_ret ?_)
 obtain rfl := Option.some.inj hE
 refine retQ.retF H rfl ⟨rfl, rfl⟩ ?_
 exact (fun _ _ h => h)
def Z79_j7   : Option Bool := some true
def Z79_l11 (a0 : TRef)  : Nat → Nat → Option Bool
 | 0, _ => none
 | n11 + 1, s18_12 => bif (decide (((s18_12 : Nat) : Int) < ((a0.FWraps.l.length : Nat) : Int))) then ((a0.FWraps.l[s18_12]?).bind fun x18 => guardO ((!((!decide (x18 = (1 : Int))) && (!decide (x18 = (2 : Int)))) && ((decide (x18 = (1 : Int))) && (decide ((0 : Int) < ((s18_12 : Nat) : Int)))))) (subC ((s18_12 : Nat) : Int) (1 : Int)) (0 : Int) fun x20 => guardO ((!((!decide (x18 = (1 : Int))) && (!decide (x18 = (2 : Int)))) && ((decide (x18 = (1 : Int))) && (decide ((0 : Int) < ((s18_12 : Nat) : Int)))))) (idxC a0.FWraps.l x20) (0 : Int) fun x21 => bif (((!decide (x18 = (1 : Int))) && (!decide (x18 = (2 : Int)))) || (((decide (x18 = (1 : Int))) && (decide ((0 : Int) < ((s18_12 : Nat) : Int)))) && (decide (x21 = x18)))) then (some false) else ((Z79_l11 a0 n11) (s18_12 + 1))) else (Z79_j7   )
def Z79 (a0 : TRef) : Option Bool := (Z57 a0.FName).bind fun x4 => bif ((!x4) || (decide ((24 : Int) < ((a0.FWraps.l.length : Nat) : Int)))) then (some false) else (Z79_l11 a0 (a0.FWraps.l.length + 1) 0)
theorem Z79_walk {a0 : TRef}   {r : Bool} (hE : Z79 a0 = some r) (H : Heap)  : ACalls Tryd.prog 25 [.agg (TRef.c a0)] H fun v h' => v = .a (.d (.bool r)) ∧ h' = H := by
 unfold Z79 at hE
 refine ACalls.of_wp (fn := Tryd.f25) (c := _) Tryd.tab_ok (fun _ _ => Tryd.call25 _ _) Tryd.func25 rfl (n := 48) rfl (rs := [.tmp 2]) rfl rfl ?_
 refine seqK fun K1 hK1 => ?_
 refine region ?_
 refine s0 (boxV rfl) rfl ?_
 refine s0 assignA rfl ?_
 refine nil ?_
 refine hK1 _ ?_
 clear hK1 K1
 refine seqK fun K2 hK2 => ?_
 refine seqK fun K3 hK3 => ?_
 refine region ?_
 refine s0 (fieldVA (TK rfl) rfl rfl (TK rfl) rfl rfl) rfl ?_
 refine s0 (loadV (TK rfl) rfl rfl rfl) rfl ?_
 obtain ⟨x4, gx4, hE⟩ := bindO_some hE
 refine s0 (callP rfl rfl (fun H => Z57_walk gx4 H)) rfl ?_
 refine s0 (notB rfl) rfl ?_
 refine s0 moveA rfl ?_
 refine gC rfl rfl (fun hC => fieldVA (TK rfl) rfl rfl (TK rfl) rfl rfl) rfl ?_
 refine gC rfl rfl (fun hC => ungdA (k := 10) rfl (loadV (TK rfl) rfl rfl rfl)) rfl ?_
 refine gC rfl rfl (fun hC => ungdA (k := 11) rfl (lenM' (f := (intE .i64)) (s := a0.FWraps) (TK rfl) rfl rfl rfl)) rfl ?_
 refine gC rfl rfl (fun hC => ungdA (k := 12) rfl (binI rfl rfl rfl)) rfl ?_
 refine s0 (pickOrA rfl rfl rfl) rfl ?_
 refine nil ?_
 refine hK3 _ ?_
 clear hK3 K3
 refine condE hE rfl (fun hc5 hE => ?_) (fun hc5 hE => ?_)
 ·refine seqK fun K6 hK6 => ?_
  refine region ?_
  refine s0 assignA rfl ?_
  refine nil ?_
  refine hK6 _ ?_
  clear hK6 K6
  refine AWp.ret ?_
  repeat (first | refine xBlock_ret ?_ | refine xThen_ret ?_)
  obtain rfl := Option.some.inj hE
  refine retQ.retF H rfl ⟨rfl, rfl⟩ ?_
  exact (fun _ _ h => h)
 refine AWp.skip ?_
 refine hK2 _ ?_
 clear hK2 K2
 refine seqJH KeepsT.nil (fun (z : Unit) => []) (fun z => H) (fun z => Z79_j7  = some r) ?_ ?_
 ·intro K7 hK7
  refine seqK fun K9 hK9 => ?_
  refine region ?_
  refine s0 (fieldVA (TK rfl) rfl rfl (TK rfl) rfl rfl) rfl ?_
  refine s0 (loadV (TK rfl) rfl rfl rfl) rfl ?_
  refine sLen (f := (intE .i64)) (s := a0.FWraps) (TK rfl) rfl rfl rfl rfl fun hL10 => ?_
  refine s0 moveA rfl ?_
  refine nil ?_
  refine hK9 _ ?_
  clear hK9 K9
  refine block ?_
  refine loopH (KeepsT.A (k := 1) (KeepsT.A (k := 16) (KeepsT.A (k := 17) KeepsT.nil))) (fun (z : Nat × Nat) => [(18, .a (.d (.int .i64 ((z.2 : Nat) : Int))))]) (fun z => H) (fun z => z.1) (fun z => Z79_l11 a0 z.1 z.2 = some r) ((a0.FWraps.l.length + 1), 0) hE Weak.toA ?_
  rintro ⟨n11, s18_12⟩ hE K11 hK11
  try dsimp only at hE
  cases n11 with
  | zero => cases hE
  | succ n11 =>
    rw [Z79_l11] at hE
    refine seqK fun K13 hK13 => ?_
    refine region ?_
    refine s0 (binI rfl rfl rfl) rfl ?_
    refine nil ?_
    refine hK13 _ ?_
    clear hK13 K13
    refine seqK fun K14 hK14 => ?_
    refine condE hE rfl (fun hc15 hE => ?_) (fun hc15 hE => ?_)
    ·try dsimp only at hc15
     have hf15 := of_decide_eq_true hc15
     refine AWp.skip ?_
     refine hK14 _ ?_
     clear hK14 K14
     refine seqK fun K16 hK16 => ?_
     refine block ?_
     refine seqK fun K17 hK17 => ?_
     refine region ?_
     refine s0 moveA rfl ?_
     obtain ⟨x18, gx18, hE⟩ := bindO_some hE
     refine s0 (idxMn (f := (intE .i64)) (n := s18_12) (TK rfl) rfl (TK rfl) rfl rfl rfl gx18) rfl ?_
     refine s0 (loadV (TK rfl) rfl rfl rfl) rfl ?_
     refine s0 assignA rfl ?_
     refine s0 assignA rfl ?_
     refine nil ?_
     refine hK17 _ ?_
     clear hK17 K17
     refine seqK fun K19 hK19 => ?_
     refine region ?_
     refine s0 moveA rfl ?_
     refine s0 (binI rfl rfl rfl) rfl ?_
     refine s0 moveA rfl ?_
     refine gC rfl rfl (fun hC => moveA) rfl ?_
     refine gC rfl rfl (fun hC => ungdA (k := 26) rfl (binI rfl rfl rfl)) rfl ?_
     refine s0 (pickAndA rfl rfl rfl) rfl ?_
     refine s0 moveA rfl ?_
     refine gC rfl rfl (fun hC => moveA) rfl ?_
     refine gC rfl rfl (fun hC => ungdA (k := 30) rfl (binI rfl rfl rfl)) rfl ?_
     refine gC rfl rfl (fun hC => ungdA (k := 31) rfl moveA) rfl ?_
     refine gC rfl rfl (fun hC => moveA) rfl ?_
     refine gC rfl rfl (fun hC => ungdA (k := 33) rfl (binI rfl rfl rfl)) rfl ?_
     refine gC rfl rfl (fun hC => ungdA (k := 32) rfl (pickAndA rfl rfl rfl)) rfl ?_
     refine gC rfl rfl (fun hC => ungdA (k := 35) rfl moveA) rfl ?_
     refine gC rfl rfl (fun hC => fieldVA (TK rfl) rfl rfl (TK rfl) rfl rfl) rfl ?_
     refine gC rfl rfl (fun hC => ungdA (k := 37) rfl (loadV (TK rfl) rfl rfl rfl)) rfl ?_
     refine gC rfl rfl (fun hC => moveA) rfl ?_
     obtain ⟨x20, gx20, hE⟩ := guardO_some hE
     refine gC rfl rfl (fun hC => ungdA (k := 39) rfl (subM rfl rfl (gx20 hC))) rfl ?_
     obtain ⟨x21, gx21, hE⟩ := guardO_some hE
     refine gC rfl rfl (fun hC => ungdA (k := 38) rfl (ungdA (k := 40) rfl (idxM (f := (intE .i64)) (TK rfl) rfl (TK rfl) rfl rfl rfl (gx21 hC)))) rfl ?_
     refine gC rfl rfl (fun hC => ungdA (k := 41) rfl (loadV (TK rfl) rfl rfl rfl)) rfl ?_
     refine gC rfl rfl (fun hC => moveA) rfl ?_
     refine gC rfl rfl (fun hC => ungdA (k := 42) rfl (ungdA (k := 43) rfl (binI rfl rfl rfl))) rfl ?_
     refine gC rfl rfl (fun hC => ungdA (k := 36) rfl (pickAndA rfl rfl rfl)) rfl ?_
     refine s0 (pickOrA rfl rfl rfl) rfl ?_
     refine nil ?_
     refine hK19 _ ?_
     clear hK19 K19
     refine condE hE rfl (fun hc22 hE => ?_) (fun hc22 hE => ?_)
     ·refine seqK fun K23 hK23 => ?_
      refine region ?_
      refine s0 assignA rfl ?_
      refine nil ?_
      refine hK23 _ ?_
      clear hK23 K23
      refine AWp.ret ?_
      repeat (first | refine xBlock_ret ?_ | refine xThen_ret ?_)
      obtain rfl := Option.some.inj hE
      refine retQ.retF H rfl ⟨rfl, rfl⟩ ?_
      exact (fun _ _ h => h)
     refine AWp.skip ?_
     refine hK16 _ ?_
     clear hK16 K16
     refine region ?_
     refine s0 (addI rfl rfl (by first | omega | (dsimp only; omega) | (simp at *; omega)) (by first | omega | (dsimp only; omega) | (simp at *; omega))) rfl ?_
     refine s0 moveA rfl ?_
     refine nil ?_
     exact hK11 _ (n11, (s18_12 + 1)) Weak.toA hE (Nat.lt_succ_self _)
    refine AWp.exit ?_
    exact hK7 _ () Weak.toA hE
 rintro _ hE
 try dsimp only at hE
 unfold Z79_j7 at hE
 refine seqK fun K8 hK8 => ?_
 refine region ?_
 refine s0 assignA rfl ?_
 refine nil ?_
 refine hK8 _ ?_
 clear hK8 K8
 refine AWp.ret ?_
 repeat (first | refine xBlock_ret ?_ | refine xThen_ret ?_)
 obtain rfl := Option.some.inj hE
 refine retQ.retF H rfl ⟨rfl, rfl⟩ ?_
 exact (fun _ _ h => h)
def Z78_j7 (a0 : TRef)  (y8_id3_3 : Strings_Builder) (y9_id4_5 : Strings_Builder) : Option Bs := (Z46 y8_id3_3).bind fun x11 => (catC x11 a0.FName).bind fun x12 => (Z46 y9_id4_5).bind fun x13 => (catC x12 x13).bind fun x14 => some x14
def Z78_j25 (s5_19 : Int) (k_next_18 : Int → Strings_Builder → Strings_Builder → Option Bs) (y26_id3_3 : Strings_Builder) (y27_id4_5 : Strings_Builder) : Option Bs := (subC s5_19 (1 : Int)).bind fun x28 => k_next_18 x28 y26_id3_3 y27_id4_5
def Z78_l18 (a0 : TRef)  : Nat → Int → Strings_Builder → Strings_Builder → Option Bs
 | 0, _, _, _ => none
 | n18 + 1, s5_19, y20_id3_3, y21_id4_5 => bif (decide ((0 : Int) ≤ s5_19)) then ((idxC a0.FWraps.l s5_19).bind fun x30 => bif (decide (x30 = (1 : Int))) then ((Z47 y21_id4_5 (33 : Int)).bind fun x32 => Z78_j25 s5_19 ((Z78_l18 a0 n18)) y20_id3_3 x32.2) else ((Z47 y20_id3_3 (91 : Int)).bind fun x34 => (Z47 y21_id4_5 (93 : Int)).bind fun x35 => Z78_j25 s5_19 ((Z78_l18 a0 n18)) x34.2 x35.2)) else (Z78_j7 a0  y20_id3_3 y21_id4_5)
def Z78 (a0 : TRef) : Option Bs := (subC ((a0.FWraps.l.length : Nat) : Int) (1 : Int)).bind fun x17 => Z78_l18 a0 F0 x17 Strings_Builder.zero Strings_Builder.zero
theorem Z78_walk {a0 : TRef}   {r : Bs} (hE : Z78 a0 = some r) (H : Heap)  : ACalls Tryd.prog 26 [.agg (TRef.c a0)] H fun v h' => v = .a (.d (.str r)) ∧ h' = H := by
 unfold Z78 at hE
 refine ACalls.of_wp (fn := Tryd.f26) (c := _) Tryd.tab_ok (fun _ _ => Tryd.call26 _ _) Tryd.func26 rfl (n := 29) rfl (rs := [.tmp 2]) rfl rfl ?_
 refine seqK fun K1 hK1 => ?_
 refine region ?_
 refine s0 (boxV rfl) rfl ?_
 refine s0 assignA rfl ?_
 refine nil ?_
 refine hK1 _ ?_
 clear hK1 K1
 refine seqK fun K2 hK2 => ?_
 refine region ?_
 refine AOps.tokE 1 5 fun tk3_4 htk3_4 => ?_
 refine sE (StepE.allocT (TK rfl) rfl) rfl (fun _ _ _ ⟨id3_3, hid3_3, e1, e2, e3⟩ => ?_); subst e1 e2 e3
 obtain ⟨ne_id3_3_tk3_4, hid3_3⟩ := Heap.set_fresh hid3_3
 refine AOps.recellT id3_3 _ hpG (fun j w cs hh hx => tok_cell 1 1 1 hh (t := tk3_4) hpG hx rfl) ?_
 refine AOps.heq (h' := ((H.set tk3_4 (some (.tok 1 0 (some 5)))).set id3_3 (some (.tcells 68 (Strings_Builder.cg id3_3 (some tk3_4) Strings_Builder.zero))))) (by first | rfl | (rw [Heap.set_set]; rfl) | (funext n_; simp only [Heap.set]; (repeat' split) <;> first | rfl | (exfalso; simp_all; done) | (simp_all; done))) ?_
 refine AOps.tokE 1 5 fun tk4_6 htk4_6 => ?_
 obtain ⟨ne_tk4_6_id3_3, htk4_6⟩ := Heap.set_fresh htk4_6
 obtain ⟨ne_tk4_6_tk3_4, htk4_6⟩ := Heap.set_fresh htk4_6
 refine sE (StepE.allocT (TK rfl) rfl) rfl (fun _ _ _ ⟨id4_5, hid4_5, e1, e2, e3⟩ => ?_); subst e1 e2 e3
 obtain ⟨ne_id4_5_tk4_6, hid4_5⟩ := Heap.set_fresh hid4_5
 obtain ⟨ne_id4_5_id3_3, hid4_5⟩ := Heap.set_fresh hid4_5
 obtain ⟨ne_id4_5_tk3_4, hid4_5⟩ := Heap.set_fresh hid4_5
 refine AOps.recellT id4_5 _ hpG (fun j w cs hh hx => tok_cell 1 1 1 hh (t := tk4_6) hpG hx rfl) ?_
 refine AOps.heq (h' := ((((H.set tk3_4 (some (.tok 1 0 (some 5)))).set id3_3 (some (.tcells 68 (Strings_Builder.cg id3_3 (some tk3_4) Strings_Builder.zero)))).set tk4_6 (some (.tok 1 0 (some 5)))).set id4_5 (some (.tcells 68 (Strings_Builder.cg id4_5 (some tk4_6) Strings_Builder.zero))))) (by first | rfl | (rw [Heap.set_set]; rfl) | (funext n_; simp only [Heap.set]; (repeat' split) <;> first | rfl | (exfalso; simp_all; done) | (simp_all; done))) ?_
 refine nil ?_
 refine hK2 _ ?_
 clear hK2 K2
 refine seqJH (KeepsT.A (k := 1) (KeepsT.A (k := 3) (KeepsT.A (k := 4) KeepsT.nil))) (fun (z : Strings_Builder × Strings_Builder) => []) (fun z => ((((H.set tk3_4 (some (.tok 1 z.1.Fbuf.l.length (some 5)))).set id3_3 (some (.tcells 68 (Strings_Builder.cg id3_3 (some tk3_4) z.1)))).set tk4_6 (some (.tok 1 z.2.Fbuf.l.length (some 5)))).set id4_5 (some (.tcells 68 (Strings_Builder.cg id4_5 (some tk4_6) z.2))))) (fun z => Z78_j7 a0 z.1 z.2 = some r) ?_ ?_
 ·intro K7 hK7
  refine seqK fun K15 hK15 => ?_
  refine region ?_
  refine s0 (fieldVA (TK rfl) rfl rfl (TK rfl) rfl rfl) rfl ?_
  refine s0 (loadV (TK rfl) rfl rfl rfl) rfl ?_
  refine sLen (f := (intE .i64)) (s := a0.FWraps) (TK rfl) rfl rfl rfl rfl fun hL16 => ?_
  obtain ⟨x17, gx17, hE⟩ := bindO_some hE
  refine s0 (subM rfl rfl gx17) rfl ?_
  refine s0 assignA rfl ?_
  refine nil ?_
  refine hK15 _ ?_
  clear hK15 K15
  refine block ?_
  refine loopH (KeepsT.A (k := 1) (KeepsT.A (k := 3) (KeepsT.A (k := 4) KeepsT.nil))) (fun (z : Nat × Int × Strings_Builder × Strings_Builder) => [(5, .a (.d (.int .i64 z.2.1)))]) (fun z => ((((H.set tk3_4 (some (.tok 1 z.2.2.1.Fbuf.l.length (some 5)))).set id3_3 (some (.tcells 68 (Strings_Builder.cg id3_3 (some tk3_4) z.2.2.1)))).set tk4_6 (some (.tok 1 z.2.2.2.Fbuf.l.length (some 5)))).set id4_5 (some (.tcells 68 (Strings_Builder.cg id4_5 (some tk4_6) z.2.2.2))))) (fun z => z.1) (fun z => Z78_l18 a0 z.1 z.2.1 z.2.2.1 z.2.2.2 = some r) (F0, x17, Strings_Builder.zero, Strings_Builder.zero) hE Weak.toA ?_
  rintro ⟨n18, s5_19, y20_id3_3, y21_id4_5⟩ hE K18 hK18
  try dsimp only at hE
  cases n18 with
  | zero => cases hE
  | succ n18 =>
    rw [Z78_l18] at hE
    refine seqK fun K22 hK22 => ?_
    refine seqK fun K23 hK23 => ?_
    refine region ?_
    refine s0 moveA rfl ?_
    refine s0 (binI rfl rfl rfl) rfl ?_
    refine nil ?_
    refine hK23 _ ?_
    clear hK23 K23
    refine condE hE rfl (fun hc24 hE => ?_) (fun hc24 hE => ?_)
    ·refine AWp.skip ?_
     refine hK22 _ ?_
     clear hK22 K22
     refine seqJH (KeepsT.A (k := 1) (KeepsT.A (k := 3) (KeepsT.A (k := 4) (KeepsT.A (k := 5) KeepsT.nil)))) (fun (z : Strings_Builder × Strings_Builder) => []) (fun z => ((((H.set tk3_4 (some (.tok 1 z.1.Fbuf.l.length (some 5)))).set id3_3 (some (.tcells 68 (Strings_Builder.cg id3_3 (some tk3_4) z.1)))).set tk4_6 (some (.tok 1 z.2.Fbuf.l.length (some 5)))).set id4_5 (some (.tcells 68 (Strings_Builder.cg id4_5 (some tk4_6) z.2))))) (fun z => Z78_j25 s5_19 ((Z78_l18 a0 n18)) z.1 z.2 = some r) ?_ ?_
     ·intro K25 hK25
      refine block ?_
      refine seqK fun K29 hK29 => ?_
      refine region ?_
      refine s0 (fieldVA (TK rfl) rfl rfl (TK rfl) rfl rfl) rfl ?_
      refine s0 (loadV (TK rfl) rfl rfl rfl) rfl ?_
      refine s0 moveA rfl ?_
      obtain ⟨x30, gx30, hE⟩ := bindO_some hE
      refine s0 (idxM (f := (intE .i64)) (TK rfl) rfl (TK rfl) rfl rfl rfl gx30) rfl ?_
      refine s0 (loadV (TK rfl) rfl rfl rfl) rfl ?_
      refine s0 (binI rfl rfl rfl) rfl ?_
      refine nil ?_
      refine hK29 _ ?_
      clear hK29 K29
      refine condE hE rfl (fun hc31 hE => ?_) (fun hc31 hE => ?_)
      ·refine region ?_
       obtain ⟨x32, gx32, hE⟩ := bindO_some hE
       refine sH (callH rfl rfl (Z47_walk gx32 _ hpG hpG)) rfl ?_
       refine AOps.heq (h' := ((((H.set tk3_4 (some (.tok 1 y20_id3_3.Fbuf.l.length (some 5)))).set id3_3 (some (.tcells 68 (Strings_Builder.cg id3_3 (some tk3_4) y20_id3_3)))).set tk4_6 (some (.tok 1 x32.2.Fbuf.l.length (some 5)))).set id4_5 (some (.tcells 68 (Strings_Builder.cg id4_5 (some tk4_6) x32.2))))) (by first | rfl | (rw [Heap.set_set]; rfl) | (funext n_; simp only [Heap.set]; (repeat' split) <;> first | rfl | (exfalso; simp_all; done) | (simp_all; done))) ?_
       refine nil ?_
       exact hK25 _ (y20_id3_3, x32.2) Weak.toA hE
      refine seqK fun K33 hK33 => ?_
      refine region ?_
      obtain ⟨x34, gx34, hE⟩ := bindO_some hE
      refine sH (callH rfl rfl (Z47_walk gx34 _ hpG hpG)) rfl ?_
      refine AOps.heq (h' := ((((H.set tk3_4 (some (.tok 1 x34.2.Fbuf.l.length (some 5)))).set id3_3 (some (.tcells 68 (Strings_Builder.cg id3_3 (some tk3_4) x34.2)))).set tk4_6 (some (.tok 1 y21_id4_5.Fbuf.l.length (some 5)))).set id4_5 (some (.tcells 68 (Strings_Builder.cg id4_5 (some tk4_6) y21_id4_5))))) (by first | rfl | (rw [Heap.set_set]; rfl) | (funext n_; simp only [Heap.set]; (repeat' split) <;> first | rfl | (exfalso; simp_all; done) | (simp_all; done))) ?_
      refine nil ?_
      refine hK33 _ ?_
      clear hK33 K33
      refine region ?_
      obtain ⟨x35, gx35, hE⟩ := bindO_some hE
      refine sH (callH rfl rfl (Z47_walk gx35 _ hpG hpG)) rfl ?_
      refine AOps.heq (h' := ((((H.set tk3_4 (some (.tok 1 x34.2.Fbuf.l.length (some 5)))).set id3_3 (some (.tcells 68 (Strings_Builder.cg id3_3 (some tk3_4) x34.2)))).set tk4_6 (some (.tok 1 x35.2.Fbuf.l.length (some 5)))).set id4_5 (some (.tcells 68 (Strings_Builder.cg id4_5 (some tk4_6) x35.2))))) (by first | rfl | (rw [Heap.set_set]; rfl) | (funext n_; simp only [Heap.set]; (repeat' split) <;> first | rfl | (exfalso; simp_all; done) | (simp_all; done))) ?_
      refine nil ?_
      exact hK25 _ (x34.2, x35.2) Weak.toA hE
     rintro ⟨y26_id3_3, y27_id4_5⟩ hE
     try dsimp only at hE
     unfold Z78_j25 at hE
     refine region ?_
     refine s0 moveA rfl ?_
     obtain ⟨x28, gx28, hE⟩ := bindO_some hE
     refine s0 (subM rfl rfl gx28) rfl ?_
     refine s0 assignA rfl ?_
     refine nil ?_
     exact hK18 _ (n18, x28, y26_id3_3, y27_id4_5) Weak.toA hE (Nat.lt_succ_self _)
    refine AWp.exit ?_
    exact hK7 _ (y20_id3_3, y21_id4_5) Weak.toA hE
 rintro ⟨y8_id3_3, y9_id4_5⟩ hE
 try dsimp only at hE
 unfold Z78_j7 at hE
 refine seqK fun K10 hK10 => ?_
 refine AWp.draw rfl ?_
 obtain ⟨x11, gx11, hE⟩ := bindO_some hE
 refine DOps.sH (callH rfl rfl (Z46_walk gx11 _ hpG hpG)) rfl ?_
 refine DOps.heq (h' := ((H.set tk4_6 (some (.tok 1 y9_id4_5.Fbuf.l.length (some 5)))).set id4_5 (some (.tcells 68 (Strings_Builder.cg id4_5 (some tk4_6) y9_id4_5))))) (by first | rfl | (rw [Heap.set_set]; rfl) | (funext n_; simp only [Heap.set]; (repeat' split) <;> first | rfl | (exfalso; simp_all; done) | (simp_all; done))) ?_
 refine DOps.s0 (fieldVA (TK rfl) rfl rfl (TK rfl) rfl rfl) rfl ?_
 refine DOps.s0 (loadV (TK rfl) rfl rfl rfl) rfl ?_
 obtain ⟨x12, gx12, hE⟩ := bindO_some hE
 refine DOps.s0 (catM rfl rfl gx12) rfl ?_
 obtain ⟨x13, gx13, hE⟩ := bindO_some hE
 refine DOps.sH (callH rfl rfl (Z46_walk gx13 _ hpG hpG)) rfl ?_
 refine DOps.heq (h' := H) (by first | rfl | (rw [Heap.set_set]; rfl) | (funext n_; simp only [Heap.set]; (repeat' split) <;> first | rfl | (exfalso; simp_all; done) | (simp_all; done))) ?_
 obtain ⟨x14, gx14, hE⟩ := bindO_some hE
 refine DOps.s0 (catM rfl rfl gx14) rfl ?_
 refine DOps.s0 assignA rfl ?_
 refine DOps.nil (by decide +kernel) ?_
 refine hK10 _ ?_
 clear hK10 K10
 refine AWp.ret ?_
 repeat (first | refine xBlock_ret ?_ | refine xThen_ret ?_)
 obtain rfl := Option.some.inj hE
 refine retQ.retF H rfl ⟨rfl, rfl⟩ ?_
 exact (fun _ _ h => h)
def Tryd.lay49_ren : Go.Shelf.Ren := ⟨fun | 35 => 49 | n => n, fun | 22 => 43 | 23 => 3 | 3 => 3 | 4 => 4 | 0 => 0 | n => n, fun | n => n⟩
theorem Tryd.lay49 : Go.Proofs.SlLaysE.n35 Tryd.prog Tryd.lay49_ren := {
 mixed := by kernel_rfl
 f35 := ⟨Tryd.f49.name, by decide, Tryd.func49.trans (congrArg some (by kernel_rfl))⟩
 t0 := Tryd.underlying0
 a0 := Tryd.isAgg0
 z0 := Tryd.sizeOf0
 v0 := Tryd.zeroValue0
 t3 := Tryd.underlying3
 a3 := Tryd.isAgg3
 z3 := Tryd.sizeOf3
 v3 := Tryd.zeroValue3
 t4 := Tryd.underlying4
 a4 := Tryd.isAgg4
 z4 := Tryd.sizeOf4
 v4 := Tryd.zeroValue4
 t22 := Tryd.underlying43
 a22 := Tryd.isAgg43
 z22 := Tryd.sizeOf43
 v22 := Tryd.zeroValue43
 a23 := Tryd.isAgg3
 z23 := Tryd.sizeOf3 }
theorem Z44_walk {s : Sl Int} {H : Heap} {id m : Nat} {nl : Bool} (hH : H id = some (.arr 1 (s.l.map (intE .i64)))) (hm : m = s.l.length) : ACalls Tryd.prog 49 [.d (.arr 1 id nl m)] H fun r h' => r = .tup [] ∧ h' = H.set id (some (.arr 1 ((Sl.rev s).l.map (intE .i64)))) :=
 revI_calls Tryd.lay49 hH hm rfl
end Go.Proofs

namespace Go.Proofs
open Go Go.Ab
open AOps Cert AWp
variable {lou : Lou}
section
variable [IsLoud lou]
def Z77_j22  (s4_23 : (Sl Token_Token)) (y24_l0 : TRef) (y25_l1 : TRef) : Option (TRef × Int) := (s4_23.l[0]?).bind fun x28 => bif (!decide (x28.FKind = (5 : Int))) then (some ((TRef.mk ([] : Bs) (Sl.nil : Sl Int)), (3 : Int))) else (bif (decide ((24 : Int) < ((y25_l1.FWraps.l.length : Nat) : Int))) then (some ((TRef.mk ([] : Bs) (Sl.nil : Sl Int)), (5 : Int))) else ((some (Sl.rev y25_l1.FWraps)).bind fun x37 => some ((TRef.mk y25_l1.FName x37), (0 : Int))))
def Z77_j44 (s8_41 : Int) (y42_l0 : TRef) (k_next_39 : (Sl Token_Token) → Int → TRef → TRef → Option (TRef × Int)) (s4_45 : (Sl Token_Token)) (y46_l1 : TRef) : Option (TRef × Int) := bif (decide (s8_41 = (0 : Int))) then (Z77_j22   s4_45 y42_l0 y46_l1) else ((s4_45.l[0]?).bind fun x52 => guardO (!(!decide (x52.FKind = (1 : Int)))) (s4_45.l[0]?) Token_Token.zero fun x53 => bif ((!decide (x52.FKind = (1 : Int))) || (!(x53.FText == ([93] : Bs)))) then (some ((TRef.mk ([] : Bs) (Sl.nil : Sl Int)), (3 : Int))) else ((appC 8 y46_l1.FWraps (⟨false, [(2 : Int)]⟩ : Sl Int)).bind fun x56 => (partC s4_45 (some (1 : Int)) none).bind fun x57 => (subC s8_41 (1 : Int)).bind fun x58 => k_next_39 x57 x58 y42_l0 (TRef.mk y46_l1.FName x56)))
def Z77_l39  : Nat → (Sl Token_Token) → Int → TRef → TRef → Option (TRef × Int)
 | 0, _, _, _, _ => none
 | n39 + 1, s4_40, s8_41, y42_l0, y43_l1 => (s4_40.l[0]?).bind fun x60 => guardO ((decide (x60.FKind = (1 : Int)))) (s4_40.l[0]?) Token_Token.zero fun x61 => bif ((decide (x60.FKind = (1 : Int))) && ((x61.FText == ([33] : Bs)))) then ((appC 8 y43_l1.FWraps (⟨false, [(1 : Int)]⟩ : Sl Int)).bind fun x63 => (partC s4_40 (some (1 : Int)) none).bind fun x64 => Z77_j44 s8_41 y42_l0 ((Z77_l39  n39)) x64 (TRef.mk y43_l1.FName x63)) else (Z77_j44 s8_41 y42_l0 ((Z77_l39  n39)) s4_40 y43_l1)
def Z77_j11  (s4_12 : (Sl Token_Token)) (s8_13 : Int) : Option (TRef × Int) := (s4_12.l[0]?).bind fun x16 => bif (!decide (x16.FKind = (2 : Int))) then (some ((TRef.mk ([] : Bs) (Sl.nil : Sl Int)), (3 : Int))) else ((s4_12.l[0]?).bind fun x20 => (partC s4_12 (some (1 : Int)) none).bind fun x21 => Z77_l39 F0 x21 s8_13 TRef.zero (TRef.mk x20.FText TRef.zero.FWraps))
def Z77_l65  : Nat → (Sl Token_Token) → Int → Option (TRef × Int)
 | 0, _, _ => none
 | n65 + 1, s4_66, s8_67 => (s4_66.l[0]?).bind fun x70 => guardO ((decide (x70.FKind = (1 : Int)))) (s4_66.l[0]?) Token_Token.zero fun x71 => bif ((decide (x70.FKind = (1 : Int))) && ((x71.FText == ([91] : Bs)))) then ((addC s8_67 (1 : Int)).bind fun x73 => (partC s4_66 (some (1 : Int)) none).bind fun x74 => (Z77_l65  n65) x74 x73) else (Z77_j11   s4_66 s8_67)
def Z77 (a0 : Bs) : Option (TRef × Int) := (Z63 a0).bind fun x3 => bif (!decide (x3.2.2 = (0 : Int))) then (some ((TRef.mk ([] : Bs) (Sl.nil : Sl Int)), x3.2.2)) else (Z77_l65 F0 x3.1 (0 : Int))
theorem Z77_walk {a0 : Bs} {oE : Ab.Obj} {gE : Nat} {r : (TRef × Int)} (hE : Z77 a0 = some r) (H : Heap) (hgE : H gE = some oE) (hoE : IsErr Tryd.prog oE) : ACalls Tryd.prog 27 [.d (.str a0)] H fun v h' => v = .tup [.agg (TRef.c r.1), .d (.int .i64 r.2)] ∧ h' = H := by
 unfold Z77 at hE
 refine ACalls.of_wp (fn := Tryd.f27) (c := _) Tryd.tab_ok (fun _ _ => Tryd.call27 _ _) Tryd.func27 rfl (n := 106) rfl (rs := [.cell 2 45, .tmp 3]) rfl rfl ?_
 refine seqK fun K1 hK1 => ?_
 refine region ?_
 refine sL (allocLA (TK rfl) rfl) rfl ?_
 refine s0 assignA rfl ?_
 refine nil ?_
 refine hK1 _ ?_
 clear hK1 K1
 refine seqK fun K2 hK2 => ?_
 refine region ?_
 refine s0 moveA rfl ?_
 obtain ⟨x3, gx3, hE⟩ := bindO_some hE
 refine s0 (callR rfl rfl (Z63_walk (gE := gE) (oE := oE) gx3 _ hpG (by assumption))) rfl ?_
 refine s0 moveA rfl ?_
 refine s0 (extract rfl rfl) rfl ?_
 refine s0 (extract rfl rfl) rfl ?_
 refine s0 (extract rfl rfl) rfl ?_
 refine s0 assignA rfl ?_
 refine s0 assignA rfl ?_
 refine s0 assignA rfl ?_
 refine nil ?_
 refine hK2 _ ?_
 clear hK2 K2
 refine seqK fun K4 hK4 => ?_
 refine seqK fun K5 hK5 => ?_
 refine region ?_
 refine s0 moveA rfl ?_
 refine s0 (binI rfl rfl rfl) rfl ?_
 refine nil ?_
 refine hK5 _ ?_
 clear hK5 K5
 refine condE hE rfl (fun hc6 hE => ?_) (fun hc6 hE => ?_)
 ·refine seqK fun K7 hK7 => ?_
  refine region ?_
  refine s0 (build Tryd.tab_ok rfl rfl rfl rfl rfl rfl) rfl ?_
  refine s0 moveA rfl ?_
  refine sLn (storeLFA (TK rfl) rfl rfl rfl rfl rfl) ?_
  refine s0 assignA rfl ?_
  refine nil ?_
  refine hK7 _ ?_
  clear hK7 K7
  refine AWp.ret ?_
  repeat (first | refine xBlock_ret ?_ | refine xThen_ret ?_)
  obtain rfl := Option.some.inj hE
  refine retQ.retF H rfl ⟨rfl, rfl⟩ ?_
  exact (fun _ _ h => h)
 refine AWp.skip ?_
 refine hK4 _ ?_
 clear hK4 K4
 refine seqK fun K8 hK8 => ?_
 refine region ?_
 refine sL (allocLA (TK rfl) rfl) rfl ?_
 refine AOps.arrO 1 fun tk7_9 htk7_9 => ?_
 have ne_tk7_9_gE : tk7_9 ≠ gE := fun e_ => by subst e_; simp_all
 refine AOps.relocal 1 _ rfl (fun j w cs hh hx => arr_cell 1 1 1 hh (t := tk7_9) hpG hx rfl) ?_
 refine nil ?_
 refine hK8 _ ?_
 clear hK8 K8
 refine seqK fun K10 hK10 => ?_
 refine region ?_
 refine s0 assignA rfl ?_
 refine nil ?_
 refine hK10 _ ?_
 clear hK10 K10
 refine seqJH (KeepsT.A (k := 2) (KeepsT.A (k := 7) KeepsT.nil)) (fun (z : (Sl Token_Token) × Int) => [(4, .a (.d (Sl.d 3 Token_Token.c none z.1))), (8, .a (.d (.int .i64 z.2)))]) (fun z => (H.set tk7_9 (some (.arr 1 [])))) (fun z => Z77_j11 z.1 z.2 = some r) ?_ ?_
 ·intro K11 hK11
  refine block ?_
  refine loopH (KeepsT.A (k := 2) (KeepsT.A (k := 7) KeepsT.nil)) (fun (z : Nat × (Sl Token_Token) × Int) => [(4, .a (.d (Sl.d 3 Token_Token.c none z.2.1))), (8, .a (.d (.int .i64 z.2.2)))]) (fun z => (H.set tk7_9 (some (.arr 1 [])))) (fun z => z.1) (fun z => Z77_l65 z.1 z.2.1 z.2.2 = some r) (F0, x3.1, (0 : Int)) hE Weak.toA ?_
  rintro ⟨n65, s4_66, s8_67⟩ hE K65 hK65
  try dsimp only at hE
  cases n65 with
  | zero => cases hE
  | succ n65 =>
    rw [Z77_l65] at hE
    refine seqK fun K68 hK68 => ?_
    refine seqK fun K69 hK69 => ?_
    refine region ?_
    refine s0 moveA rfl ?_
    obtain ⟨x70, gx70, hE⟩ := bindO_some hE
    refine s0 (idxMn (f := Token_Token.c) (n := 0) (TK rfl) rfl (TK rfl) rfl rfl rfl gx70) rfl ?_
    refine s0 (fieldVA (TK rfl) rfl rfl (TK rfl) rfl rfl) rfl ?_
    refine s0 (loadV (TK rfl) rfl rfl rfl) rfl ?_
    refine s0 (binI rfl rfl rfl) rfl ?_
    refine s0 moveA rfl ?_
    refine gC rfl rfl (fun hC => moveA) rfl ?_
    obtain ⟨x71, gx71, hE⟩ := guardO_some hE
    refine gC rfl rfl (fun hC => ungdA (k := 25) rfl (idxMn (f := Token_Token.c) (n := 0) (TK rfl) rfl (TK rfl) rfl rfl rfl (gx71 hC))) rfl ?_
    refine gC rfl rfl (fun hC => ungdA (k := 26) rfl (fieldVA (TK rfl) rfl rfl (TK rfl) rfl rfl)) rfl ?_
    refine gC rfl rfl (fun hC => ungdA (k := 27) rfl (loadV (TK rfl) rfl rfl rfl)) rfl ?_
    refine gC rfl rfl (fun hC => ungdA (k := 28) rfl (binS rfl rfl rfl)) rfl ?_
    refine s0 (pickAndA rfl rfl rfl) rfl ?_
    refine nil ?_
    refine hK69 _ ?_
    clear hK69 K69
    refine condE hE rfl (fun hc72 hE => ?_) (fun hc72 hE => ?_)
    ·refine AWp.skip ?_
     refine hK68 _ ?_
     clear hK68 K68
     refine block ?_
     refine AWp.draw rfl ?_
     refine DOps.s0 moveA rfl ?_
     obtain ⟨x73, gx73, hE⟩ := bindO_some hE
     refine DOps.s0 (addM rfl rfl gx73) rfl ?_
     refine DOps.s0 moveA rfl ?_
     obtain ⟨x74, gx74, hE⟩ := bindO_some hE
     refine DOps.s0 (partM (f := Token_Token.c) (l := (some (1 : Int))) (r := none) (TK rfl) rfl (TK rfl) rfl rfl rfl trivial gx74) rfl ?_
     refine DOps.s0 assignA rfl ?_
     refine DOps.s0 assignA rfl ?_
     refine DOps.nil (by decide +kernel) ?_
     exact hK65 _ (n65, x74, x73) Weak.toA hE (Nat.lt_succ_self _)
    refine AWp.exit ?_
    exact hK11 _ (s4_66, s8_67) Weak.toA hE
 rintro ⟨s4_12, s8_13⟩ hE
 try dsimp only at hE
 unfold Z77_j11 at hE
 refine seqK fun K14 hK14 => ?_
 refine seqK fun K15 hK15 => ?_
 refine region ?_
 refine s0 moveA rfl ?_
 obtain ⟨x16, gx16, hE⟩ := bindO_some hE
 refine s0 (idxMn (f := Token_Token.c) (n := 0) (TK rfl) rfl (TK rfl) rfl rfl rfl gx16) rfl ?_
 refine s0 (fieldVA (TK rfl) rfl rfl (TK rfl) rfl rfl) rfl ?_
 refine s0 (loadV (TK rfl) rfl rfl rfl) rfl ?_
 refine s0 (binI rfl rfl rfl) rfl ?_
 refine nil ?_
 refine hK15 _ ?_
 clear hK15 K15
 refine condE hE rfl (fun hc17 hE => ?_) (fun hc17 hE => ?_)
 ·refine seqK fun K18 hK18 => ?_
  refine region ?_
  refine s0 (build Tryd.tab_ok rfl rfl rfl rfl rfl rfl) rfl ?_
  refine sLn (storeLFA (TK rfl) rfl rfl rfl rfl rfl) ?_
  refine s0 assignA rfl ?_
  refine nil ?_
  refine hK18 _ ?_
  clear hK18 K18
  refine AWp.ret ?_
  repeat (first | refine xBlock_ret ?_ | refine xThen_ret ?_)
  obtain rfl := Option.some.inj hE
  refine retQ.retF H rfl ⟨rfl, rfl⟩ ?_
  first | exact Heap.sub_set htk7_9 | (simp only [Heap.set_set]; exact Heap.sub_set htk7_9)
 refine AWp.skip ?_
 refine hK14 _ ?_
 clear hK14 K14
 refine seqK fun K19 hK19 => ?_
 refine AWp.draw rfl ?_
 refine DOps.s0 moveA rfl ?_
 obtain ⟨x20, gx20, hE⟩ := bindO_some hE
 refine DOps.s0 (idxMn (f := Token_Token.c) (n := 0) (TK rfl) rfl (TK rfl) rfl rfl rfl gx20) rfl ?_
 refine DOps.s0 (fieldVA (TK rfl) rfl rfl (TK rfl) rfl rfl) rfl ?_
 refine DOps.s0 (loadV (TK rfl) rfl rfl rfl) rfl ?_
 refine DOps.s0 moveA rfl ?_
 obtain ⟨x21, gx21, hE⟩ := bindO_some hE
 refine DOps.s0 (partM (f := Token_Token.c) (l := (some (1 : Int))) (r := none) (TK rfl) rfl (TK rfl) rfl rfl rfl trivial gx21) rfl ?_
 refine DOps.s0 (fieldL (TK rfl) rfl rfl (TK rfl) rfl rfl) rfl ?_
 refine DOps.sLn (storeL1 (TK rfl) rfl rfl rfl rfl (by repeat (first | exact SetAt.zero | apply SetAt.succ)) (by repeat (first | exact SetAt.zero | apply SetAt.succ))) ?_
 refine DOps.s0 assignA rfl ?_
 refine DOps.nil (by decide +kernel) ?_
 refine hK19 _ ?_
 clear hK19 K19
 refine seqJ (KeepsT.A (k := 2) (KeepsT.A (k := 7) KeepsT.nil)) (fun (z : (Sl Token_Token) × TRef × TRef) => [(4, .a (.d (Sl.d 3 Token_Token.c none z.1)))]) (fun z => [TRef.c z.2.1, (strE z.2.2.FName ++ [.arr 1 tk7_9 z.2.2.FWraps.nl z.2.2.FWraps.l.length])]) (fun z => (H.set tk7_9 (some (.arr 1 (z.2.2.FWraps.l.map (intE .i64)))))) (fun z => Z77_j22 z.1 z.2.1 z.2.2 = some r) ?_ ?_
 ·intro K22 hK22
  refine block ?_
  refine loopO (KeepsT.A (k := 2) (KeepsT.A (k := 7) KeepsT.nil)) (fun (z : Nat × (Sl Token_Token) × Int × TRef × TRef) => [(4, .a (.d (Sl.d 3 Token_Token.c none z.2.1))), (8, .a (.d (.int .i64 z.2.2.1)))]) (fun z => [TRef.c z.2.2.2.1, (strE z.2.2.2.2.FName ++ [.arr 1 tk7_9 z.2.2.2.2.FWraps.nl z.2.2.2.2.FWraps.l.length])]) (fun z => (H.set tk7_9 (some (.arr 1 (z.2.2.2.2.FWraps.l.map (intE .i64)))))) (fun z => z.1) (fun z => Z77_l39 z.1 z.2.1 z.2.2.1 z.2.2.2.1 z.2.2.2.2 = some r) (F0, x21, s8_13, TRef.zero, (TRef.mk x20.FText TRef.zero.FWraps)) hE Weak.toA ?_
  rintro ⟨n39, s4_40, s8_41, y42_l0, y43_l1⟩ hE K39 hK39
  try dsimp only at hE
  cases n39 with
  | zero => cases hE
  | succ n39 =>
    rw [Z77_l39] at hE
    refine block ?_
    refine seqJ (KeepsT.A (k := 2) (KeepsT.A (k := 7) (KeepsT.A (k := 8) KeepsT.nil))) (fun (z : (Sl Token_Token) × TRef) => [(4, .a (.d (Sl.d 3 Token_Token.c none z.1)))]) (fun z => [TRef.c y42_l0, (strE z.2.FName ++ [.arr 1 tk7_9 z.2.FWraps.nl z.2.FWraps.l.length])]) (fun z => (H.set tk7_9 (some (.arr 1 (z.2.FWraps.l.map (intE .i64)))))) (fun z => Z77_j44 s8_41 y42_l0 ((Z77_l39 n39)) z.1 z.2 = some r) ?_ ?_
    ·intro K44 hK44
     refine seqK fun K59 hK59 => ?_
     refine region ?_
     refine s0 moveA rfl ?_
     obtain ⟨x60, gx60, hE⟩ := bindO_some hE
     refine s0 (idxMn (f := Token_Token.c) (n := 0) (TK rfl) rfl (TK rfl) rfl rfl rfl gx60) rfl ?_
     refine s0 (fieldVA (TK rfl) rfl rfl (TK rfl) rfl rfl) rfl ?_
     refine s0 (loadV (TK rfl) rfl rfl rfl) rfl ?_
     refine s0 (binI rfl rfl rfl) rfl ?_
     refine s0 moveA rfl ?_
     refine gC rfl rfl (fun hC => moveA) rfl ?_
     obtain ⟨x61, gx61, hE⟩ := guardO_some hE
     refine gC rfl rfl (fun hC => ungdA (k := 54) rfl (idxMn (f := Token_Token.c) (n := 0) (TK rfl) rfl (TK rfl) rfl rfl rfl (gx61 hC))) rfl ?_
     refine gC rfl rfl (fun hC => ungdA (k := 55) rfl (fieldVA (TK rfl) rfl rfl (TK rfl) rfl rfl)) rfl ?_
     refine gC rfl rfl (fun hC => ungdA (k := 56) rfl (loadV (TK rfl) rfl rfl rfl)) rfl ?_
     refine gC rfl rfl (fun hC => ungdA (k := 57) rfl (binS rfl rfl rfl)) rfl ?_
     refine s0 (pickAndA rfl rfl rfl) rfl ?_
     refine nil ?_
     refine hK59 _ ?_
     clear hK59 K59
     refine condE hE rfl (fun hc62 hE => ?_) (fun hc62 hE => ?_)
     ·refine AWp.draw rfl ?_
      refine DOps.s0 (fieldL (TK rfl) rfl rfl (TK rfl) rfl rfl) rfl ?_
      refine DOps.s0 (loadL (TK rfl) rfl rfl rfl rfl) rfl ?_
      refine DOps.s0 (buildSlice (TK rfl) rfl (TK rfl) rfl rfl rfl rfl rfl rfl) rfl ?_
      obtain ⟨x63, gx63, hE⟩ := bindO_some hE
      refine DOps.sH (appR (f := (intE .i64)) (s := y43_l1.FWraps) (TK rfl) rfl (TK rfl) (TK rfl) ⟨_, rfl⟩ rfl rfl rfl rfl rfl rfl hpG (by first | rfl | simp [Sl.setL, Sl.nil, sortL_len]) rfl gx63) rfl ?_
      refine DOps.heq (h' := (H.set tk7_9 (some (.arr 1 (x63.l.map (intE .i64)))))) (by first | rfl | (rw [Heap.set_set]; rfl) | (funext n_; simp only [Heap.set]; (repeat' split) <;> first | rfl | (exfalso; simp_all; done) | (simp_all; done))) ?_
      refine DOps.s0 moveA rfl ?_
      obtain ⟨x64, gx64, hE⟩ := bindO_some hE
      refine DOps.s0 (partM (f := Token_Token.c) (l := (some (1 : Int))) (r := none) (TK rfl) rfl (TK rfl) rfl rfl rfl trivial gx64) rfl ?_
      refine DOps.s0 (fieldL (TK rfl) rfl rfl (TK rfl) rfl rfl) rfl ?_
      refine DOps.sLn (storeL1 (TK rfl) rfl rfl rfl rfl (by repeat (first | exact SetAt.zero | apply SetAt.succ)) (by repeat (first | exact SetAt.zero | apply SetAt.succ))) ?_
      refine DOps.s0 assignA rfl ?_
      refine DOps.nil (by decide +kernel) ?_
      exact hK44 _ (x64, (TRef.mk y43_l1.FName x63)) Weak.toA hE
     refine AWp.skip ?_
     exact hK44 _ (s4_40, y43_l1) Weak.toA hE
    rintro ⟨s4_45, y46_l1⟩ hE
    try dsimp only at hE
    unfold Z77_j44 at hE
    refine seqK fun K47 hK47 => ?_
    refine seqK fun K48 hK48 => ?_
    refine region ?_
    refine s0 moveA rfl ?_
    refine s0 (binI rfl rfl rfl) rfl ?_
    refine nil ?_
    refine hK48 _ ?_
    clear hK48 K48
    refine condE hE rfl (fun hc49 hE => ?_) (fun hc49 hE => ?_)
    ·refine AWp.exit ?_
     exact hK22 _ (s4_45, y42_l0, y46_l1) Weak.toA hE
    refine AWp.skip ?_
    refine hK47 _ ?_
    clear hK47 K47
    refine seqK fun K50 hK50 => ?_
    refine seqK fun K51 hK51 => ?_
    refine region ?_
    refine s0 moveA rfl ?_
    obtain ⟨x52, gx52, hE⟩ := bindO_some hE
    refine s0 (idxMn (f := Token_Token.c) (n := 0) (TK rfl) rfl (TK rfl) rfl rfl rfl gx52) rfl ?_
    refine s0 (fieldVA (TK rfl) rfl rfl (TK rfl) rfl rfl) rfl ?_
    refine s0 (loadV (TK rfl) rfl rfl rfl) rfl ?_
    refine s0 (binI rfl rfl rfl) rfl ?_
    refine s0 moveA rfl ?_
    refine gC rfl rfl (fun hC => moveA) rfl ?_
    obtain ⟨x53, gx53, hE⟩ := guardO_some hE
    refine gC rfl rfl (fun hC => ungdA (k := 75) rfl (idxMn (f := Token_Token.c) (n := 0) (TK rfl) rfl (TK rfl) rfl rfl rfl (gx53 hC))) rfl ?_
    refine gC rfl rfl (fun hC => ungdA (k := 76) rfl (fieldVA (TK rfl) rfl rfl (TK rfl) rfl rfl)) rfl ?_
    refine gC rfl rfl (fun hC => ungdA (k := 77) rfl (loadV (TK rfl) rfl rfl rfl)) rfl ?_
    refine gC rfl rfl (fun hC => ungdA (k := 78) rfl (binS rfl rfl rfl)) rfl ?_
    refine s0 (pickOrA rfl rfl rfl) rfl ?_
    refine nil ?_
    refine hK51 _ ?_
    clear hK51 K51
    refine condE hE rfl (fun hc54 hE => ?_) (fun hc54 hE => ?_)
    ·refine seqK fun K55 hK55 => ?_
     refine region ?_
     refine s0 (build Tryd.tab_ok rfl rfl rfl rfl rfl rfl) rfl ?_
     refine sLn (storeLFA (TK rfl) rfl rfl rfl rfl rfl) ?_
     refine s0 assignA rfl ?_
     refine nil ?_
     refine hK55 _ ?_
     clear hK55 K55
     refine AWp.ret ?_
     repeat (first | refine xBlock_ret ?_ | refine xThen_ret ?_)
     obtain rfl := Option.some.inj hE
     refine retQ.retF H rfl ⟨rfl, rfl⟩ ?_
     first | exact Heap.sub_set htk7_9 | (simp only [Heap.set_set]; exact Heap.sub_set htk7_9)
    refine AWp.skip ?_
    refine hK50 _ ?_
    clear hK50 K50
    refine AWp.draw rfl ?_
    refine DOps.s0 (fieldL (TK rfl) rfl rfl (TK rfl) rfl rfl) rfl ?_
    refine DOps.s0 (loadL (TK rfl) rfl rfl rfl rfl) rfl ?_
    refine DOps.s0 (buildSlice (TK rfl) rfl (TK rfl) rfl rfl rfl rfl rfl rfl) rfl ?_
    obtain ⟨x56, gx56, hE⟩ := bindO_some hE
    refine DOps.sH (appR (f := (intE .i64)) (s := y46_l1.FWraps) (TK rfl) rfl (TK rfl) (TK rfl) ⟨_, rfl⟩ rfl rfl rfl rfl rfl rfl hpG (by first | rfl | simp [Sl.setL, Sl.nil, sortL_len]) rfl gx56) rfl ?_
    refine DOps.heq (h' := (H.set tk7_9 (some (.arr 1 (x56.l.map (intE .i64)))))) (by first | rfl | (rw [Heap.set_set]; rfl) | (funext n_; simp only [Heap.set]; (repeat' split) <;> first | rfl | (exfalso; simp_all; done) | (simp_all; done))) ?_
    refine DOps.s0 moveA rfl ?_
    obtain ⟨x57, gx57, hE⟩ := bindO_some hE
    refine DOps.s0 (partM (f := Token_Token.c) (l := (some (1 : Int))) (r := none) (TK rfl) rfl (TK rfl) rfl rfl rfl trivial gx57) rfl ?_
    refine DOps.s0 moveA rfl ?_
    obtain ⟨x58, gx58, hE⟩ := bindO_some hE
    refine DOps.s0 (subM rfl rfl gx58) rfl ?_
    refine DOps.s0 (fieldL (TK rfl) rfl rfl (TK rfl) rfl rfl) rfl ?_
    refine DOps.sLn (storeL1 (TK rfl) rfl rfl rfl rfl (by repeat (first | exact SetAt.zero | apply SetAt.succ)) (by repeat (first | exact SetAt.zero | apply SetAt.succ))) ?_
    refine DOps.s0 assignA rfl ?_
    refine DOps.s0 assignA rfl ?_
    refine DOps.nil (by decide +kernel) ?_
    exact hK39 _ (n39, x57, x58, y42_l0, (TRef.mk y46_l1.FName x56)) Weak.toA hE (Nat.lt_succ_self _)
 rintro ⟨s4_23, y24_l0, y25_l1⟩ hE
 try dsimp only at hE
 unfold Z77_j22 at hE
 refine seqK fun K26 hK26 => ?_
 refine seqK fun K27 hK27 => ?_
 refine region ?_
 refine s0 moveA rfl ?_
 obtain ⟨x28, gx28, hE⟩ := bindO_some hE
 refine s0 (idxMn (f := Token_Token.c) (n := 0) (TK rfl) rfl (TK rfl) rfl rfl rfl gx28) rfl ?_
 refine s0 (fieldVA (TK rfl) rfl rfl (TK rfl) rfl rfl) rfl ?_
 refine s0 (loadV (TK rfl) rfl rfl rfl) rfl ?_
 refine s0 (binI rfl rfl rfl) rfl ?_
 refine nil ?_
 refine hK27 _ ?_
 clear hK27 K27
 refine condE hE rfl (fun hc29 hE => ?_) (fun hc29 hE => ?_)
 ·refine seqK fun K30 hK30 => ?_
  refine region ?_
  refine s0 (build Tryd.tab_ok rfl rfl rfl rfl rfl rfl) rfl ?_
  refine sLn (storeLFA (TK rfl) rfl rfl rfl rfl rfl) ?_
  refine s0 assignA rfl ?_
  refine nil ?_
  refine hK30 _ ?_
  clear hK30 K30
  refine AWp.ret ?_
  repeat (first | refine xBlock_ret ?_ | refine xThen_ret ?_)
  obtain rfl := Option.some.inj hE
  refine retQ.retF H rfl ⟨rfl, rfl⟩ ?_
  first | exact Heap.sub_set htk7_9 | (simp only [Heap.set_set]; exact Heap.sub_set htk7_9)
 refine AWp.skip ?_
 refine hK26 _ ?_
 clear hK26 K26
 refine seqK fun K31 hK31 => ?_
 refine seqK fun K32 hK32 => ?_
 refine region ?_
 refine s0 (fieldL (TK rfl) rfl rfl (TK rfl) rfl rfl) rfl ?_
 refine s0 (loadL (TK rfl) rfl rfl rfl rfl) rfl ?_
 refine AOps.sLenR (f := (intE .i64)) (l := y25_l1.FWraps.l) (TK rfl) rfl rfl rfl hpG (by first | rfl | simp [Sl.setL, Sl.nil, sortL_len]) rfl fun hL33 => ?_
 refine s0 (binI rfl rfl rfl) rfl ?_
 refine nil ?_
 refine hK32 _ ?_
 clear hK32 K32
 refine condE hE rfl (fun hc34 hE => ?_) (fun hc34 hE => ?_)
 ·refine seqK fun K35 hK35 => ?_
  refine region ?_
  refine s0 (build Tryd.tab_ok rfl rfl rfl rfl rfl rfl) rfl ?_
  refine sLn (storeLFA (TK rfl) rfl rfl rfl rfl rfl) ?_
  refine s0 assignA rfl ?_
  refine nil ?_
  refine hK35 _ ?_
  clear hK35 K35
  refine AWp.ret ?_
  repeat (first | refine xBlock_ret ?_ | refine xThen_ret ?_)
  obtain rfl := Option.some.inj hE
  refine retQ.retF H rfl ⟨rfl, rfl⟩ ?_
  first | exact Heap.sub_set htk7_9 | (simp only [Heap.set_set]; exact Heap.sub_set htk7_9)
 refine AWp.skip ?_
 refine hK31 _ ?_
 clear hK31 K31
 refine seqK fun K36 hK36 => ?_
 refine region ?_
 refine s0 (fieldL (TK rfl) rfl rfl (TK rfl) rfl rfl) rfl ?_
 refine s0 (loadL (TK rfl) rfl rfl rfl rfl) rfl ?_
 obtain ⟨x37, gx37, hE⟩ := bindO_some hE
 have ex37 := Option.some.inj gx37
 refine sH (callH rfl rfl (Z44_walk (s := y25_l1.FWraps) hpG (by first | rfl | simp [Sl.setL, Sl.nil, sortL_len]))) rfl ?_
 refine AOps.heq (h' := (H.set tk7_9 (some (.arr 1 (x37.l.map (intE .i64)))))) (by subst ex37; exact (by first | rfl | (rw [Heap.set_set]; rfl) | (funext n_; simp only [Heap.set]; (repeat' split) <;> first | rfl | (exfalso; simp_all; done) | (simp_all; done)))) ?_
 refine AOps.relocal 1 (strE (TRef.mk y25_l1.FName x37).FName ++ [.arr 1 tk7_9 (TRef.mk y25_l1.FName x37).FWraps.nl (TRef.mk y25_l1.FName x37).FWraps.l.length]) rfl (fun j w cs hh hx => by subst ex37; first | exact hx | simpa [Sl.rev] using hx) ?_
 refine nil ?_
 refine hK36 _ ?_
 clear hK36 K36
 refine seqK fun K38 hK38 => ?_
 refine AWp.frzL 1 1 tk7_9 rfl rfl hpG (by first | rfl | (simp [Sl.setL, Sl.nil, sortL_len]; done) | (subst_vars; first | rfl | (simp [Sl.setL, Sl.nil, sortL_len]; done))) ?_
 refine AWp.heqA (h' := H) (by first | rfl | (rw [Heap.set_set]; rfl) | (funext n_; simp only [Heap.set]; (repeat' split) <;> first | rfl | (exfalso; simp_all; done) | (simp_all; done))) ?_
 refine region ?_
 refine s0 (loadL (TK rfl) rfl rfl rfl rfl) rfl ?_
 refine sLn (storeLFA (TK rfl) rfl rfl rfl rfl rfl) ?_
 refine s0 assignA rfl ?_
 refine nil ?_
 refine hK38 _ ?_
 clear hK38 K38
 refine AWp.ret ?_
 repeat (first | refine xBlock_ret ?_ | refine xThen_ret ?_)
 obtain rfl := Option.some.inj hE
 refine retQ.retF H rfl ⟨rfl, rfl⟩ ?_
 exact (fun _ _ h => h)
end
def Z40_j8   : Option Bool := some true
def Z40_l11 (a0 : (Sl Int)) (a1 : (Sl Int))  : Nat → Nat → Option Bool
 | 0, _ => none
 | n11 + 1, s5_12 => bif (decide (((s5_12 : Nat) : Int) < ((a0.l.length : Nat) : Int))) then ((a0.l[s5_12]?).bind fun x19 => (a1.l[s5_12]?).bind fun x20 => bif (!decide (x19 = x20)) then (some false) else ((Z40_l11 a0 a1 n11) (s5_12 + 1))) else (Z40_j8   )
def Z40 (a0 : (Sl Int)) (a1 : (Sl Int)) : Option Bool := bif (!decide (((a0.l.length : Nat) : Int) = ((a1.l.length : Nat) : Int))) then (some false) else (Z40_l11 a0 a1 (a0.l.length + 1) 0)
theorem Z40_walk {a0 : (Sl Int)} {a1 : (Sl Int)} {w0 : Option Nat} {w1 : Option Nat}  {r : Bool} (hE : Z40 a0 a1 = some r) (H : Heap)  : ACalls Tryd.prog 52 [.d (Sl.d 1 (intE .i64) w0 a0), .d (Sl.d 1 (intE .i64) w1 a1)] H fun v h' => v = .a (.d (.bool r)) ∧ h' = H := by
 unfold Z40 at hE
 refine ACalls.of_wp (fn := Tryd.f52) (c := _) Tryd.tab_ok (fun _ _ => Tryd.call52 _ _) Tryd.func52 rfl (n := 26) rfl (rs := [.tmp 4]) rfl rfl ?_
 refine seqK fun K1 hK1 => ?_
 refine region ?_
 refine s0 assignA rfl ?_
 refine nil ?_
 refine hK1 _ ?_
 clear hK1 K1
 refine seqK fun K2 hK2 => ?_
 refine seqK fun K3 hK3 => ?_
 refine region ?_
 refine s0 moveA rfl ?_
 refine sLen (f := (intE .i64)) (s := a0) (TK rfl) rfl rfl rfl rfl fun hL4 => ?_
 refine s0 moveA rfl ?_
 refine sLen (f := (intE .i64)) (s := a1) (TK rfl) rfl rfl rfl rfl fun hL5 => ?_
 refine s0 (binI rfl rfl rfl) rfl ?_
 refine nil ?_
 refine hK3 _ ?_
 clear hK3 K3
 refine condE hE rfl (fun hc6 hE => ?_) (fun hc6 hE => ?_)
 ·refine seqK fun K7 hK7 => ?_
  refine region ?_
  refine s0 assignA rfl ?_
  refine nil ?_
  refine hK7 _ ?_
  clear hK7 K7
  refine AWp.ret ?_
  repeat (first | refine xBlock_ret ?_ | refine xThen_ret ?_)
  obtain rfl := Option.some.inj hE
  refine retQ.retF H rfl ⟨rfl, rfl⟩ ?_
  exact (fun _ _ h => h)
 refine AWp.skip ?_
 refine hK2 _ ?_
 clear hK2 K2
 refine seqJH KeepsT.nil (fun (z : Unit) => []) (fun z => H) (fun z => Z40_j8  = some r) ?_ ?_
 ·intro K8 hK8
  refine seqK fun K10 hK10 => ?_
  refine region ?_
  refine s0 assignA rfl ?_
  refine nil ?_
  refine hK10 _ ?_
  clear hK10 K10
  refine block ?_
  refine loopH (KeepsT.A (k := 0) (KeepsT.A (k := 1) KeepsT.nil)) (fun (z : Nat × Nat) => [(5, .a (.d (.int .i64 ((z.2 : Nat) : Int))))]) (fun z => H) (fun z => z.1) (fun z => Z40_l11 a0 a1 z.1 z.2 = some r) ((a0.l.length + 1), 0) hE Weak.toA ?_
  rintro ⟨n11, s5_12⟩ hE K11 hK11
  try dsimp only at hE
  cases n11 with
  | zero => cases hE
  | succ n11 =>
    rw [Z40_l11] at hE
    refine seqK fun K13 hK13 => ?_
    refine seqK fun K14 hK14 => ?_
    refine region ?_
    refine s0 moveA rfl ?_
    refine s0 moveA rfl ?_
    refine sLen (f := (intE .i64)) (s := a0) (TK rfl) rfl rfl rfl rfl fun hL15 => ?_
    refine s0 (binI rfl rfl rfl) rfl ?_
    refine nil ?_
    refine hK14 _ ?_
    clear hK14 K14
    refine condE hE rfl (fun hc16 hE => ?_) (fun hc16 hE => ?_)
    ·try dsimp only at hc16
     have hf16 := of_decide_eq_true hc16
     refine AWp.skip ?_
     refine hK13 _ ?_
     clear hK13 K13
     refine seqK fun K17 hK17 => ?_
     refine block ?_
     refine seqK fun K18 hK18 => ?_
     refine AWp.draw rfl ?_
     refine DOps.s0 moveA rfl ?_
     refine DOps.s0 moveA rfl ?_
     obtain ⟨x19, gx19, hE⟩ := bindO_some hE
     refine DOps.s0 (idxMn (f := (intE .i64)) (n := s5_12) (TK rfl) rfl (TK rfl) rfl rfl rfl gx19) rfl ?_
     refine DOps.s0 (loadV (TK rfl) rfl rfl rfl) rfl ?_
     refine DOps.s0 moveA rfl ?_
     refine DOps.s0 moveA rfl ?_
     obtain ⟨x20, gx20, hE⟩ := bindO_some hE
     refine DOps.s0 (idxMn (f := (intE .i64)) (n := s5_12) (TK rfl) rfl (TK rfl) rfl rfl rfl gx20) rfl ?_
     refine DOps.s0 (loadV (TK rfl) rfl rfl rfl) rfl ?_
     refine DOps.s0 (binI rfl rfl rfl) rfl ?_
     refine DOps.nil (by decide +kernel) ?_
     refine hK18 _ ?_
     clear hK18 K18
     refine condE hE rfl (fun hc21 hE => ?_) (fun hc21 hE => ?_)
     ·refine seqK fun K22 hK22 => ?_
      refine region ?_
      refine s0 assignA rfl ?_
      refine nil ?_
      refine hK22 _ ?_
      clear hK22 K22
      refine AWp.ret ?_
      repeat (first | refine xBlock_ret ?_ | refine xThen_ret ?_)
      obtain rfl := Option.some.inj hE
      refine retQ.retF H rfl ⟨rfl, rfl⟩ ?_
      exact (fun _ _ h => h)
     refine AWp.skip ?_
     refine hK17 _ ?_
     clear hK17 K17
     refine region ?_
     refine s0 moveA rfl ?_
     refine s0 (addI rfl rfl (by first | omega | (dsimp only; omega) | (simp at *; omega)) (by first | omega | (dsimp only; omega) | (simp at *; omega))) rfl ?_
     refine s0 assignA rfl ?_
     refine nil ?_
     exact hK11 _ (n11, (s5_12 + 1)) Weak.toA hE (Nat.lt_succ_self _)
    refine AWp.exit ?_
    exact hK8 _ () Weak.toA hE
 rintro _ hE
 try dsimp only at hE
 unfold Z40_j8 at hE
 refine seqK fun K9 hK9 => ?_
 refine region ?_
 refine s0 assignA rfl ?_
 refine nil ?_
 refine hK9 _ ?_
 clear hK9 K9
 refine AWp.ret ?_
 repeat (first | refine xBlock_ret ?_ | refine xThen_ret ?_)
 obtain rfl := Option.some.inj hE
 refine retQ.retF H rfl ⟨rfl, rfl⟩ ?_
 exact (fun _ _ h => h)
def Z38 (a0 : TRef) (a1 : TRef) : Option Bool := guardO (((a0.FName == a1.FName))) (Z40 a0.FWraps a1.FWraps) false fun x3 => some (((a0.FName == a1.FName)) && x3)
theorem Z38_walk {a0 : TRef} {a1 : TRef}   {r : Bool} (hE : Z38 a0 a1 = some r) (H : Heap)  : ACalls Tryd.prog 29 [.agg (TRef.c a0), .agg (TRef.c a1)] H fun v h' => v = .a (.d (.bool r)) ∧ h' = H := by
 unfold Z38 at hE
 refine ACalls.of_wp (fn := Tryd.f29) (c := _) Tryd.tab_ok (fun _ _ => Tryd.call29 _ _) Tryd.func29 rfl (n := 17) rfl (rs := [.tmp 4]) rfl rfl ?_
 refine seqK fun K1 hK1 => ?_
 refine region ?_
 refine s0 (boxV rfl) rfl ?_
 refine s0 (boxV rfl) rfl ?_
 refine s0 assignA rfl ?_
 refine nil ?_
 refine hK1 _ ?_
 clear hK1 K1
 refine seqK fun K2 hK2 => ?_
 refine region ?_
 refine s0 (fieldVA (TK rfl) rfl rfl (TK rfl) rfl rfl) rfl ?_
 refine s0 (loadV (TK rfl) rfl rfl rfl) rfl ?_
 refine s0 (fieldVA (TK rfl) rfl rfl (TK rfl) rfl rfl) rfl ?_
 refine s0 (loadV (TK rfl) rfl rfl rfl) rfl ?_
 refine s0 (binS rfl rfl rfl) rfl ?_
 refine s0 moveA rfl ?_
 refine gC rfl rfl (fun hC => fieldVA (TK rfl) rfl rfl (TK rfl) rfl rfl) rfl ?_
 refine gC rfl rfl (fun hC => ungdA (k := 11) rfl (loadV (TK rfl) rfl rfl rfl)) rfl ?_
 refine gC rfl rfl (fun hC => fieldVA (TK rfl) rfl rfl (TK rfl) rfl rfl) rfl ?_
 refine gC rfl rfl (fun hC => ungdA (k := 13) rfl (loadV (TK rfl) rfl rfl rfl)) rfl ?_
 obtain ⟨x3, gx3, hE⟩ := guardO_some hE
 refine gC rfl rfl (fun hC => ungdA (k := 12) rfl (ungdA (k := 14) rfl (callP rfl rfl (fun H => Z40_walk (gx3 hC) H)))) rfl ?_
 refine s0 (pickAndA rfl rfl rfl) rfl ?_
 refine s0 assignA rfl ?_
 refine nil ?_
 refine hK2 _ ?_
 clear hK2 K2
 refine AWp.ret ?_
 repeat (first | refine xBlock_ret ?_ | refine xThen_ret ?_)
 obtain rfl := Option.some.inj hE
 refine retQ.retF H rfl ⟨rfl, rfl⟩ ?_
 exact (fun _ _ h => h)
def Z74 (a0 : Bs) : Option TRef := some (TRef.mk a0 (Sl.nil : Sl Int))
theorem Z74_walk {a0 : Bs}   {r : TRef} (hE : Z74 a0 = some r) (H : Heap)  : ACalls Tryd.prog 38 [.d (.str a0)] H fun v h' => v = .a (.agg (TRef.c r)) ∧ h' = H := by
 unfold Z74 at hE
 refine ACalls.of_wp (fn := Tryd.f38) (c := _) Tryd.tab_ok (fun _ _ => Tryd.call38 _ _) Tryd.func38 rfl (n := 5) rfl (rs := [.cell 2 45]) rfl rfl ?_
 refine seqK fun K1 hK1 => ?_
 refine region ?_
 refine sL (allocLA (TK rfl) rfl) rfl ?_
 refine nil ?_
 refine hK1 _ ?_
 clear hK1 K1
 refine seqK fun K2 hK2 => ?_
 refine region ?_
 refine s0 moveA rfl ?_
 refine s0 (build Tryd.tab_ok rfl rfl rfl rfl rfl rfl) rfl ?_
 refine sLn (storeLFA (TK rfl) rfl rfl rfl rfl rfl) ?_
 refine nil ?_
 refine hK2 _ ?_
 clear hK2 K2
 refine AWp.ret ?_
 repeat (first | refine xBlock_ret ?_ | refine xThen_ret ?_)
 obtain rfl := Option.some.inj hE
 refine retQ.retF H rfl ⟨rfl, rfl⟩ ?_
 exact (fun _ _ h => h)
def Z75 (a0 : TRef) : Option TRef := (Z72 a0).bind fun x4 => bif x4 then ((Z41 a0.FWraps).bind fun x7 => some (TRef.mk a0.FName x7)) else ((appC 8 (⟨false, [(1 : Int)]⟩ : Sl Int) a0.FWraps).bind fun x9 => some (TRef.mk a0.FName x9))
theorem Z75_walk {a0 : TRef}   {r : TRef} (hE : Z75 a0 = some r) (H : Heap)  : ACalls Tryd.prog 39 [.agg (TRef.c a0)] H fun v h' => v = .a (.agg (TRef.c r)) ∧ h' = H := by
 unfold Z75 at hE
 refine ACalls.of_wp (fn := Tryd.f39) (c := _) Tryd.tab_ok (fun _ _ => Tryd.call39 _ _) Tryd.func39 rfl (n := 18) rfl (rs := [.cell 2 45]) rfl rfl ?_
 refine seqK fun K1 hK1 => ?_
 refine region ?_
 refine s0 (boxV rfl) rfl ?_
 refine sL (allocLA (TK rfl) rfl) rfl ?_
 refine nil ?_
 refine hK1 _ ?_
 clear hK1 K1
 refine seqK fun K2 hK2 => ?_
 refine seqK fun K3 hK3 => ?_
 refine region ?_
 refine s0 (loadV (TK rfl) rfl rfl rfl) rfl ?_
 obtain ⟨x4, gx4, hE⟩ := bindO_some hE
 refine s0 (callP rfl rfl (fun H => Z72_walk gx4 H)) rfl ?_
 refine nil ?_
 refine hK3 _ ?_
 clear hK3 K3
 refine condE hE rfl (fun hc5 hE => ?_) (fun hc5 hE => ?_)
 ·refine seqK fun K6 hK6 => ?_
  refine AWp.draw rfl ?_
  refine DOps.s0 (fieldVA (TK rfl) rfl rfl (TK rfl) rfl rfl) rfl ?_
  refine DOps.s0 (loadV (TK rfl) rfl rfl rfl) rfl ?_
  refine DOps.s0 (fieldVA (TK rfl) rfl rfl (TK rfl) rfl rfl) rfl ?_
  refine DOps.s0 (loadV (TK rfl) rfl rfl rfl) rfl ?_
  obtain ⟨x7, gx7, hE⟩ := bindO_some hE
  refine DOps.s0 (callP rfl rfl (fun H => Z41_walk gx7 H)) rfl ?_
  refine DOps.s0 (build Tryd.tab_ok rfl rfl rfl rfl rfl rfl) rfl ?_
  refine DOps.sLn (storeLFA (TK rfl) rfl rfl rfl rfl rfl) ?_
  refine DOps.nil (by decide +kernel) ?_
  refine hK6 _ ?_
  clear hK6 K6
  refine AWp.ret ?_
  repeat (first | refine xBlock_ret ?_ | refine xThen_ret ?_)
  obtain rfl := Option.some.inj hE
  refine retQ.retF H rfl ⟨rfl, rfl⟩ ?_
  exact (fun _ _ h => h)
 refine AWp.skip ?_
 refine hK2 _ ?_
 clear hK2 K2
 refine seqK fun K8 hK8 => ?_
 refine AWp.draw rfl ?_
 refine DOps.s0 (fieldVA (TK rfl) rfl rfl (TK rfl) rfl rfl) rfl ?_
 refine DOps.s0 (loadV (TK rfl) rfl rfl rfl) rfl ?_
 refine DOps.s0 (buildSliceF (TK rfl) rfl (TK rfl) rfl rfl rfl rfl rfl rfl) rfl ?_
 refine DOps.s0 (fieldVA (TK rfl) rfl rfl (TK rfl) rfl rfl) rfl ?_
 refine DOps.s0 (loadV (TK rfl) rfl rfl rfl) rfl ?_
 obtain ⟨x9, gx9, hE⟩ := bindO_some hE
 refine DOps.s0 (appFM (f := (intE .i64)) (TK rfl) rfl (TK rfl) (TK rfl) ⟨_, rfl⟩ rfl rfl (by decide) rfl rfl rfl (by intro q h; cases h <;> decide) rfl rfl gx9) rfl ?_
 refine DOps.s0 (build Tryd.tab_ok rfl rfl rfl rfl rfl rfl) rfl ?_
 refine DOps.sLn (storeLFA (TK rfl) rfl rfl rfl rfl rfl) ?_
 refine DOps.nil (by decide +kernel) ?_
 refine hK8 _ ?_
 clear hK8 K8
 refine AWp.ret ?_
 repeat (first | refine xBlock_ret ?_ | refine xThen_ret ?_)
 obtain rfl := Option.some.inj hE
 refine retQ.retF H rfl ⟨rfl, rfl⟩ ?_
 exact (fun _ _ h => h)
def Z73 (a0 : TRef) : Option TRef := (appC 8 (⟨false, [(2 : Int)]⟩ : Sl Int) a0.FWraps).bind fun x3 => some (TRef.mk a0.FName x3)
theorem Z73_walk {a0 : TRef}   {r : TRef} (hE : Z73 a0 = some r) (H : Heap)  : ACalls Tryd.prog 40 [.agg (TRef.c a0)] H fun v h' => v = .a (.agg (TRef.c r)) ∧ h' = H := by
 unfold Z73 at hE
 refine ACalls.of_wp (fn := Tryd.f40) (c := _) Tryd.tab_ok (fun _ _ => Tryd.call40 _ _) Tryd.func40 rfl (n := 10) rfl (rs := [.cell 2 45]) rfl rfl ?_
 refine seqK fun K1 hK1 => ?_
 refine region ?_
 refine s0 (boxV rfl) rfl ?_
 refine sL (allocLA (TK rfl) rfl) rfl ?_
 refine nil ?_
 refine hK1 _ ?_
 clear hK1 K1
 refine seqK fun K2 hK2 => ?_
 refine AWp.draw rfl ?_
 refine DOps.s0 (fieldVA (TK rfl) rfl rfl (TK rfl) rfl rfl) rfl ?_
 refine DOps.s0 (loadV (TK rfl) rfl rfl rfl) rfl ?_
 refine DOps.s0 (buildSliceF (TK rfl) rfl (TK rfl) rfl rfl rfl rfl rfl rfl) rfl ?_
 refine DOps.s0 (fieldVA (TK rfl) rfl rfl (TK rfl) rfl rfl) rfl ?_
 refine DOps.s0 (loadV (TK rfl) rfl rfl rfl) rfl ?_
 obtain ⟨x3, gx3, hE⟩ := bindO_some hE
 refine DOps.s0 (appFM (f := (intE .i64)) (TK rfl) rfl (TK rfl) (TK rfl) ⟨_, rfl⟩ rfl rfl (by decide) rfl rfl rfl (by intro q h; cases h <;> decide) rfl rfl gx3) rfl ?_
 refine DOps.s0 (build Tryd.tab_ok rfl rfl rfl rfl rfl rfl) rfl ?_
 refine DOps.sLn (storeLFA (TK rfl) rfl rfl rfl rfl rfl) ?_
 refine DOps.nil (by decide +kernel) ?_
 refine hK2 _ ?_
 clear hK2 K2
 refine AWp.ret ?_
 repeat (first | refine xBlock_ret ?_ | refine xThen_ret ?_)
 obtain rfl := Option.some.inj hE
 refine retQ.retF H rfl ⟨rfl, rfl⟩ ?_
 exact (fun _ _ h => h)
section
variable [IsLoud lou]
def Z12  : Option Bool := (Z74 ([85, 115, 101, 114] : Bs)).bind fun x3 => (Z75 x3).bind fun x5 => (Z73 x5).bind fun x6 => (Z75 x6).bind fun x7 => (Z75 x3).bind fun x9 => (Z73 x9).bind fun x10 => (Z82 x7 x10).bind fun x12 => (Z70 x7).bind fun x14 => (Z77 ([91, 32, 85, 115, 101, 114, 32, 33, 32, 93] : Bs)).bind fun x16 => (Z77 ([85, 115, 101, 114, 33, 33] : Bs)).bind fun x18 => guardO (!((((!x12.2) || (!x14.2)) || (!decide (x16.2 = (0 : Int)))) || (!decide (x18.2 = (3 : Int))))) (Z38 x12.1 x10) false fun x21 => guardO (!(((((!x12.2) || (!x14.2)) || (!decide (x16.2 = (0 : Int)))) || (!decide (x18.2 = (3 : Int)))) || (!x21))) (Z75 x3) TRef.zero fun x22 => guardO (!(((((!x12.2) || (!x14.2)) || (!decide (x16.2 = (0 : Int)))) || (!decide (x18.2 = (3 : Int)))) || (!x21))) (Z38 x14.1 x22) false fun x23 => guardO (!((((((!x12.2) || (!x14.2)) || (!decide (x16.2 = (0 : Int)))) || (!decide (x18.2 = (3 : Int)))) || (!x21)) || (!x23))) (Z38 x16.1 x10) false fun x24 => bif (((((((!x12.2) || (!x14.2)) || (!decide (x16.2 = (0 : Int)))) || (!decide (x18.2 = (3 : Int)))) || (!x21)) || (!x23)) || (!x24)) then (some false) else ((Z78 x7).bind fun x28 => guardO (((x28 == ([91, 85, 115, 101, 114, 33, 93, 33] : Bs)))) (Z73 x3) TRef.zero fun x29 => guardO (((x28 == ([91, 85, 115, 101, 114, 33, 93, 33] : Bs)))) (Z69 x7 x29) false fun x30 => guardO ((((x28 == ([91, 85, 115, 101, 114, 33, 93, 33] : Bs))) && x30)) (Z75 x3) TRef.zero fun x31 => guardO ((((x28 == ([91, 85, 115, 101, 114, 33, 93, 33] : Bs))) && x30)) (Z69 x3 x31) false fun x32 => guardO (((((x28 == ([91, 85, 115, 101, 114, 33, 93, 33] : Bs))) && x30) && (!x32))) (Z73 x3) TRef.zero fun x33 => guardO (((((x28 == ([91, 85, 115, 101, 114, 33, 93, 33] : Bs))) && x30) && (!x32))) (Z69 x3 x33) false fun x34 => guardO ((((((x28 == ([91, 85, 115, 101, 114, 33, 93, 33] : Bs))) && x30) && (!x32)) && (!x34))) (Z79 x7) false fun x35 => guardO (((((((x28 == ([91, 85, 115, 101, 114, 33, 93, 33] : Bs))) && x30) && (!x32)) && (!x34)) && x35)) (Z79 (TRef.mk ([85, 115, 101, 114] : Bs) (⟨false, [(1 : Int), (1 : Int)]⟩ : Sl Int))) false fun x36 => some (((((((x28 == ([91, 85, 115, 101, 114, 33, 93, 33] : Bs))) && x30) && (!x32)) && (!x34)) && x35) && (!x36)))
theorem Z12_walk  {oE : Ab.Obj} {gE : Nat} {r : Bool} (hE : Z12  = some r) (H : Heap) (hgE : H gE = some oE) (hoE : IsErr Tryd.prog oE) : ACalls Tryd.prog 21 [] H fun v h' => v = .a (.d (.bool r)) ∧ h' = H := by
 unfold Z12 at hE
 refine ACalls.of_wp (fn := Tryd.f21) (c := _) Tryd.tab_ok (fun _ _ => Tryd.call21 _ _) Tryd.func21 rfl (n := 105) rfl (rs := [.tmp 0]) rfl rfl ?_
 refine seqK fun K1 hK1 => ?_
 refine region ?_
 refine s0 assignA rfl ?_
 refine nil ?_
 refine hK1 _ ?_
 clear hK1 K1
 refine seqK fun K2 hK2 => ?_
 refine region ?_
 obtain ⟨x3, gx3, hE⟩ := bindO_some hE
 refine s0 (callP rfl rfl (fun H => Z74_walk gx3 H)) rfl ?_
 refine sL (allocLA (TK rfl) rfl) rfl ?_
 refine sLn (storeLFA (TK rfl) rfl rfl rfl rfl rfl) ?_
 refine nil ?_
 refine hK2 _ ?_
 clear hK2 K2
 refine freezeA 1 _ rfl Keeps.nil ?_
 refine seqK fun K4 hK4 => ?_
 refine region ?_
 refine s0 (loadV (TK rfl) rfl rfl rfl) rfl ?_
 obtain ⟨x5, gx5, hE⟩ := bindO_some hE
 refine s0 (callP rfl rfl (fun H => Z75_walk gx5 H)) rfl ?_
 obtain ⟨x6, gx6, hE⟩ := bindO_some hE
 refine s0 (callP rfl rfl (fun H => Z73_walk gx6 H)) rfl ?_
 obtain ⟨x7, gx7, hE⟩ := bindO_some hE
 refine s0 (callP rfl rfl (fun H => Z75_walk gx7 H)) rfl ?_
 refine sL (allocLA (TK rfl) rfl) rfl ?_
 refine sLn (storeLFA (TK rfl) rfl rfl rfl rfl rfl) ?_
 refine nil ?_
 refine hK4 _ ?_
 clear hK4 K4
 refine freezeA 2 _ rfl (Keeps.c (k := 1) (by conv => lhs; whnf) (by rfl) Keeps.nil) ?_
 refine seqK fun K8 hK8 => ?_
 refine region ?_
 refine s0 (loadV (TK rfl) rfl rfl rfl) rfl ?_
 obtain ⟨x9, gx9, hE⟩ := bindO_some hE
 refine s0 (callP rfl rfl (fun H => Z75_walk gx9 H)) rfl ?_
 obtain ⟨x10, gx10, hE⟩ := bindO_some hE
 refine s0 (callP rfl rfl (fun H => Z73_walk gx10 H)) rfl ?_
 refine sL (allocLA (TK rfl) rfl) rfl ?_
 refine sLn (storeLFA (TK rfl) rfl rfl rfl rfl rfl) ?_
 refine nil ?_
 refine hK8 _ ?_
 clear hK8 K8
 refine freezeA 3 _ rfl (Keeps.c (k := 1) (by conv => lhs; whnf) (by rfl) (Keeps.c (k := 2) (by conv => lhs; whnf) (by rfl) Keeps.nil)) ?_
 refine seqK fun K11 hK11 => ?_
 refine region ?_
 refine s0 (loadV (TK rfl) rfl rfl rfl) rfl ?_
 refine s0 (loadV (TK rfl) rfl rfl rfl) rfl ?_
 obtain ⟨x12, gx12, hE⟩ := bindO_some hE
 refine s0 (callP rfl rfl (fun H => Z82_walk gx12 H)) rfl ?_
 refine s0 moveA rfl ?_
 refine s0 (extract rfl rfl) rfl ?_
 refine s0 (extract rfl rfl) rfl ?_
 refine sL (allocLA (TK rfl) rfl) rfl ?_
 refine sLn (storeLFA (TK rfl) rfl rfl rfl rfl rfl) ?_
 refine s0 assignA rfl ?_
 refine nil ?_
 refine hK11 _ ?_
 clear hK11 K11
 refine freezeA 4 _ rfl (Keeps.c (k := 1) (by conv => lhs; whnf) (by rfl) (Keeps.c (k := 2) (by conv => lhs; whnf) (by rfl) (Keeps.c (k := 3) (by conv => lhs; whnf) (by rfl) (Keeps.c (k := 5) (by conv => lhs; whnf) (by rfl) Keeps.nil)))) ?_
 refine seqK fun K13 hK13 => ?_
 refine region ?_
 refine s0 (loadV (TK rfl) rfl rfl rfl) rfl ?_
 obtain ⟨x14, gx14, hE⟩ := bindO_some hE
 refine s0 (callP rfl rfl (fun H => Z70_walk gx14 H)) rfl ?_
 refine s0 moveA rfl ?_
 refine s0 (extract rfl rfl) rfl ?_
 refine s0 (extract rfl rfl) rfl ?_
 refine sL (allocLA (TK rfl) rfl) rfl ?_
 refine sLn (storeLFA (TK rfl) rfl rfl rfl rfl rfl) ?_
 refine s0 assignA rfl ?_
 refine nil ?_
 refine hK13 _ ?_
 clear hK13 K13
 refine freezeA 6 _ rfl (Keeps.c (k := 1) (by conv => lhs; whnf) (by rfl) (Keeps.c (k := 2) (by conv => lhs; whnf) (by rfl) (Keeps.c (k := 3) (by conv => lhs; whnf) (by rfl) (Keeps.c (k := 4) (by conv => lhs; whnf) (by rfl) (Keeps.c (k := 5) (by conv => lhs; whnf) (by rfl) (Keeps.c (k := 7) (by conv => lhs; whnf) (by rfl) Keeps.nil)))))) ?_
 refine seqK fun K15 hK15 => ?_
 refine region ?_
 obtain ⟨x16, gx16, hE⟩ := bindO_some hE
 refine s0 (callR rfl rfl (Z77_walk (gE := gE) (oE := oE) gx16 _ hpG (by assumption))) rfl ?_
 refine s0 moveA rfl ?_
 refine s0 (extract rfl rfl) rfl ?_
 refine s0 (extract rfl rfl) rfl ?_
 refine sL (allocLA (TK rfl) rfl) rfl ?_
 refine sLn (storeLFA (TK rfl) rfl rfl rfl rfl rfl) ?_
 refine s0 assignA rfl ?_
 refine nil ?_
 refine hK15 _ ?_
 clear hK15 K15
 refine freezeA 8 _ rfl (Keeps.c (k := 1) (by conv => lhs; whnf) (by rfl) (Keeps.c (k := 2) (by conv => lhs; whnf) (by rfl) (Keeps.c (k := 3) (by conv => lhs; whnf) (by rfl) (Keeps.c (k := 4) (by conv => lhs; whnf) (by rfl) (Keeps.c (k := 5) (by conv => lhs; whnf) (by rfl) (Keeps.c (k := 6) (by conv => lhs; whnf) (by rfl) (Keeps.c (k := 7) (by conv => lhs; whnf) (by rfl) (Keeps.c (k := 9) (by conv => lhs; whnf) (by rfl) Keeps.nil)))))))) ?_
 refine seqK fun K17 hK17 => ?_
 refine region ?_
 obtain ⟨x18, gx18, hE⟩ := bindO_some hE
 refine s0 (callR rfl rfl (Z77_walk (gE := gE) (oE := oE) gx18 _ hpG (by assumption))) rfl ?_
 refine s0 moveA rfl ?_
 refine s0 (extract rfl rfl) rfl ?_
 refine s0 (extract rfl rfl) rfl ?_
 refine sL (allocLA (TK rfl) rfl) rfl ?_
 refine sLn (storeLFA (TK rfl) rfl rfl rfl rfl rfl) ?_
 refine s0 assignA rfl ?_
 refine nil ?_
 refine hK17 _ ?_
 clear hK17 K17
 refine freezeA 10 _ rfl (Keeps.c (k := 1) (by conv => lhs; whnf) (by rfl) (Keeps.c (k := 2) (by conv => lhs; whnf) (by rfl) (Keeps.c (k := 3) (by conv => lhs; whnf) (by rfl) (Keeps.c (k := 4) (by conv => lhs; whnf) (by rfl) (Keeps.c (k := 5) (by conv => lhs; whnf) (by rfl) (Keeps.c (k := 6) (by conv => lhs; whnf) (by rfl) (Keeps.c (k := 7) (by conv => lhs; whnf) (by rfl) (Keeps.c (k := 8) (by conv => lhs; whnf) (by rfl) (Keeps.c (k := 9) (by conv => lhs; whnf) (by rfl) (Keeps.c (k := 11) (by conv => lhs; whnf) (by rfl) Keeps.nil)))))))))) ?_
 refine seqK fun K19 hK19 => ?_
 refine seqK fun K20 hK20 => ?_
 refine AWp.draw rfl ?_
 refine DOps.s0 moveA rfl ?_
 refine DOps.s0 (notB rfl) rfl ?_
 refine DOps.s0 moveA rfl ?_
 refine DOps.gC rfl rfl (fun hC => moveA) rfl ?_
 refine DOps.gC rfl rfl (fun hC => ungdA (k := 42) rfl (notB rfl)) rfl ?_
 refine DOps.s0 (pickOrA rfl rfl rfl) rfl ?_
 refine DOps.s0 moveA rfl ?_
 refine DOps.gC rfl rfl (fun hC => moveA) rfl ?_
 refine DOps.gC rfl rfl (fun hC => ungdA (k := 46) rfl (binI rfl rfl rfl)) rfl ?_
 refine DOps.s0 (pickOrA rfl rfl rfl) rfl ?_
 refine DOps.s0 moveA rfl ?_
 refine DOps.gC rfl rfl (fun hC => moveA) rfl ?_
 refine DOps.gC rfl rfl (fun hC => ungdA (k := 50) rfl (binI rfl rfl rfl)) rfl ?_
 refine DOps.s0 (pickOrA rfl rfl rfl) rfl ?_
 refine DOps.s0 moveA rfl ?_
 refine DOps.gC rfl rfl (fun hC => loadV (TK rfl) rfl rfl rfl) rfl ?_
 refine DOps.gC rfl rfl (fun hC => loadV (TK rfl) rfl rfl rfl) rfl ?_
 obtain ⟨x21, gx21, hE⟩ := guardO_some hE
 refine DOps.gC rfl rfl (fun hC => ungdA (k := 54) rfl (ungdA (k := 55) rfl (callP rfl rfl (fun H => Z38_walk (gx21 hC) H)))) rfl ?_
 refine DOps.gC rfl rfl (fun hC => ungdA (k := 56) rfl (notB rfl)) rfl ?_
 refine DOps.s0 (pickOrA rfl rfl rfl) rfl ?_
 refine DOps.s0 moveA rfl ?_
 refine DOps.gC rfl rfl (fun hC => loadV (TK rfl) rfl rfl rfl) rfl ?_
 refine DOps.gC rfl rfl (fun hC => loadV (TK rfl) rfl rfl rfl) rfl ?_
 obtain ⟨x22, gx22, hE⟩ := guardO_some hE
 refine DOps.gC rfl rfl (fun hC => ungdA (k := 61) rfl (callP rfl rfl (fun H => Z75_walk (gx22 hC) H))) rfl ?_
 obtain ⟨x23, gx23, hE⟩ := guardO_some hE
 refine DOps.gC rfl rfl (fun hC => ungdA (k := 60) rfl (ungdA (k := 62) rfl (callP rfl rfl (fun H => Z38_walk (gx23 hC) H)))) rfl ?_
 refine DOps.gC rfl rfl (fun hC => ungdA (k := 63) rfl (notB rfl)) rfl ?_
 refine DOps.s0 (pickOrA rfl rfl rfl) rfl ?_
 refine DOps.s0 moveA rfl ?_
 refine DOps.gC rfl rfl (fun hC => loadV (TK rfl) rfl rfl rfl) rfl ?_
 refine DOps.gC rfl rfl (fun hC => loadV (TK rfl) rfl rfl rfl) rfl ?_
 obtain ⟨x24, gx24, hE⟩ := guardO_some hE
 refine DOps.gC rfl rfl (fun hC => ungdA (k := 67) rfl (ungdA (k := 68) rfl (callP rfl rfl (fun H => Z38_walk (gx24 hC) H)))) rfl ?_
 refine DOps.gC rfl rfl (fun hC => ungdA (k := 69) rfl (notB rfl)) rfl ?_
 refine DOps.s0 (pickOrA rfl rfl rfl) rfl ?_
 refine DOps.nil (by decide +kernel) ?_
 refine hK20 _ ?_
 clear hK20 K20
 refine condE hE rfl (fun hc25 hE => ?_) (fun hc25 hE => ?_)
 ·refine seqK fun K26 hK26 => ?_
  refine region ?_
  refine s0 assignA rfl ?_
  refine nil ?_
  refine hK26 _ ?_
  clear hK26 K26
  refine AWp.ret ?_
  repeat (first | refine xBlock_ret ?_ | refine xThen_ret ?_)
  obtain rfl := Option.some.inj hE
  refine retQ.retF H rfl ⟨rfl, rfl⟩ ?_
  exact (fun _ _ h => h)
 refine AWp.skip ?_
 refine hK19 _ ?_
 clear hK19 K19
 refine seqK fun K27 hK27 => ?_
 refine AWp.draw rfl ?_
 refine DOps.s0 (loadV (TK rfl) rfl rfl rfl) rfl ?_
 obtain ⟨x28, gx28, hE⟩ := bindO_some hE
 refine DOps.s0 (callP rfl rfl (fun H => Z78_walk gx28 H)) rfl ?_
 refine DOps.s0 (binS rfl rfl rfl) rfl ?_
 refine DOps.s0 moveA rfl ?_
 refine DOps.gC rfl rfl (fun hC => loadV (TK rfl) rfl rfl rfl) rfl ?_
 refine DOps.gC rfl rfl (fun hC => loadV (TK rfl) rfl rfl rfl) rfl ?_
 obtain ⟨x29, gx29, hE⟩ := guardO_some hE
 refine DOps.gC rfl rfl (fun hC => ungdA (k := 77) rfl (callP rfl rfl (fun H => Z73_walk (gx29 hC) H))) rfl ?_
 obtain ⟨x30, gx30, hE⟩ := guardO_some hE
 refine DOps.gC rfl rfl (fun hC => ungdA (k := 76) rfl (ungdA (k := 78) rfl (callP rfl rfl (fun H => Z69_walk (gx30 hC) H)))) rfl ?_
 refine DOps.s0 (pickAndA rfl rfl rfl) rfl ?_
 refine DOps.s0 moveA rfl ?_
 refine DOps.gC rfl rfl (fun hC => loadV (TK rfl) rfl rfl rfl) rfl ?_
 refine DOps.gC rfl rfl (fun hC => loadV (TK rfl) rfl rfl rfl) rfl ?_
 obtain ⟨x31, gx31, hE⟩ := guardO_some hE
 refine DOps.gC rfl rfl (fun hC => ungdA (k := 83) rfl (callP rfl rfl (fun H => Z75_walk (gx31 hC) H))) rfl ?_
 obtain ⟨x32, gx32, hE⟩ := guardO_some hE
 refine DOps.gC rfl rfl (fun hC => ungdA (k := 82) rfl (ungdA (k := 84) rfl (callP rfl rfl (fun H => Z69_walk (gx32 hC) H)))) rfl ?_
 refine DOps.gC rfl rfl (fun hC => ungdA (k := 85) rfl (notB rfl)) rfl ?_
 refine DOps.s0 (pickAndA rfl rfl rfl) rfl ?_
 refine DOps.s0 moveA rfl ?_
 refine DOps.gC rfl rfl (fun hC => loadV (TK rfl) rfl rfl rfl) rfl ?_
 refine DOps.gC rfl rfl (fun hC => loadV (TK rfl) rfl rfl rfl) rfl ?_
 obtain ⟨x33, gx33, hE⟩ := guardO_some hE
 refine DOps.gC rfl rfl (fun hC => ungdA (k := 90) rfl (callP rfl rfl (fun H => Z73_walk (gx33 hC) H))) rfl ?_
 obtain ⟨x34, gx34, hE⟩ := guardO_some hE
 refine DOps.gC rfl rfl (fun hC => ungdA (k := 89) rfl (ungdA (k := 91) rfl (callP rfl rfl (fun H => Z69_walk (gx34 hC) H)))) rfl ?_
 refine DOps.gC rfl rfl (fun hC => ungdA (k := 92) rfl (notB rfl)) rfl ?_
 refine DOps.s0 (pickAndA rfl rfl rfl) rfl ?_
 refine DOps.s0 moveA rfl ?_
 refine DOps.gC rfl rfl (fun hC => loadV (TK rfl) rfl rfl rfl) rfl ?_
 obtain ⟨x35, gx35, hE⟩ := guardO_some hE
 refine DOps.gC rfl rfl (fun hC => ungdA (k := 96) rfl (callP rfl rfl (fun H => Z79_walk (gx35 hC) H))) rfl ?_
 refine DOps.s0 (pickAndA rfl rfl rfl) rfl ?_
 refine DOps.s0 moveA rfl ?_
 refine DOps.gC rfl rfl (fun hC => buildSlice (TK rfl) rfl (TK rfl) rfl rfl rfl rfl rfl rfl) rfl ?_
 refine DOps.gC rfl rfl (fun hC => ungdA (k := 100) rfl (build Tryd.tab_ok rfl rfl rfl rfl rfl rfl)) rfl ?_
 obtain ⟨x36, gx36, hE⟩ := guardO_some hE
 refine DOps.gC rfl rfl (fun hC => ungdA (k := 101) rfl (callP rfl rfl (fun H => Z79_walk (gx36 hC) H))) rfl ?_
 refine DOps.gC rfl rfl (fun hC => ungdA (k := 102) rfl (notB rfl)) rfl ?_
 refine DOps.s0 (pickAndA rfl rfl rfl) rfl ?_
 refine DOps.s0 assignA rfl ?_
 refine DOps.nil (by decide +kernel) ?_
 refine hK27 _ ?_
 clear hK27 K27
 refine AWp.ret ?_
 repeat (first | refine xBlock_ret ?_ | refine xThen_ret ?_)
 obtain rfl := Option.some.inj hE
 refine retQ.retF H rfl ⟨rfl, rfl⟩ ?_
 exact (fun _ _ h => h)
end
end Go.Proofs

namespace Go.Proofs
open Go Go.Ab
open AOps Cert AWp
variable {lou : Lou}
def Z35 (a0 : TRef) : Option Bool := guardO ((decide ((0 : Int) < ((a0.FWraps.l.length : Nat) : Int)))) (a0.FWraps.l[0]?) (0 : Int) fun x4 => some ((decide ((0 : Int) < ((a0.FWraps.l.length : Nat) : Int))) && (decide (x4 = (1 : Int))))
theorem Z35_walk {a0 : TRef}   {r : Bool} (hE : Z35 a0 = some r) (H : Heap)  : ACalls Tryd.prog 50 [.agg (TRef.c a0)] H fun v h' => v = .a (.d (.bool r)) ∧ h' = H := by
 unfold Z35 at hE
 refine ACalls.of_wp (fn := Tryd.f50) (c := _) Tryd.tab_ok (fun _ _ => Tryd.call50 _ _) Tryd.func50 rfl (n := 14) rfl (rs := [.tmp 2]) rfl rfl ?_
 refine seqK fun K1 hK1 => ?_
 refine region ?_
 refine s0 (boxV rfl) rfl ?_
 refine s0 assignA rfl ?_
 refine nil ?_
 refine hK1 _ ?_
 clear hK1 K1
 refine seqK fun K2 hK2 => ?_
 refine region ?_
 refine s0 (fieldVA (TK rfl) rfl rfl (TK rfl) rfl rfl) rfl ?_
 refine s0 (loadV (TK rfl) rfl rfl rfl) rfl ?_
 refine sLen (f := (intE .i64)) (s := a0.FWraps) (TK rfl) rfl rfl rfl rfl fun hL3 => ?_
 refine s0 (binI rfl rfl rfl) rfl ?_
 refine s0 moveA rfl ?_
 refine gC rfl rfl (fun hC => fieldVA (TK rfl) rfl rfl (TK rfl) rfl rfl) rfl ?_
 refine gC rfl rfl (fun hC => ungdA (k := 8) rfl (loadV (TK rfl) rfl rfl rfl)) rfl ?_
 obtain ⟨x4, gx4, hE⟩ := guardO_some hE
 refine gC rfl rfl (fun hC => ungdA (k := 9) rfl (idxMn (f := (intE .i64)) (n := 0) (TK rfl) rfl (TK rfl) rfl rfl rfl (gx4 hC))) rfl ?_
 refine gC rfl rfl (fun hC => ungdA (k := 10) rfl (loadV (TK rfl) rfl rfl rfl)) rfl ?_
 refine gC rfl rfl (fun hC => ungdA (k := 11) rfl (binI rfl rfl rfl)) rfl ?_
 refine s0 (pickAndA rfl rfl rfl) rfl ?_
 refine s0 assignA rfl ?_
 refine nil ?_
 refine hK2 _ ?_
 clear hK2 K2
 refine AWp.ret ?_
 repeat (first | refine xBlock_ret ?_ | refine xThen_ret ?_)
 obtain rfl := Option.some.inj hE
 refine retQ.retF H rfl ⟨rfl, rfl⟩ ?_
 exact (fun _ _ h => h)
def Z39 (a0 : TRef) : Option TRef := (partC a0.FWraps (some (1 : Int)) none).bind fun x3 => (appC 8 (⟨false, []⟩ : Sl Int) x3).bind fun x4 => some (TRef.mk a0.FName x4)
theorem Z39_walk {a0 : TRef}   {r : TRef} (hE : Z39 a0 = some r) (H : Heap)  : ACalls Tryd.prog 51 [.agg (TRef.c a0)] H fun v h' => v = .a (.agg (TRef.c r)) ∧ h' = H := by
 unfold Z39 at hE
 refine ACalls.of_wp (fn := Tryd.f51) (c := _) Tryd.tab_ok (fun _ _ => Tryd.call51 _ _) Tryd.func51 rfl (n := 11) rfl (rs := [.cell 2 45]) rfl rfl ?_
 refine seqK fun K1 hK1 => ?_
 refine region ?_
 refine s0 (boxV rfl) rfl ?_
 refine sL (allocLA (TK rfl) rfl) rfl ?_
 refine nil ?_
 refine hK1 _ ?_
 clear hK1 K1
 refine seqK fun K2 hK2 => ?_
 refine AWp.draw rfl ?_
 refine DOps.s0 (fieldVA (TK rfl) rfl rfl (TK rfl) rfl rfl) rfl ?_
 refine DOps.s0 (loadV (TK rfl) rfl rfl rfl) rfl ?_
 refine DOps.s0 (buildSliceF (TK rfl) rfl (TK rfl) rfl rfl rfl rfl rfl rfl) rfl ?_
 refine DOps.s0 (fieldVA (TK rfl) rfl rfl (TK rfl) rfl rfl) rfl ?_
 refine DOps.s0 (loadV (TK rfl) rfl rfl rfl) rfl ?_
 obtain ⟨x3, gx3, hE⟩ := bindO_some hE
 refine DOps.s0 (partM (f := (intE .i64)) (l := (some (1 : Int))) (r := none) (TK rfl) rfl (TK rfl) rfl rfl rfl trivial gx3) rfl ?_
 obtain ⟨x4, gx4, hE⟩ := bindO_some hE
 refine DOps.s0 (appFM (f := (intE .i64)) (TK rfl) rfl (TK rfl) (TK rfl) ⟨_, rfl⟩ rfl rfl (by decide) rfl rfl rfl (by intro q h; cases h <;> decide) rfl rfl gx4) rfl ?_
 refine DOps.s0 (build Tryd.tab_ok rfl rfl rfl rfl rfl rfl) rfl ?_
 refine DOps.sLn (storeLFA (TK rfl) rfl rfl rfl rfl rfl) ?_
 refine DOps.nil (by decide +kernel) ?_
 refine hK2 _ ?_
 clear hK2 K2
 refine AWp.ret ?_
 repeat (first | refine xBlock_ret ?_ | refine xThen_ret ?_)
 obtain rfl := Option.some.inj hE
 refine retQ.retF H rfl ⟨rfl, rfl⟩ ?_
 exact (fun _ _ h => h)
def Z36_n : Nat → TRef → Option Bs
 | 0, _ => none
 | n + 1, a0 => (Z35 a0).bind fun x4 => bif x4 then ((Z39 a0).bind fun x7 => ((Z36_n n) x7).bind fun x8 => (catC x8 ([33] : Bs)).bind fun x9 => some x9) else (bif (decide ((0 : Int) < ((a0.FWraps.l.length : Nat) : Int))) then ((Z39 a0).bind fun x15 => ((Z36_n n) x15).bind fun x16 => (catC ([91] : Bs) x16).bind fun x17 => (catC x17 ([93] : Bs)).bind fun x18 => some x18) else (some a0.FName))
theorem Z36_step (n : Nat) (ih_28 : ∀ {a0 : TRef}   {r : Bs}, Z36_n n a0 = some r → ∀ (H : Heap), ACalls Tryd.prog 28 [.agg (TRef.c a0)] H fun v h' => v = .a (.d (.str r)) ∧ h' = H) : ∀ {a0 : TRef}   {r : Bs}, Z36_n (n + 1) a0 = some r → ∀ (H : Heap), ACalls Tryd.prog 28 [.agg (TRef.c a0)] H fun v h' => v = .a (.d (.str r)) ∧ h' = H := by
 intro a0   r hE H 
 rw [Z36_n] at hE
 refine ACalls.of_wp (fn := Tryd.f28) (c := _) Tryd.tab_ok (fun _ _ => Tryd.call28 _ _) Tryd.func28 rfl (n := 20) rfl (rs := [.tmp 2]) rfl rfl ?_
 refine seqK fun K1 hK1 => ?_
 refine region ?_
 refine s0 (boxV rfl) rfl ?_
 refine s0 assignA rfl ?_
 refine nil ?_
 refine hK1 _ ?_
 clear hK1 K1
 refine seqK fun K2 hK2 => ?_
 refine seqK fun K3 hK3 => ?_
 refine region ?_
 refine s0 (loadV (TK rfl) rfl rfl rfl) rfl ?_
 obtain ⟨x4, gx4, hE⟩ := bindO_some hE
 refine s0 (callP rfl rfl (fun H => Z35_walk gx4 H)) rfl ?_
 refine nil ?_
 refine hK3 _ ?_
 clear hK3 K3
 refine condE hE rfl (fun hc5 hE => ?_) (fun hc5 hE => ?_)
 ·refine seqK fun K6 hK6 => ?_
  refine region ?_
  refine s0 (loadV (TK rfl) rfl rfl rfl) rfl ?_
  obtain ⟨x7, gx7, hE⟩ := bindO_some hE
  refine s0 (callP rfl rfl (fun H => Z39_walk gx7 H)) rfl ?_
  obtain ⟨x8, gx8, hE⟩ := bindO_some hE
  refine s0 (callP rfl rfl (fun H => ih_28 gx8 H)) rfl ?_
  obtain ⟨x9, gx9, hE⟩ := bindO_some hE
  refine s0 (catM rfl rfl gx9) rfl ?_
  refine s0 assignA rfl ?_
  refine nil ?_
  refine hK6 _ ?_
  clear hK6 K6
  refine AWp.ret ?_
  repeat (first | refine xBlock_ret ?_ | refine xThen_ret ?_)
  obtain rfl := Option.some.inj hE
  refine retQ.retF H rfl ⟨rfl, rfl⟩ ?_
  exact (fun _ _ h => h)
 refine AWp.skip ?_
 refine hK2 _ ?_
 clear hK2 K2
 refine seqK fun K10 hK10 => ?_
 refine seqK fun K11 hK11 => ?_
 refine region ?_
 refine s0 (fieldVA (TK rfl) rfl rfl (TK rfl) rfl rfl) rfl ?_
 refine s0 (loadV (TK rfl) rfl rfl rfl) rfl ?_
 refine sLen (f := (intE .i64)) (s := a0.FWraps) (TK rfl) rfl rfl rfl rfl fun hL12 => ?_
 refine s0 (binI rfl rfl rfl) rfl ?_
 refine nil ?_
 refine hK11 _ ?_
 clear hK11 K11
 refine condE hE rfl (fun hc13 hE => ?_) (fun hc13 hE => ?_)
 ·refine seqK fun K14 hK14 => ?_
  refine region ?_
  refine s0 (loadV (TK rfl) rfl rfl rfl) rfl ?_
  obtain ⟨x15, gx15, hE⟩ := bindO_some hE
  refine s0 (callP rfl rfl (fun H => Z39_walk gx15 H)) rfl ?_
  obtain ⟨x16, gx16, hE⟩ := bindO_some hE
  refine s0 (callP rfl rfl (fun H => ih_28 gx16 H)) rfl ?_
  obtain ⟨x17, gx17, hE⟩ := bindO_some hE
  refine s0 (catM rfl rfl gx17) rfl ?_
  obtain ⟨x18, gx18, hE⟩ := bindO_some hE
  refine s0 (catM rfl rfl gx18) rfl ?_
  refine s0 assignA rfl ?_
  refine nil ?_
  refine hK14 _ ?_
  clear hK14 K14
  refine AWp.ret ?_
  repeat (first | refine xBlock_ret ?_ | refine xThen_ret ?_)
  obtain rfl := Option.some.inj hE
  refine retQ.retF H rfl ⟨rfl, rfl⟩ ?_
  exact (fun _ _ h => h)
 refine AWp.skip ?_
 refine hK10 _ ?_
 clear hK10 K10
 refine seqK fun K19 hK19 => ?_
 refine region ?_
 refine s0 (fieldVA (TK rfl) rfl rfl (TK rfl) rfl rfl) rfl ?_
 refine s0 (loadV (TK rfl) rfl rfl rfl) rfl ?_
 refine s0 assignA rfl ?_
 refine nil ?_
 refine hK19 _ ?_
 clear hK19 K19
 refine AWp.ret ?_
 repeat (first | refine xBlock_ret ?_ | refine xThen_ret ?_)
 obtain rfl := Option.some.inj hE
 refine retQ.retF H rfl ⟨rfl, rfl⟩ ?_
 exact (fun _ _ h => h)
theorem Z36_all : ∀ (n : Nat), (∀ {a0 : TRef}   {r : Bs}, Z36_n n a0 = some r → ∀ (H : Heap), ACalls Tryd.prog 28 [.agg (TRef.c a0)] H fun v h' => v = .a (.d (.str r)) ∧ h' = H)
 | 0 => fun hE => by first | cases hE | (rw [Z36_n] at hE; cases hE)
 | n + 1 => Z36_step n (Z36_all n)
def Z36 (a0 : TRef) : Option Bs := Z36_n F0 a0
theorem Z36_walk {a0 : TRef}   {r : Bs} (hE : Z36 a0 = some r) (H : Heap)  : ACalls Tryd.prog 28 [.agg (TRef.c a0)] H fun v h' => v = .a (.d (.str r)) ∧ h' = H := (Z36_all F0) hE H 
section
variable [IsLoud lou]
def Z11 (a0 : TRef) : Option Bool := (Z37 a0).bind fun x4 => bif (!x4) then ((Z12 ).bind fun x7 => some x7) else ((Z78 a0).bind fun x9 => (Z77 x9).bind fun x11 => (Z36 a0).bind fun x13 => guardO ((((x9 == x13)) && (decide (x11.2 = (0 : Int))))) (Z38 x11.1 a0) false fun x14 => guardO (((((x9 == x13)) && (decide (x11.2 = (0 : Int)))) && x14)) (Z12 ) false fun x15 => some (((((x9 == x13)) && (decide (x11.2 = (0 : Int)))) && x14) && x15))
theorem Z11_walk {a0 : TRef} {oE : Ab.Obj} {gE : Nat} {r : Bool} (hE : Z11 a0 = some r) (H : Heap) (hgE : H gE = some oE) (hoE : IsErr Tryd.prog oE) : ACalls Tryd.prog 10 [.agg (TRef.c a0)] H fun v h' => v = .a (.d (.bool r)) ∧ h' = H := by
 unfold Z11 at hE
 refine ACalls.of_wp (fn := Tryd.f10) (c := _) Tryd.tab_ok (fun _ _ => Tryd.call10 _ _) Tryd.func10 rfl (n := 33) rfl (rs := [.tmp 2]) rfl rfl ?_
 refine seqK fun K1 hK1 => ?_
 refine region ?_
 refine s0 (boxV rfl) rfl ?_
 refine s0 assignA rfl ?_
 refine nil ?_
 refine hK1 _ ?_
 clear hK1 K1
 refine seqK fun K2 hK2 => ?_
 refine seqK fun K3 hK3 => ?_
 refine region ?_
 refine s0 (loadV (TK rfl) rfl rfl rfl) rfl ?_
 obtain ⟨x4, gx4, hE⟩ := bindO_some hE
 refine s0 (callP rfl rfl (fun H => Z37_walk gx4 H)) rfl ?_
 refine s0 (notB rfl) rfl ?_
 refine nil ?_
 refine hK3 _ ?_
 clear hK3 K3
 refine condE hE rfl (fun hc5 hE => ?_) (fun hc5 hE => ?_)
 ·refine seqK fun K6 hK6 => ?_
  refine region ?_
  obtain ⟨x7, gx7, hE⟩ := bindO_some hE
  refine s0 (callR rfl rfl (Z12_walk (gE := gE) (oE := oE) gx7 _ hpG (by assumption))) rfl ?_
  refine s0 assignA rfl ?_
  refine nil ?_
  refine hK6 _ ?_
  clear hK6 K6
  refine AWp.ret ?_
  repeat (first | refine xBlock_ret ?_ | refine xThen_ret ?_)
  obtain rfl := Option.some.inj hE
  refine retQ.retF H rfl ⟨rfl, rfl⟩ ?_
  exact (fun _ _ h => h)
 refine AWp.skip ?_
 refine hK2 _ ?_
 clear hK2 K2
 refine seqK fun K8 hK8 => ?_
 refine region ?_
 refine s0 (loadV (TK rfl) rfl rfl rfl) rfl ?_
 obtain ⟨x9, gx9, hE⟩ := bindO_some hE
 refine s0 (callP rfl rfl (fun H => Z78_walk gx9 H)) rfl ?_
 refine s0 assignA rfl ?_
 refine nil ?_
 refine hK8 _ ?_
 clear hK8 K8
 refine seqK fun K10 hK10 => ?_
 refine region ?_
 refine s0 moveA rfl ?_
 obtain ⟨x11, gx11, hE⟩ := bindO_some hE
 refine s0 (callR rfl rfl (Z77_walk (gE := gE) (oE := oE) gx11 _ hpG (by assumption))) rfl ?_
 refine s0 moveA rfl ?_
 refine s0 (extract rfl rfl) rfl ?_
 refine s0 (extract rfl rfl) rfl ?_
 refine sL (allocLA (TK rfl) rfl) rfl ?_
 refine sLn (storeLFA (TK rfl) rfl rfl rfl rfl rfl) ?_
 refine s0 assignA rfl ?_
 refine nil ?_
 refine hK10 _ ?_
 clear hK10 K10
 refine freezeA 4 _ rfl (Keeps.c (k := 1) (by conv => lhs; whnf) (by rfl) (Keeps.c (k := 3) (by conv => lhs; whnf) (by rfl) (Keeps.c (k := 5) (by conv => lhs; whnf) (by rfl) Keeps.nil))) ?_
 refine seqK fun K12 hK12 => ?_
 refine region ?_
 refine s0 moveA rfl ?_
 refine s0 (loadV (TK rfl) rfl rfl rfl) rfl ?_
 obtain ⟨x13, gx13, hE⟩ := bindO_some hE
 refine s0 (callP rfl rfl (fun H => Z36_walk gx13 H)) rfl ?_
 refine s0 (binS rfl rfl rfl) rfl ?_
 refine s0 moveA rfl ?_
 refine gC rfl rfl (fun hC => moveA) rfl ?_
 refine gC rfl rfl (fun hC => ungdA (k := 22) rfl (binI rfl rfl rfl)) rfl ?_
 refine s0 (pickAndA rfl rfl rfl) rfl ?_
 refine s0 moveA rfl ?_
 refine gC rfl rfl (fun hC => loadV (TK rfl) rfl rfl rfl) rfl ?_
 refine gC rfl rfl (fun hC => loadV (TK rfl) rfl rfl rfl) rfl ?_
 obtain ⟨x14, gx14, hE⟩ := guardO_some hE
 refine gC rfl rfl (fun hC => ungdA (k := 26) rfl (ungdA (k := 27) rfl (callP rfl rfl (fun H => Z38_walk (gx14 hC) H)))) rfl ?_
 refine s0 (pickAndA rfl rfl rfl) rfl ?_
 refine s0 moveA rfl ?_
 obtain ⟨x15, gx15, hE⟩ := guardO_some hE
 refine gC rfl rfl (fun hC => callR rfl rfl (Z12_walk (gE := gE) (oE := oE) (gx15 hC) _ hpG (by assumption))) rfl ?_
 refine s0 (pickAndA rfl rfl rfl) rfl ?_
 refine s0 assignA rfl ?_
 refine nil ?_
 refine hK12 _ ?_
 clear hK12 K12
 refine AWp.ret ?_
 repeat (first | refine xBlock_ret ?_ | refine xThen_ret ?_)
 obtain rfl := Option.some.inj hE
 refine retQ.retF H rfl ⟨rfl, rfl⟩ ?_
 exact (fun _ _ h => h)
end
end Go.Proofs
