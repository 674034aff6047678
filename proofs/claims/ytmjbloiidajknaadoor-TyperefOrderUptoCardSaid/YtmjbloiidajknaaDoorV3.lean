import Derived.Test.YtmjbloiidajknaaDoorV2
set_option maxRecDepth 100000
set_option maxHeartbeats 2000000
set_option linter.unusedVariables false
set_option linter.unusedSimpArgs false
namespace Go.Proofs
open Go Go.Ab
open AOps Cert AWp
variable {lou : Lou}
def Z42_j22  (s4_23 : (Sl Token_Token)) (y24_l0 : TRef) (y25_l1 : TRef) : Option (TRef × Int) := (s4_23.l[0]?).bind fun x28 => bif (!decide (x28.FKind = (5 : Int))) then (some ((TRef.mk ([] : Bs) (Sl.nil : Sl Int)), (3 : Int))) else (bif (decide ((24 : Int) < ((y25_l1.FWraps.l.length : Nat) : Int))) then (some ((TRef.mk ([] : Bs) (Sl.nil : Sl Int)), (5 : Int))) else ((some (Sl.rev y25_l1.FWraps)).bind fun x37 => some ((TRef.mk y25_l1.FName x37), (0 : Int))))
def Z42_j44 (s8_41 : Int) (y42_l0 : TRef) (k_next_39 : (Sl Token_Token) → Int → TRef → TRef → Option (TRef × Int)) (s4_45 : (Sl Token_Token)) (y46_l1 : TRef) : Option (TRef × Int) := bif (decide (s8_41 = (0 : Int))) then (Z42_j22   s4_45 y42_l0 y46_l1) else ((s4_45.l[0]?).bind fun x52 => guardO (!(!decide (x52.FKind = (1 : Int)))) (s4_45.l[0]?) Token_Token.zero fun x53 => bif ((!decide (x52.FKind = (1 : Int))) || (!(x53.FText == ([93] : Bs)))) then (some ((TRef.mk ([] : Bs) (Sl.nil : Sl Int)), (3 : Int))) else ((appC 8 y46_l1.FWraps (⟨false, [(2 : Int)]⟩ : Sl Int)).bind fun x56 => (partC s4_45 (some (1 : Int)) none).bind fun x57 => (subC s8_41 (1 : Int)).bind fun x58 => k_next_39 x57 x58 y42_l0 (TRef.mk y46_l1.FName x56)))
def Z42_l39  : Nat → (Sl Token_Token) → Int → TRef → TRef → Option (TRef × Int)
 | 0, _, _, _, _ => none
 | n39 + 1, s4_40, s8_41, y42_l0, y43_l1 => (s4_40.l[0]?).bind fun x60 => guardO ((decide (x60.FKind = (1 : Int)))) (s4_40.l[0]?) Token_Token.zero fun x61 => bif ((decide (x60.FKind = (1 : Int))) && ((x61.FText == ([33] : Bs)))) then ((appC 8 y43_l1.FWraps (⟨false, [(1 : Int)]⟩ : Sl Int)).bind fun x63 => (partC s4_40 (some (1 : Int)) none).bind fun x64 => Z42_j44 s8_41 y42_l0 ((Z42_l39  n39)) x64 (TRef.mk y43_l1.FName x63)) else (Z42_j44 s8_41 y42_l0 ((Z42_l39  n39)) s4_40 y43_l1)
def Z42_j11  (s4_12 : (Sl Token_Token)) (s8_13 : Int) : Option (TRef × Int) := (s4_12.l[0]?).bind fun x16 => bif (!decide (x16.FKind = (2 : Int))) then (some ((TRef.mk ([] : Bs) (Sl.nil : Sl Int)), (3 : Int))) else ((s4_12.l[0]?).bind fun x20 => (partC s4_12 (some (1 : Int)) none).bind fun x21 => Z42_l39 F0 x21 s8_13 TRef.zero (TRef.mk x20.FText TRef.zero.FWraps))
def Z42_l65  : Nat → (Sl Token_Token) → Int → Option (TRef × Int)
 | 0, _, _ => none
 | n65 + 1, s4_66, s8_67 => (s4_66.l[0]?).bind fun x70 => guardO ((decide (x70.FKind = (1 : Int)))) (s4_66.l[0]?) Token_Token.zero fun x71 => bif ((decide (x70.FKind = (1 : Int))) && ((x71.FText == ([91] : Bs)))) then ((addC s8_67 (1 : Int)).bind fun x73 => (partC s4_66 (some (1 : Int)) none).bind fun x74 => (Z42_l65  n65) x74 x73) else (Z42_j11   s4_66 s8_67)
def Z42 (a0 : Bs) : Option (TRef × Int) := (Z28 a0).bind fun x3 => bif (!decide (x3.2.2 = (0 : Int))) then (some ((TRef.mk ([] : Bs) (Sl.nil : Sl Int)), x3.2.2)) else (Z42_l65 F0 x3.1 (0 : Int))
theorem Z42_walk {a0 : Bs}   {r : (TRef × Int)} (hE : Z42 a0 = some r) (H : Heap)  : ACalls Tryd.prog 27 [.d (.str a0)] H fun v h' => v = .tup [.agg (TRef.c r.1), .d (.int .i64 r.2)] ∧ h' = H := by
 unfold Z42 at hE
 refine ACalls.of_wp (fn := Tryd.f27) (c := _) Tryd.tab_ok (fun _ _ => Tryd.call27 _ _) Tryd.func27 rfl (n := 106) rfl (rs := [.cell 2 45, .tmp 3]) rfl rfl ?_
 refine seqK fun K1 hK1 => ?_
 refine region ?_
 refine sL (allocLA (TK rfl) rfl) rfl ?_
 refine s0 assignA rfl ?_
 refine nil ?_
 refine hK1 _ ?_
 clear hK1 K1
 refine seqK fun K2 hK2 => ?_
 refine region ?_
 refine s0 moveA rfl ?_
 obtain ⟨x3, gx3, hE⟩ := bindO_some hE
 refine s0 (callP rfl rfl (fun H => Z28_walk gx3 H)) rfl ?_
 refine s0 moveA rfl ?_
 refine s0 (extract rfl rfl) rfl ?_
 refine s0 (extract rfl rfl) rfl ?_
 refine s0 (extract rfl rfl) rfl ?_
 refine s0 assignA rfl ?_
 refine s0 assignA rfl ?_
 refine s0 assignA rfl ?_
 refine nil ?_
 refine hK2 _ ?_
 clear hK2 K2
 refine seqK fun K4 hK4 => ?_
 refine seqK fun K5 hK5 => ?_
 refine region ?_
 refine s0 moveA rfl ?_
 refine s0 (binI rfl rfl rfl) rfl ?_
 refine nil ?_
 refine hK5 _ ?_
 clear hK5 K5
 refine condE hE rfl (fun hc6 hE => ?_) (fun hc6 hE => ?_)
 ·refine seqK fun K7 hK7 => ?_
  refine region ?_
  refine s0 (build Tryd.tab_ok rfl rfl rfl rfl rfl rfl) rfl ?_
  refine s0 moveA rfl ?_
  refine sLn (storeLFA (TK rfl) rfl rfl rfl rfl rfl) ?_
  refine s0 assignA rfl ?_
  refine nil ?_
  refine hK7 _ ?_
  clear hK7 K7
  refine AWp.ret ?_
  repeat (first | refine xBlock_ret ?_ | refine xThen_ret ?_)
  obtain rfl := Option.some.inj hE
  refine retQ.retF H rfl ⟨rfl, rfl⟩ ?_
  exact (fun _ _ h => h)
 refine AWp.skip ?_
 refine hK4 _ ?_
 clear hK4 K4
 refine seqK fun K8 hK8 => ?_
 refine region ?_
 refine sL (allocLA (TK rfl) rfl) rfl ?_
 refine AOps.arrO 1 fun tk7_9 htk7_9 => ?_
 refine AOps.relocal 1 _ rfl (fun j w cs hh hx => arr_cell 1 1 1 hh (t := tk7_9) hpG hx rfl) ?_
 refine nil ?_
 refine hK8 _ ?_
 clear hK8 K8
 refine seqK fun K10 hK10 => ?_
 refine region ?_
 refine s0 assignA rfl ?_
 refine nil ?_
 refine hK10 _ ?_
 clear hK10 K10
 refine seqJH (KeepsT.A (k := 2) (KeepsT.A (k := 7) KeepsT.nil)) (fun (z : (Sl Token_Token) × Int) => [(4, .a (.d (Sl.d 3 Token_Token.c none z.1))), (8, .a (.d (.int .i64 z.2)))]) (fun z => (H.set tk7_9 (some (.arr 1 [])))) (fun z => Z42_j11 z.1 z.2 = some r) ?_ ?_
 ·intro K11 hK11
  refine block ?_
  refine loopH (KeepsT.A (k := 2) (KeepsT.A (k := 7) KeepsT.nil)) (fun (z : Nat × (Sl Token_Token) × Int) => [(4, .a (.d (Sl.d 3 Token_Token.c none z.2.1))), (8, .a (.d (.int .i64 z.2.2)))]) (fun z => (H.set tk7_9 (some (.arr 1 [])))) (fun z => z.1) (fun z => Z42_l65 z.1 z.2.1 z.2.2 = some r) (F0, x3.1, (0 : Int)) hE Weak.toA ?_
  rintro ⟨n65, s4_66, s8_67⟩ hE K65 hK65
  try dsimp only at hE
  cases n65 with
  | zero => cases hE
  | succ n65 =>
    rw [Z42_l65] at hE
    refine seqK fun K68 hK68 => ?_
    refine seqK fun K69 hK69 => ?_
    refine region ?_
    refine s0 moveA rfl ?_
    obtain ⟨x70, gx70, hE⟩ := bindO_some hE
    refine s0 (idxMn (f := Token_Token.c) (n := 0) (TK rfl) rfl (TK rfl) rfl rfl rfl gx70) rfl ?_
    refine s0 (fieldVA (TK rfl) rfl rfl (TK rfl) rfl rfl) rfl ?_
    refine s0 (loadV (TK rfl) rfl rfl rfl) rfl ?_
    refine s0 (binI rfl rfl rfl) rfl ?_
    refine s0 moveA rfl ?_
    refine gC rfl rfl (fun hC => moveA) rfl ?_
    obtain ⟨x71, gx71, hE⟩ := guardO_some hE
    refine gC rfl rfl (fun hC => ungdA (k := 25) rfl (idxMn (f := Token_Token.c) (n := 0) (TK rfl) rfl (TK rfl) rfl rfl rfl (gx71 hC))) rfl ?_
    refine gC rfl rfl (fun hC => ungdA (k := 26) rfl (fieldVA (TK rfl) rfl rfl (TK rfl) rfl rfl)) rfl ?_
    refine gC rfl rfl (fun hC => ungdA (k := 27) rfl (loadV (TK rfl) rfl rfl rfl)) rfl ?_
    refine gC rfl rfl (fun hC => ungdA (k := 28) rfl (binS rfl rfl rfl)) rfl ?_
    refine s0 (pickAndA rfl rfl rfl) rfl ?_
    refine nil ?_
    refine hK69 _ ?_
    clear hK69 K69
    refine condE hE rfl (fun hc72 hE => ?_) (fun hc72 hE => ?_)
    ·refine AWp.skip ?_
     refine hK68 _ ?_
     clear hK68 K68
     refine block ?_
     refine AWp.draw rfl ?_
     refine DOps.s0 moveA rfl ?_
     obtain ⟨x73, gx73, hE⟩ := bindO_some hE
     refine DOps.s0 (addM rfl rfl gx73) rfl ?_
     refine DOps.s0 moveA rfl ?_
     obtain ⟨x74, gx74, hE⟩ := bindO_some hE
     refine DOps.s0 (partM (f := Token_Token.c) (l := (some (1 : Int))) (r := none) (TK rfl) rfl (TK rfl) rfl rfl rfl trivial gx74) rfl ?_
     refine DOps.s0 assignA rfl ?_
     refine DOps.s0 assignA rfl ?_
     refine DOps.nil (by decide +kernel) ?_
     exact hK65 _ (n65, x74, x73) Weak.toA hE (Nat.lt_succ_self _)
    refine AWp.exit ?_
    exact hK11 _ (s4_66, s8_67) Weak.toA hE
 rintro ⟨s4_12, s8_13⟩ hE
 try dsimp only at hE
 unfold Z42_j11 at hE
 refine seqK fun K14 hK14 => ?_
 refine seqK fun K15 hK15 => ?_
 refine region ?_
 refine s0 moveA rfl ?_
 obtain ⟨x16, gx16, hE⟩ := bindO_some hE
 refine s0 (idxMn (f := Token_Token.c) (n := 0) (TK rfl) rfl (TK rfl) rfl rfl rfl gx16) rfl ?_
 refine s0 (fieldVA (TK rfl) rfl rfl (TK rfl) rfl rfl) rfl ?_
 refine s0 (loadV (TK rfl) rfl rfl rfl) rfl ?_
 refine s0 (binI rfl rfl rfl) rfl ?_
 refine nil ?_
 refine hK15 _ ?_
 clear hK15 K15
 refine condE hE rfl (fun hc17 hE => ?_) (fun hc17 hE => ?_)
 ·refine seqK fun K18 hK18 => ?_
  refine region ?_
  refine s0 (build Tryd.tab_ok rfl rfl rfl rfl rfl rfl) rfl ?_
  refine sLn (storeLFA (TK rfl) rfl rfl rfl rfl rfl) ?_
  refine s0 assignA rfl ?_
  refine nil ?_
  refine hK18 _ ?_
  clear hK18 K18
  refine AWp.ret ?_
  repeat (first | refine xBlock_ret ?_ | refine xThen_ret ?_)
  obtain rfl := Option.some.inj hE
  refine retQ.retF H rfl ⟨rfl, rfl⟩ ?_
  first | exact Heap.sub_set htk7_9 | (simp only [Heap.set_set]; exact Heap.sub_set htk7_9)
 refine AWp.skip ?_
 refine hK14 _ ?_
 clear hK14 K14
 refine seqK fun K19 hK19 => ?_
 refine AWp.draw rfl ?_
 refine DOps.s0 moveA rfl ?_
 obtain ⟨x20, gx20, hE⟩ := bindO_some hE
 refine DOps.s0 (idxMn (f := Token_Token.c) (n := 0) (TK rfl) rfl (TK rfl) rfl rfl rfl gx20) rfl ?_
 refine DOps.s0 (fieldVA (TK rfl) rfl rfl (TK rfl) rfl rfl) rfl ?_
 refine DOps.s0 (loadV (TK rfl) rfl rfl rfl) rfl ?_
 refine DOps.s0 moveA rfl ?_
 obtain ⟨x21, gx21, hE⟩ := bindO_some hE
 refine DOps.s0 (partM (f := Token_Token.c) (l := (some (1 : Int))) (r := none) (TK rfl) rfl (TK rfl) rfl rfl rfl trivial gx21) rfl ?_
 refine DOps.s0 (fieldL (TK rfl) rfl rfl (TK rfl) rfl rfl) rfl ?_
 refine DOps.sLn (storeL1 (TK rfl) rfl rfl rfl rfl (by repeat (first | exact SetAt.zero | apply SetAt.succ)) (by repeat (first | exact SetAt.zero | apply SetAt.succ))) ?_
 refine DOps.s0 assignA rfl ?_
 refine DOps.nil (by decide +kernel) ?_
 refine hK19 _ ?_
 clear hK19 K19
 refine seqJ (KeepsT.A (k := 2) (KeepsT.A (k := 7) KeepsT.nil)) (fun (z : (Sl Token_Token) × TRef × TRef) => [(4, .a (.d (Sl.d 3 Token_Token.c none z.1)))]) (fun z => [TRef.c z.2.1, (strE z.2.2.FName ++ [.arr 1 tk7_9 z.2.2.FWraps.nl z.2.2.FWraps.l.length])]) (fun z => (H.set tk7_9 (some (.arr 1 (z.2.2.FWraps.l.map (intE .i64)))))) (fun z => Z42_j22 z.1 z.2.1 z.2.2 = some r) ?_ ?_
 ·intro K22 hK22
  refine block ?_
  refine loopO (KeepsT.A (k := 2) (KeepsT.A (k := 7) KeepsT.nil)) (fun (z : Nat × (Sl Token_Token) × Int × TRef × TRef) => [(4, .a (.d (Sl.d 3 Token_Token.c none z.2.1))), (8, .a (.d (.int .i64 z.2.2.1)))]) (fun z => [TRef.c z.2.2.2.1, (strE z.2.2.2.2.FName ++ [.arr 1 tk7_9 z.2.2.2.2.FWraps.nl z.2.2.2.2.FWraps.l.length])]) (fun z => (H.set tk7_9 (some (.arr 1 (z.2.2.2.2.FWraps.l.map (intE .i64)))))) (fun z => z.1) (fun z => Z42_l39 z.1 z.2.1 z.2.2.1 z.2.2.2.1 z.2.2.2.2 = some r) (F0, x21, s8_13, TRef.zero, (TRef.mk x20.FText TRef.zero.FWraps)) hE Weak.toA ?_
  rintro ⟨n39, s4_40, s8_41, y42_l0, y43_l1⟩ hE K39 hK39
  try dsimp only at hE
  cases n39 with
  | zero => cases hE
  | succ n39 =>
    rw [Z42_l39] at hE
    refine block ?_
    refine seqJ (KeepsT.A (k := 2) (KeepsT.A (k := 7) (KeepsT.A (k := 8) KeepsT.nil))) (fun (z : (Sl Token_Token) × TRef) => [(4, .a (.d (Sl.d 3 Token_Token.c none z.1)))]) (fun z => [TRef.c y42_l0, (strE z.2.FName ++ [.arr 1 tk7_9 z.2.FWraps.nl z.2.FWraps.l.length])]) (fun z => (H.set tk7_9 (some (.arr 1 (z.2.FWraps.l.map (intE .i64)))))) (fun z => Z42_j44 s8_41 y42_l0 ((Z42_l39 n39)) z.1 z.2 = some r) ?_ ?_
    ·intro K44 hK44
     refine seqK fun K59 hK59 => ?_
     refine region ?_
     refine s0 moveA rfl ?_
     obtain ⟨x60, gx60, hE⟩ := bindO_some hE
     refine s0 (idxMn (f := Token_Token.c) (n := 0) (TK rfl) rfl (TK rfl) rfl rfl rfl gx60) rfl ?_
     refine s0 (fieldVA (TK rfl) rfl rfl (TK rfl) rfl rfl) rfl ?_
     refine s0 (loadV (TK rfl) rfl rfl rfl) rfl ?_
     refine s0 (binI rfl rfl rfl) rfl ?_
     refine s0 moveA rfl ?_
     refine gC rfl rfl (fun hC => moveA) rfl ?_
     obtain ⟨x61, gx61, hE⟩ := guardO_some hE
     refine gC rfl rfl (fun hC => ungdA (k := 54) rfl (idxMn (f := Token_Token.c) (n := 0) (TK rfl) rfl (TK rfl) rfl rfl rfl (gx61 hC))) rfl ?_
     refine gC rfl rfl (fun hC => ungdA (k := 55) rfl (fieldVA (TK rfl) rfl rfl (TK rfl) rfl rfl)) rfl ?_
     refine gC rfl rfl (fun hC => ungdA (k := 56) rfl (loadV (TK rfl) rfl rfl rfl)) rfl ?_
     refine gC rfl rfl (fun hC => ungdA (k := 57) rfl (binS rfl rfl rfl)) rfl ?_
     refine s0 (pickAndA rfl rfl rfl) rfl ?_
     refine nil ?_
     refine hK59 _ ?_
     clear hK59 K59
     refine condE hE rfl (fun hc62 hE => ?_) (fun hc62 hE => ?_)
     ·refine AWp.draw rfl ?_
      refine DOps.s0 (fieldL (TK rfl) rfl rfl (TK rfl) rfl rfl) rfl ?_
      refine DOps.s0 (loadL (TK rfl) rfl rfl rfl rfl) rfl ?_
      refine DOps.s0 (buildSlice (TK rfl) rfl (TK rfl) rfl rfl rfl rfl rfl rfl) rfl ?_
      obtain ⟨x63, gx63, hE⟩ := bindO_some hE
      refine DOps.sH (appR (f := (intE .i64)) (s := y43_l1.FWraps) (TK rfl) rfl (TK rfl) (TK rfl) ⟨_, rfl⟩ rfl rfl rfl rfl rfl rfl hpG (by first | rfl | simp [Sl.setL, Sl.nil, sortL_len]) rfl gx63) rfl ?_
      refine DOps.heq (h' := (H.set tk7_9 (some (.arr 1 (x63.l.map (intE .i64)))))) (by first | rfl | (rw [Heap.set_set]; rfl) | (funext n_; simp only [Heap.set]; (repeat' split) <;> first | rfl | (exfalso; simp_all; done) | (simp_all; done))) ?_
      refine DOps.s0 moveA rfl ?_
      obtain ⟨x64, gx64, hE⟩ := bindO_some hE
      refine DOps.s0 (partM (f := Token_Token.c) (l := (some (1 : Int))) (r := none) (TK rfl) rfl (TK rfl) rfl rfl rfl trivial gx64) rfl ?_
      refine DOps.s0 (fieldL (TK rfl) rfl rfl (TK rfl) rfl rfl) rfl ?_
      refine DOps.sLn (storeL1 (TK rfl) rfl rfl rfl rfl (by repeat (first | exact SetAt.zero | apply SetAt.succ)) (by repeat (first | exact SetAt.zero | apply SetAt.succ))) ?_
      refine DOps.s0 assignA rfl ?_
      refine DOps.nil (by decide +kernel) ?_
      exact hK44 _ (x64, (TRef.mk y43_l1.FName x63)) Weak.toA hE
     refine AWp.skip ?_
     exact hK44 _ (s4_40, y43_l1) Weak.toA hE
    rintro ⟨s4_45, y46_l1⟩ hE
    try dsimp only at hE
    unfold Z42_j44 at hE
    refine seqK fun K47 hK47 => ?_
    refine seqK fun K48 hK48 => ?_
    refine region ?_
    refine s0 moveA rfl ?_
    refine s0 (binI rfl rfl rfl) rfl ?_
    refine nil ?_
    refine hK48 _ ?_
    clear hK48 K48
    refine condE hE rfl (fun hc49 hE => ?_) (fun hc49 hE => ?_)
    ·refine AWp.exit ?_
     exact hK22 _ (s4_45, y42_l0, y46_l1) Weak.toA hE
    refine AWp.skip ?_
    refine hK47 _ ?_
    clear hK47 K47
    refine seqK fun K50 hK50 => ?_
    refine seqK fun K51 hK51 => ?_
    refine region ?_
    refine s0 moveA rfl ?_
    obtain ⟨x52, gx52, hE⟩ := bindO_some hE
    refine s0 (idxMn (f := Token_Token.c) (n := 0) (TK rfl) rfl (TK rfl) rfl rfl rfl gx52) rfl ?_
    refine s0 (fieldVA (TK rfl) rfl rfl (TK rfl) rfl rfl) rfl ?_
    refine s0 (loadV (TK rfl) rfl rfl rfl) rfl ?_
    refine s0 (binI rfl rfl rfl) rfl ?_
    refine s0 moveA rfl ?_
    refine gC rfl rfl (fun hC => moveA) rfl ?_
    obtain ⟨x53, gx53, hE⟩ := guardO_some hE
    refine gC rfl rfl (fun hC => ungdA (k := 75) rfl (idxMn (f := Token_Token.c) (n := 0) (TK rfl) rfl (TK rfl) rfl rfl rfl (gx53 hC))) rfl ?_
    refine gC rfl rfl (fun hC => ungdA (k := 76) rfl (fieldVA (TK rfl) rfl rfl (TK rfl) rfl rfl)) rfl ?_
    refine gC rfl rfl (fun hC => ungdA (k := 77) rfl (loadV (TK rfl) rfl rfl rfl)) rfl ?_
    refine gC rfl rfl (fun hC => ungdA (k := 78) rfl (binS rfl rfl rfl)) rfl ?_
    refine s0 (pickOrA rfl rfl rfl) rfl ?_
    refine nil ?_
    refine hK51 _ ?_
    clear hK51 K51
    refine condE hE rfl (fun hc54 hE => ?_) (fun hc54 hE => ?_)
    ·refine seqK fun K55 hK55 => ?_
     refine region ?_
     refine s0 (build Tryd.tab_ok rfl rfl rfl rfl rfl rfl) rfl ?_
     refine sLn (storeLFA (TK rfl) rfl rfl rfl rfl rfl) ?_
     refine s0 assignA rfl ?_
     refine nil ?_
     refine hK55 _ ?_
     clear hK55 K55
     refine AWp.ret ?_
     repeat (first | refine xBlock_ret ?_ | refine xThen_ret ?_)
     obtain rfl := Option.some.inj hE
     refine retQ.retF H rfl ⟨rfl, rfl⟩ ?_
     first | exact Heap.sub_set htk7_9 | (simp only [Heap.set_set]; exact Heap.sub_set htk7_9)
    refine AWp.skip ?_
    refine hK50 _ ?_
    clear hK50 K50
    refine AWp.draw rfl ?_
    refine DOps.s0 (fieldL (TK rfl) rfl rfl (TK rfl) rfl rfl) rfl ?_
    refine DOps.s0 (loadL (TK rfl) rfl rfl rfl rfl) rfl ?_
    refine DOps.s0 (buildSlice (TK rfl) rfl (TK rfl) rfl rfl rfl rfl rfl rfl) rfl ?_
    obtain ⟨x56, gx56, hE⟩ := bindO_some hE
    refine DOps.sH (appR (f := (intE .i64)) (s := y46_l1.FWraps) (TK rfl) rfl (TK rfl) (TK rfl) ⟨_, rfl⟩ rfl rfl rfl rfl rfl rfl hpG (by first | rfl | simp [Sl.setL, Sl.nil, sortL_len]) rfl gx56) rfl ?_
    refine DOps.heq (h' := (H.set tk7_9 (some (.arr 1 (x56.l.map (intE .i64)))))) (by first | rfl | (rw [Heap.set_set]; rfl) | (funext n_; simp only [Heap.set]; (repeat' split) <;> first | rfl | (exfalso; simp_all; done) | (simp_all; done))) ?_
    refine DOps.s0 moveA rfl ?_
    obtain ⟨x57, gx57, hE⟩ := bindO_some hE
    refine DOps.s0 (partM (f := Token_Token.c) (l := (some (1 : Int))) (r := none) (TK rfl) rfl (TK rfl) rfl rfl rfl trivial gx57) rfl ?_
    refine DOps.s0 moveA rfl ?_
    obtain ⟨x58, gx58, hE⟩ := bindO_some hE
    refine DOps.s0 (subM rfl rfl gx58) rfl ?_
    refine DOps.s0 (fieldL (TK rfl) rfl rfl (TK rfl) rfl rfl) rfl ?_
    refine DOps.sLn (storeL1 (TK rfl) rfl rfl rfl rfl (by repeat (first | exact SetAt.zero | apply SetAt.succ)) (by repeat (first | exact SetAt.zero | apply SetAt.succ))) ?_
    refine DOps.s0 assignA rfl ?_
    refine DOps.s0 assignA rfl ?_
    refine DOps.nil (by decide +kernel) ?_
    exact hK39 _ (n39, x57, x58, y42_l0, (TRef.mk y46_l1.FName x56)) Weak.toA hE (Nat.lt_succ_self _)
 rintro ⟨s4_23, y24_l0, y25_l1⟩ hE
 try dsimp only at hE
 unfold Z42_j22 at hE
 refine seqK fun K26 hK26 => ?_
 refine seqK fun K27 hK27 => ?_
 refine region ?_
 refine s0 moveA rfl ?_
 obtain ⟨x28, gx28, hE⟩ := bindO_some hE
 refine s0 (idxMn (f := Token_Token.c) (n := 0) (TK rfl) rfl (TK rfl) rfl rfl rfl gx28) rfl ?_
 refine s0 (fieldVA (TK rfl) rfl rfl (TK rfl) rfl rfl) rfl ?_
 refine s0 (loadV (TK rfl) rfl rfl rfl) rfl ?_
 refine s0 (binI rfl rfl rfl) rfl ?_
 refine nil ?_
 refine hK27 _ ?_
 clear hK27 K27
 refine condE hE rfl (fun hc29 hE => ?_) (fun hc29 hE => ?_)
 ·refine seqK fun K30 hK30 => ?_
  refine region ?_
  refine s0 (build Tryd.tab_ok rfl rfl rfl rfl rfl rfl) rfl ?_
  refine sLn (storeLFA (TK rfl) rfl rfl rfl rfl rfl) ?_
  refine s0 assignA rfl ?_
  refine nil ?_
  refine hK30 _ ?_
  clear hK30 K30
  refine AWp.ret ?_
  repeat (first | refine xBlock_ret ?_ | refine xThen_ret ?_)
  obtain rfl := Option.some.inj hE
  refine retQ.retF H rfl ⟨rfl, rfl⟩ ?_
  first | exact Heap.sub_set htk7_9 | (simp only [Heap.set_set]; exact Heap.sub_set htk7_9)
 refine AWp.skip ?_
 refine hK26 _ ?_
 clear hK26 K26
 refine seqK fun K31 hK31 => ?_
 refine seqK fun K32 hK32 => ?_
 refine region ?_
 refine s0 (fieldL (TK rfl) rfl rfl (TK rfl) rfl rfl) rfl ?_
 refine s0 (loadL (TK rfl) rfl rfl rfl rfl) rfl ?_
 refine AOps.sLenR (f := (intE .i64)) (l := y25_l1.FWraps.l) (TK rfl) rfl rfl rfl hpG (by first | rfl | simp [Sl.setL, Sl.nil, sortL_len]) rfl fun hL33 => ?_
 refine s0 (binI rfl rfl rfl) rfl ?_
 refine nil ?_
 refine hK32 _ ?_
 clear hK32 K32
 refine condE hE rfl (fun hc34 hE => ?_) (fun hc34 hE => ?_)
 ·refine seqK fun K35 hK35 => ?_
  refine region ?_
  refine s0 (build Tryd.tab_ok rfl rfl rfl rfl rfl rfl) rfl ?_
  refine sLn (storeLFA (TK rfl) rfl rfl rfl rfl rfl) ?_
  refine s0 assignA rfl ?_
  refine nil ?_
  refine hK35 _ ?_
  clear hK35 K35
  refine AWp.ret ?_
  repeat (first | refine xBlock_ret ?_ | refine xThen_ret ?_)
  obtain rfl := Option.some.inj hE
  refine retQ.retF H rfl ⟨rfl, rfl⟩ ?_
  first | exact Heap.sub_set htk7_9 | (simp only [Heap.set_set]; exact Heap.sub_set htk7_9)
 refine AWp.skip ?_
 refine hK31 _ ?_
 clear hK31 K31
 refine seqK fun K36 hK36 => ?_
 refine region ?_
 refine s0 (fieldL (TK rfl) rfl rfl (TK rfl) rfl rfl) rfl ?_
 refine s0 (loadL (TK rfl) rfl rfl rfl rfl) rfl ?_
 obtain ⟨x37, gx37, hE⟩ := bindO_some hE
 have ex37 := Option.some.inj gx37
 refine sH (callH rfl rfl (Z13_walk (s := y25_l1.FWraps) hpG (by first | rfl | simp [Sl.setL, Sl.nil, sortL_len]))) rfl ?_
 refine AOps.heq (h' := (H.set tk7_9 (some (.arr 1 (x37.l.map (intE .i64)))))) (by subst ex37; exact (by first | rfl | (rw [Heap.set_set]; rfl) | (funext n_; simp only [Heap.set]; (repeat' split) <;> first | rfl | (exfalso; simp_all; done) | (simp_all; done)))) ?_
 refine AOps.relocal 1 (strE (TRef.mk y25_l1.FName x37).FName ++ [.arr 1 tk7_9 (TRef.mk y25_l1.FName x37).FWraps.nl (TRef.mk y25_l1.FName x37).FWraps.l.length]) rfl (fun j w cs hh hx => by subst ex37; first | exact hx | simpa [Sl.rev] using hx) ?_
 refine nil ?_
 refine hK36 _ ?_
 clear hK36 K36
 refine seqK fun K38 hK38 => ?_
 refine AWp.frzL 1 1 tk7_9 rfl rfl hpG (by first | rfl | (simp [Sl.setL, Sl.nil, sortL_len]; done) | (subst_vars; first | rfl | (simp [Sl.setL, Sl.nil, sortL_len]; done))) ?_
 refine AWp.heqA (h' := H) (by first | rfl | (rw [Heap.set_set]; rfl) | (funext n_; simp only [Heap.set]; (repeat' split) <;> first | rfl | (exfalso; simp_all; done) | (simp_all; done))) ?_
 refine region ?_
 refine s0 (loadL (TK rfl) rfl rfl rfl rfl) rfl ?_
 refine sLn (storeLFA (TK rfl) rfl rfl rfl rfl rfl) ?_
 refine s0 assignA rfl ?_
 refine nil ?_
 refine hK38 _ ?_
 clear hK38 K38
 refine AWp.ret ?_
 repeat (first | refine xBlock_ret ?_ | refine xThen_ret ?_)
 obtain rfl := Option.some.inj hE
 refine retQ.retF H rfl ⟨rfl, rfl⟩ ?_
 exact (fun _ _ h => h)
def Z9_j8   : Option Bool := some true
def Z9_l11 (a0 : (Sl Int)) (a1 : (Sl Int))  : Nat → Nat → Option Bool
 | 0, _ => none
 | n11 + 1, s5_12 => bif (decide (((s5_12 : Nat) : Int) < ((a0.l.length : Nat) : Int))) then ((a0.l[s5_12]?).bind fun x19 => (a1.l[s5_12]?).bind fun x20 => bif (!decide (x19 = x20)) then (some false) else ((Z9_l11 a0 a1 n11) (s5_12 + 1))) else (Z9_j8   )
def Z9 (a0 : (Sl Int)) (a1 : (Sl Int)) : Option Bool := bif (!decide (((a0.l.length : Nat) : Int) = ((a1.l.length : Nat) : Int))) then (some false) else (Z9_l11 a0 a1 (a0.l.length + 1) 0)
theorem Z9_walk {a0 : (Sl Int)} {a1 : (Sl Int)} {w0 : Option Nat} {w1 : Option Nat}  {r : Bool} (hE : Z9 a0 a1 = some r) (H : Heap)  : ACalls Tryd.prog 52 [.d (Sl.d 1 (intE .i64) w0 a0), .d (Sl.d 1 (intE .i64) w1 a1)] H fun v h' => v = .a (.d (.bool r)) ∧ h' = H := by
 unfold Z9 at hE
 refine ACalls.of_wp (fn := Tryd.f52) (c := _) Tryd.tab_ok (fun _ _ => Tryd.call52 _ _) Tryd.func52 rfl (n := 26) rfl (rs := [.tmp 4]) rfl rfl ?_
 refine seqK fun K1 hK1 => ?_
 refine region ?_
 refine s0 assignA rfl ?_
 refine nil ?_
 refine hK1 _ ?_
 clear hK1 K1
 refine seqK fun K2 hK2 => ?_
 refine seqK fun K3 hK3 => ?_
 refine region ?_
 refine s0 moveA rfl ?_
 refine sLen (f := (intE .i64)) (s := a0) (TK rfl) rfl rfl rfl rfl fun hL4 => ?_
 refine s0 moveA rfl ?_
 refine sLen (f := (intE .i64)) (s := a1) (TK rfl) rfl rfl rfl rfl fun hL5 => ?_
 refine s0 (binI rfl rfl rfl) rfl ?_
 refine nil ?_
 refine hK3 _ ?_
 clear hK3 K3
 refine condE hE rfl (fun hc6 hE => ?_) (fun hc6 hE => ?_)
 ·refine seqK fun K7 hK7 => ?_
  refine region ?_
  refine s0 assignA rfl ?_
  refine nil ?_
  refine hK7 _ ?_
  clear hK7 K7
  refine AWp.ret ?_
  repeat (first | refine xBlock_ret ?_ | refine xThen_ret ?_)
  obtain rfl := Option.some.inj hE
  refine retQ.retF H rfl ⟨rfl, rfl⟩ ?_
  exact (fun _ _ h => h)
 refine AWp.skip ?_
 refine hK2 _ ?_
 clear hK2 K2
 refine seqJH KeepsT.nil (fun (z : Unit) => []) (fun z => H) (fun z => Z9_j8  = some r) ?_ ?_
 ·intro K8 hK8
  refine seqK fun K10 hK10 => ?_
  refine region ?_
  refine s0 assignA rfl ?_
  refine nil ?_
  refine hK10 _ ?_
  clear hK10 K10
  refine block ?_
  refine loopH (KeepsT.A (k := 0) (KeepsT.A (k := 1) KeepsT.nil)) (fun (z : Nat × Nat) => [(5, .a (.d (.int .i64 ((z.2 : Nat) : Int))))]) (fun z => H) (fun z => z.1) (fun z => Z9_l11 a0 a1 z.1 z.2 = some r) ((a0.l.length + 1), 0) hE Weak.toA ?_
  rintro ⟨n11, s5_12⟩ hE K11 hK11
  try dsimp only at hE
  cases n11 with
  | zero => cases hE
  | succ n11 =>
    rw [Z9_l11] at hE
    refine seqK fun K13 hK13 => ?_
    refine seqK fun K14 hK14 => ?_
    refine region ?_
    refine s0 moveA rfl ?_
    refine s0 moveA rfl ?_
    refine sLen (f := (intE .i64)) (s := a0) (TK rfl) rfl rfl rfl rfl fun hL15 => ?_
    refine s0 (binI rfl rfl rfl) rfl ?_
    refine nil ?_
    refine hK14 _ ?_
    clear hK14 K14
    refine condE hE rfl (fun hc16 hE => ?_) (fun hc16 hE => ?_)
    ·try dsimp only at hc16
     have hf16 := of_decide_eq_true hc16
     refine AWp.skip ?_
     refine hK13 _ ?_
     clear hK13 K13
     refine seqK fun K17 hK17 => ?_
     refine block ?_
     refine seqK fun K18 hK18 => ?_
     refine AWp.draw rfl ?_
     refine DOps.s0 moveA rfl ?_
     refine DOps.s0 moveA rfl ?_
     obtain ⟨x19, gx19, hE⟩ := bindO_some hE
     refine DOps.s0 (idxMn (f := (intE .i64)) (n := s5_12) (TK rfl) rfl (TK rfl) rfl rfl rfl gx19) rfl ?_
     refine DOps.s0 (loadV (TK rfl) rfl rfl rfl) rfl ?_
     refine DOps.s0 moveA rfl ?_
     refine DOps.s0 moveA rfl ?_
     obtain ⟨x20, gx20, hE⟩ := bindO_some hE
     refine DOps.s0 (idxMn (f := (intE .i64)) (n := s5_12) (TK rfl) rfl (TK rfl) rfl rfl rfl gx20) rfl ?_
     refine DOps.s0 (loadV (TK rfl) rfl rfl rfl) rfl ?_
     refine DOps.s0 (binI rfl rfl rfl) rfl ?_
     refine DOps.nil (by decide +kernel) ?_
     refine hK18 _ ?_
     clear hK18 K18
     refine condE hE rfl (fun hc21 hE => ?_) (fun hc21 hE => ?_)
     ·refine seqK fun K22 hK22 => ?_
      refine region ?_
      refine s0 assignA rfl ?_
      refine nil ?_
      refine hK22 _ ?_
      clear hK22 K22
      refine AWp.ret ?_
      repeat (first | refine xBlock_ret ?_ | refine xThen_ret ?_)
      obtain rfl := Option.some.inj hE
      refine retQ.retF H rfl ⟨rfl, rfl⟩ ?_
      exact (fun _ _ h => h)
     refine AWp.skip ?_
     refine hK17 _ ?_
     clear hK17 K17
     refine region ?_
     refine s0 moveA rfl ?_
     refine s0 (addIA rfl rfl) rfl ?_
     refine s0 assignA rfl ?_
     refine nil ?_
     exact hK11 _ (n11, (s5_12 + 1)) Weak.toA hE (Nat.lt_succ_self _)
    refine AWp.exit ?_
    exact hK8 _ () Weak.toA hE
 rintro _ hE
 try dsimp only at hE
 unfold Z9_j8 at hE
 refine seqK fun K9 hK9 => ?_
 refine region ?_
 refine s0 assignA rfl ?_
 refine nil ?_
 refine hK9 _ ?_
 clear hK9 K9
 refine AWp.ret ?_
 repeat (first | refine xBlock_ret ?_ | refine xThen_ret ?_)
 obtain rfl := Option.some.inj hE
 refine retQ.retF H rfl ⟨rfl, rfl⟩ ?_
 exact (fun _ _ h => h)
def Z8 (a0 : TRef) (a1 : TRef) : Option Bool := guardO (((a0.FName == a1.FName))) (Z9 a0.FWraps a1.FWraps) false fun x3 => some (((a0.FName == a1.FName)) && x3)
theorem Z8_walk {a0 : TRef} {a1 : TRef}   {r : Bool} (hE : Z8 a0 a1 = some r) (H : Heap)  : ACalls Tryd.prog 29 [.agg (TRef.c a0), .agg (TRef.c a1)] H fun v h' => v = .a (.d (.bool r)) ∧ h' = H := by
 unfold Z8 at hE
 refine ACalls.of_wp (fn := Tryd.f29) (c := _) Tryd.tab_ok (fun _ _ => Tryd.call29 _ _) Tryd.func29 rfl (n := 17) rfl (rs := [.tmp 4]) rfl rfl ?_
 refine seqK fun K1 hK1 => ?_
 refine region ?_
 refine s0 (boxV rfl) rfl ?_
 refine s0 (boxV rfl) rfl ?_
 refine s0 assignA rfl ?_
 refine nil ?_
 refine hK1 _ ?_
 clear hK1 K1
 refine seqK fun K2 hK2 => ?_
 refine region ?_
 refine s0 (fieldVA (TK rfl) rfl rfl (TK rfl) rfl rfl) rfl ?_
 refine s0 (loadV (TK rfl) rfl rfl rfl) rfl ?_
 refine s0 (fieldVA (TK rfl) rfl rfl (TK rfl) rfl rfl) rfl ?_
 refine s0 (loadV (TK rfl) rfl rfl rfl) rfl ?_
 refine s0 (binS rfl rfl rfl) rfl ?_
 refine s0 moveA rfl ?_
 refine gC rfl rfl (fun hC => fieldVA (TK rfl) rfl rfl (TK rfl) rfl rfl) rfl ?_
 refine gC rfl rfl (fun hC => ungdA (k := 11) rfl (loadV (TK rfl) rfl rfl rfl)) rfl ?_
 refine gC rfl rfl (fun hC => fieldVA (TK rfl) rfl rfl (TK rfl) rfl rfl) rfl ?_
 refine gC rfl rfl (fun hC => ungdA (k := 13) rfl (loadV (TK rfl) rfl rfl rfl)) rfl ?_
 obtain ⟨x3, gx3, hE⟩ := guardO_some hE
 refine gC rfl rfl (fun hC => ungdA (k := 12) rfl (ungdA (k := 14) rfl (callP rfl rfl (fun H => Z9_walk (gx3 hC) H)))) rfl ?_
 refine s0 (pickAndA rfl rfl rfl) rfl ?_
 refine s0 assignA rfl ?_
 refine nil ?_
 refine hK2 _ ?_
 clear hK2 K2
 refine AWp.ret ?_
 repeat (first | refine xBlock_ret ?_ | refine xThen_ret ?_)
 obtain rfl := Option.some.inj hE
 refine retQ.retF H rfl ⟨rfl, rfl⟩ ?_
 exact (fun _ _ h => h)
def Z39 (a0 : Bs) : Option TRef := some (TRef.mk a0 (Sl.nil : Sl Int))
theorem Z39_walk {a0 : Bs}   {r : TRef} (hE : Z39 a0 = some r) (H : Heap)  : ACalls Tryd.prog 38 [.d (.str a0)] H fun v h' => v = .a (.agg (TRef.c r)) ∧ h' = H := by
 unfold Z39 at hE
 refine ACalls.of_wp (fn := Tryd.f38) (c := _) Tryd.tab_ok (fun _ _ => Tryd.call38 _ _) Tryd.func38 rfl (n := 5) rfl (rs := [.cell 2 45]) rfl rfl ?_
 refine seqK fun K1 hK1 => ?_
 refine region ?_
 refine sL (allocLA (TK rfl) rfl) rfl ?_
 refine nil ?_
 refine hK1 _ ?_
 clear hK1 K1
 refine seqK fun K2 hK2 => ?_
 refine region ?_
 refine s0 moveA rfl ?_
 refine s0 (build Tryd.tab_ok rfl rfl rfl rfl rfl rfl) rfl ?_
 refine sLn (storeLFA (TK rfl) rfl rfl rfl rfl rfl) ?_
 refine nil ?_
 refine hK2 _ ?_
 clear hK2 K2
 refine AWp.ret ?_
 repeat (first | refine xBlock_ret ?_ | refine xThen_ret ?_)
 obtain rfl := Option.some.inj hE
 refine retQ.retF H rfl ⟨rfl, rfl⟩ ?_
 exact (fun _ _ h => h)
def Z40 (a0 : TRef) : Option TRef := (Z37 a0).bind fun x4 => bif x4 then ((Z10 a0.FWraps).bind fun x7 => some (TRef.mk a0.FName x7)) else ((appC 8 (⟨false, [(1 : Int)]⟩ : Sl Int) a0.FWraps).bind fun x9 => some (TRef.mk a0.FName x9))
theorem Z40_walk {a0 : TRef}   {r : TRef} (hE : Z40 a0 = some r) (H : Heap)  : ACalls Tryd.prog 39 [.agg (TRef.c a0)] H fun v h' => v = .a (.agg (TRef.c r)) ∧ h' = H := by
 unfold Z40 at hE
 refine ACalls.of_wp (fn := Tryd.f39) (c := _) Tryd.tab_ok (fun _ _ => Tryd.call39 _ _) Tryd.func39 rfl (n := 18) rfl (rs := [.cell 2 45]) rfl rfl ?_
 refine seqK fun K1 hK1 => ?_
 refine region ?_
 refine s0 (boxV rfl) rfl ?_
 refine sL (allocLA (TK rfl) rfl) rfl ?_
 refine nil ?_
 refine hK1 _ ?_
 clear hK1 K1
 refine seqK fun K2 hK2 => ?_
 refine seqK fun K3 hK3 => ?_
 refine region ?_
 refine s0 (loadV (TK rfl) rfl rfl rfl) rfl ?_
 obtain ⟨x4, gx4, hE⟩ := bindO_some hE
 refine s0 (callP rfl rfl (fun H => Z37_walk gx4 H)) rfl ?_
 refine nil ?_
 refine hK3 _ ?_
 clear hK3 K3
 refine condE hE rfl (fun hc5 hE => ?_) (fun hc5 hE => ?_)
 ·refine seqK fun K6 hK6 => ?_
  refine AWp.draw rfl ?_
  refine DOps.s0 (fieldVA (TK rfl) rfl rfl (TK rfl) rfl rfl) rfl ?_
  refine DOps.s0 (loadV (TK rfl) rfl rfl rfl) rfl ?_
  refine DOps.s0 (fieldVA (TK rfl) rfl rfl (TK rfl) rfl rfl) rfl ?_
  refine DOps.s0 (loadV (TK rfl) rfl rfl rfl) rfl ?_
  obtain ⟨x7, gx7, hE⟩ := bindO_some hE
  refine DOps.s0 (callP rfl rfl (fun H => Z10_walk gx7 H)) rfl ?_
  refine DOps.s0 (build Tryd.tab_ok rfl rfl rfl rfl rfl rfl) rfl ?_
  refine DOps.sLn (storeLFA (TK rfl) rfl rfl rfl rfl rfl) ?_
  refine DOps.nil (by decide +kernel) ?_
  refine hK6 _ ?_
  clear hK6 K6
  refine AWp.ret ?_
  repeat (first | refine xBlock_ret ?_ | refine xThen_ret ?_)
  obtain rfl := Option.some.inj hE
  refine retQ.retF H rfl ⟨rfl, rfl⟩ ?_
  exact (fun _ _ h => h)
 refine AWp.skip ?_
 refine hK2 _ ?_
 clear hK2 K2
 refine seqK fun K8 hK8 => ?_
 refine AWp.draw rfl ?_
 refine DOps.s0 (fieldVA (TK rfl) rfl rfl (TK rfl) rfl rfl) rfl ?_
 refine DOps.s0 (loadV (TK rfl) rfl rfl rfl) rfl ?_
 refine DOps.s0 (buildSliceF (TK rfl) rfl (TK rfl) rfl rfl rfl rfl rfl rfl) rfl ?_
 refine DOps.s0 (fieldVA (TK rfl) rfl rfl (TK rfl) rfl rfl) rfl ?_
 refine DOps.s0 (loadV (TK rfl) rfl rfl rfl) rfl ?_
 obtain ⟨x9, gx9, hE⟩ := bindO_some hE
 refine DOps.s0 (appFM (f := (intE .i64)) (TK rfl) rfl (TK rfl) (TK rfl) ⟨_, rfl⟩ rfl rfl (by decide) rfl rfl rfl (by intro q h; cases h <;> decide) rfl rfl gx9) rfl ?_
 refine DOps.s0 (build Tryd.tab_ok rfl rfl rfl rfl rfl rfl) rfl ?_
 refine DOps.sLn (storeLFA (TK rfl) rfl rfl rfl rfl rfl) ?_
 refine DOps.nil (by decide +kernel) ?_
 refine hK8 _ ?_
 clear hK8 K8
 refine AWp.ret ?_
 repeat (first | refine xBlock_ret ?_ | refine xThen_ret ?_)
 obtain rfl := Option.some.inj hE
 refine retQ.retF H rfl ⟨rfl, rfl⟩ ?_
 exact (fun _ _ h => h)
def Z38 (a0 : TRef) : Option TRef := (appC 8 (⟨false, [(2 : Int)]⟩ : Sl Int) a0.FWraps).bind fun x3 => some (TRef.mk a0.FName x3)
theorem Z38_walk {a0 : TRef}   {r : TRef} (hE : Z38 a0 = some r) (H : Heap)  : ACalls Tryd.prog 40 [.agg (TRef.c a0)] H fun v h' => v = .a (.agg (TRef.c r)) ∧ h' = H := by
 unfold Z38 at hE
 refine ACalls.of_wp (fn := Tryd.f40) (c := _) Tryd.tab_ok (fun _ _ => Tryd.call40 _ _) Tryd.func40 rfl (n := 10) rfl (rs := [.cell 2 45]) rfl rfl ?_
 refine seqK fun K1 hK1 => ?_
 refine region ?_
 refine s0 (boxV rfl) rfl ?_
 refine sL (allocLA (TK rfl) rfl) rfl ?_
 refine nil ?_
 refine hK1 _ ?_
 clear hK1 K1
 refine seqK fun K2 hK2 => ?_
 refine AWp.draw rfl ?_
 refine DOps.s0 (fieldVA (TK rfl) rfl rfl (TK rfl) rfl rfl) rfl ?_
 refine DOps.s0 (loadV (TK rfl) rfl rfl rfl) rfl ?_
 refine DOps.s0 (buildSliceF (TK rfl) rfl (TK rfl) rfl rfl rfl rfl rfl rfl) rfl ?_
 refine DOps.s0 (fieldVA (TK rfl) rfl rfl (TK rfl) rfl rfl) rfl ?_
 refine DOps.s0 (loadV (TK rfl) rfl rfl rfl) rfl ?_
 obtain ⟨x3, gx3, hE⟩ := bindO_some hE
 refine DOps.s0 (appFM (f := (intE .i64)) (TK rfl) rfl (TK rfl) (TK rfl) ⟨_, rfl⟩ rfl rfl (by decide) rfl rfl rfl (by intro q h; cases h <;> decide) rfl rfl gx3) rfl ?_
 refine DOps.s0 (build Tryd.tab_ok rfl rfl rfl rfl rfl rfl) rfl ?_
 refine DOps.sLn (storeLFA (TK rfl) rfl rfl rfl rfl rfl) ?_
 refine DOps.nil (by decide +kernel) ?_
 refine hK2 _ ?_
 clear hK2 K2
 refine AWp.ret ?_
 repeat (first | refine xBlock_ret ?_ | refine xThen_ret ?_)
 obtain rfl := Option.some.inj hE
 refine retQ.retF H rfl ⟨rfl, rfl⟩ ?_
 exact (fun _ _ h => h)
def Z3  : Option Bool := (Z39 ([85, 115, 101, 114] : Bs)).bind fun x3 => (Z40 x3).bind fun x5 => (Z38 x5).bind fun x6 => (Z40 x6).bind fun x7 => (Z40 x3).bind fun x9 => (Z38 x9).bind fun x10 => (Z47 x7 x10).bind fun x12 => (Z35 x7).bind fun x14 => (Z42 ([91, 32, 85, 115, 101, 114, 32, 33, 32, 93] : Bs)).bind fun x16 => (Z42 ([85, 115, 101, 114, 33, 33] : Bs)).bind fun x18 => guardO (!((((!x12.2) || (!x14.2)) || (!decide (x16.2 = (0 : Int)))) || (!decide (x18.2 = (3 : Int))))) (Z8 x12.1 x10) false fun x21 => guardO (!(((((!x12.2) || (!x14.2)) || (!decide (x16.2 = (0 : Int)))) || (!decide (x18.2 = (3 : Int)))) || (!x21))) (Z40 x3) TRef.zero fun x22 => guardO (!(((((!x12.2) || (!x14.2)) || (!decide (x16.2 = (0 : Int)))) || (!decide (x18.2 = (3 : Int)))) || (!x21))) (Z8 x14.1 x22) false fun x23 => guardO (!((((((!x12.2) || (!x14.2)) || (!decide (x16.2 = (0 : Int)))) || (!decide (x18.2 = (3 : Int)))) || (!x21)) || (!x23))) (Z8 x16.1 x10) false fun x24 => bif (((((((!x12.2) || (!x14.2)) || (!decide (x16.2 = (0 : Int)))) || (!decide (x18.2 = (3 : Int)))) || (!x21)) || (!x23)) || (!x24)) then (some false) else ((Z43 x7).bind fun x28 => guardO (((x28 == ([91, 85, 115, 101, 114, 33, 93, 33] : Bs)))) (Z38 x3) TRef.zero fun x29 => guardO (((x28 == ([91, 85, 115, 101, 114, 33, 93, 33] : Bs)))) (Z34 x7 x29) false fun x30 => guardO ((((x28 == ([91, 85, 115, 101, 114, 33, 93, 33] : Bs))) && x30)) (Z40 x3) TRef.zero fun x31 => guardO ((((x28 == ([91, 85, 115, 101, 114, 33, 93, 33] : Bs))) && x30)) (Z34 x3 x31) false fun x32 => guardO (((((x28 == ([91, 85, 115, 101, 114, 33, 93, 33] : Bs))) && x30) && (!x32))) (Z38 x3) TRef.zero fun x33 => guardO (((((x28 == ([91, 85, 115, 101, 114, 33, 93, 33] : Bs))) && x30) && (!x32))) (Z34 x3 x33) false fun x34 => guardO ((((((x28 == ([91, 85, 115, 101, 114, 33, 93, 33] : Bs))) && x30) && (!x32)) && (!x34))) (Z44 x7) false fun x35 => guardO (((((((x28 == ([91, 85, 115, 101, 114, 33, 93, 33] : Bs))) && x30) && (!x32)) && (!x34)) && x35)) (Z44 (TRef.mk ([85, 115, 101, 114] : Bs) (⟨false, [(1 : Int), (1 : Int)]⟩ : Sl Int))) false fun x36 => some (((((((x28 == ([91, 85, 115, 101, 114, 33, 93, 33] : Bs))) && x30) && (!x32)) && (!x34)) && x35) && (!x36)))
theorem Z3_walk    {r : Bool} (hE : Z3  = some r) (H : Heap)  : ACalls Tryd.prog 21 [] H fun v h' => v = .a (.d (.bool r)) ∧ h' = H := by
 unfold Z3 at hE
 refine ACalls.of_wp (fn := Tryd.f21) (c := _) Tryd.tab_ok (fun _ _ => Tryd.call21 _ _) Tryd.func21 rfl (n := 105) rfl (rs := [.tmp 0]) rfl rfl ?_
 refine seqK fun K1 hK1 => ?_
 refine region ?_
 refine s0 assignA rfl ?_
 refine nil ?_
 refine hK1 _ ?_
 clear hK1 K1
 refine seqK fun K2 hK2 => ?_
 refine region ?_
 obtain ⟨x3, gx3, hE⟩ := bindO_some hE
 refine s0 (callP rfl rfl (fun H => Z39_walk gx3 H)) rfl ?_
 refine sL (allocLA (TK rfl) rfl) rfl ?_
 refine sLn (storeLFA (TK rfl) rfl rfl rfl rfl rfl) ?_
 refine nil ?_
 refine hK2 _ ?_
 clear hK2 K2
 refine freezeA 1 _ rfl Keeps.nil ?_
 refine seqK fun K4 hK4 => ?_
 refine region ?_
 refine s0 (loadV (TK rfl) rfl rfl rfl) rfl ?_
 obtain ⟨x5, gx5, hE⟩ := bindO_some hE
 refine s0 (callP rfl rfl (fun H => Z40_walk gx5 H)) rfl ?_
 obtain ⟨x6, gx6, hE⟩ := bindO_some hE
 refine s0 (callP rfl rfl (fun H => Z38_walk gx6 H)) rfl ?_
 obtain ⟨x7, gx7, hE⟩ := bindO_some hE
 refine s0 (callP rfl rfl (fun H => Z40_walk gx7 H)) rfl ?_
 refine sL (allocLA (TK rfl) rfl) rfl ?_
 refine sLn (storeLFA (TK rfl) rfl rfl rfl rfl rfl) ?_
 refine nil ?_
 refine hK4 _ ?_
 clear hK4 K4
 refine freezeA 2 _ rfl (Keeps.c (k := 1) (by conv => lhs; whnf) (by rfl) Keeps.nil) ?_
 refine seqK fun K8 hK8 => ?_
 refine region ?_
 refine s0 (loadV (TK rfl) rfl rfl rfl) rfl ?_
 obtain ⟨x9, gx9, hE⟩ := bindO_some hE
 refine s0 (callP rfl rfl (fun H => Z40_walk gx9 H)) rfl ?_
 obtain ⟨x10, gx10, hE⟩ := bindO_some hE
 refine s0 (callP rfl rfl (fun H => Z38_walk gx10 H)) rfl ?_
 refine sL (allocLA (TK rfl) rfl) rfl ?_
 refine sLn (storeLFA (TK rfl) rfl rfl rfl rfl rfl) ?_
 refine nil ?_
 refine hK8 _ ?_
 clear hK8 K8
 refine freezeA 3 _ rfl (Keeps.c (k := 1) (by conv => lhs; whnf) (by rfl) (Keeps.c (k := 2) (by conv => lhs; whnf) (by rfl) Keeps.nil)) ?_
 refine seqK fun K11 hK11 => ?_
 refine region ?_
 refine s0 (loadV (TK rfl) rfl rfl rfl) rfl ?_
 refine s0 (loadV (TK rfl) rfl rfl rfl) rfl ?_
 obtain ⟨x12, gx12, hE⟩ := bindO_some hE
 refine s0 (callP rfl rfl (fun H => Z47_walk gx12 H)) rfl ?_
 refine s0 moveA rfl ?_
 refine s0 (extract rfl rfl) rfl ?_
 refine s0 (extract rfl rfl) rfl ?_
 refine sL (allocLA (TK rfl) rfl) rfl ?_
 refine sLn (storeLFA (TK rfl) rfl rfl rfl rfl rfl) ?_
 refine s0 assignA rfl ?_
 refine nil ?_
 refine hK11 _ ?_
 clear hK11 K11
 refine freezeA 4 _ rfl (Keeps.c (k := 1) (by conv => lhs; whnf) (by rfl) (Keeps.c (k := 2) (by conv => lhs; whnf) (by rfl) (Keeps.c (k := 3) (by conv => lhs; whnf) (by rfl) (Keeps.c (k := 5) (by conv => lhs; whnf) (by rfl) Keeps.nil)))) ?_
 refine seqK fun K13 hK13 => ?_
 refine region ?_
 refine s0 (loadV (TK rfl) rfl rfl rfl) rfl ?_
 obtain ⟨x14, gx14, hE⟩ := bindO_some hE
 refine s0 (callP rfl rfl (fun H => Z35_walk gx14 H)) rfl ?_
 refine s0 moveA rfl ?_
 refine s0 (extract rfl rfl) rfl ?_
 refine s0 (extract rfl rfl) rfl ?_
 refine sL (allocLA (TK rfl) rfl) rfl ?_
 refine sLn (storeLFA (TK rfl) rfl rfl rfl rfl rfl) ?_
 refine s0 assignA rfl ?_
 refine nil ?_
 refine hK13 _ ?_
 clear hK13 K13
 refine freezeA 6 _ rfl (Keeps.c (k := 1) (by conv => lhs; whnf) (by rfl) (Keeps.c (k := 2) (by conv => lhs; whnf) (by rfl) (Keeps.c (k := 3) (by conv => lhs; whnf) (by rfl) (Keeps.c (k := 4) (by conv => lhs; whnf) (by rfl) (Keeps.c (k := 5) (by conv => lhs; whnf) (by rfl) (Keeps.c (k := 7) (by conv => lhs; whnf) (by rfl) Keeps.nil)))))) ?_
 refine seqK fun K15 hK15 => ?_
 refine region ?_
 obtain ⟨x16, gx16, hE⟩ := bindO_some hE
 refine s0 (callP rfl rfl (fun H => Z42_walk gx16 H)) rfl ?_
 refine s0 moveA rfl ?_
 refine s0 (extract rfl rfl) rfl ?_
 refine s0 (extract rfl rfl) rfl ?_
 refine sL (allocLA (TK rfl) rfl) rfl ?_
 refine sLn (storeLFA (TK rfl) rfl rfl rfl rfl rfl) ?_
 refine s0 assignA rfl ?_
 refine nil ?_
 refine hK15 _ ?_
 clear hK15 K15
 refine freezeA 8 _ rfl (Keeps.c (k := 1) (by conv => lhs; whnf) (by rfl) (Keeps.c (k := 2) (by conv => lhs; whnf) (by rfl) (Keeps.c (k := 3) (by conv => lhs; whnf) (by rfl) (Keeps.c (k := 4) (by conv => lhs; whnf) (by rfl) (Keeps.c (k := 5) (by conv => lhs; whnf) (by rfl) (Keeps.c (k := 6) (by conv => lhs; whnf) (by rfl) (Keeps.c (k := 7) (by conv => lhs; whnf) (by rfl) (Keeps.c (k := 9) (by conv => lhs; whnf) (by rfl) Keeps.nil)))))))) ?_
 refine seqK fun K17 hK17 => ?_
 refine region ?_
 obtain ⟨x18, gx18, hE⟩ := bindO_some hE
 refine s0 (callP rfl rfl (fun H => Z42_walk gx18 H)) rfl ?_
 refine s0 moveA rfl ?_
 refine s0 (extract rfl rfl) rfl ?_
 refine s0 (extract rfl rfl) rfl ?_
 refine sL (allocLA (TK rfl) rfl) rfl ?_
 refine sLn (storeLFA (TK rfl) rfl rfl rfl rfl rfl) ?_
 refine s0 assignA rfl ?_
 refine nil ?_
 refine hK17 _ ?_
 clear hK17 K17
 refine freezeA 10 _ rfl (Keeps.c (k := 1) (by conv => lhs; whnf) (by rfl) (Keeps.c (k := 2) (by conv => lhs; whnf) (by rfl) (Keeps.c (k := 3) (by conv => lhs; whnf) (by rfl) (Keeps.c (k := 4) (by conv => lhs; whnf) (by rfl) (Keeps.c (k := 5) (by conv => lhs; whnf) (by rfl) (Keeps.c (k := 6) (by conv => lhs; whnf) (by rfl) (Keeps.c (k := 7) (by conv => lhs; whnf) (by rfl) (Keeps.c (k := 8) (by conv => lhs; whnf) (by rfl) (Keeps.c (k := 9) (by conv => lhs; whnf) (by rfl) (Keeps.c (k := 11) (by conv => lhs; whnf) (by rfl) Keeps.nil)))))))))) ?_
 refine seqK fun K19 hK19 => ?_
 refine seqK fun K20 hK20 => ?_
 refine AWp.draw rfl ?_
 refine DOps.s0 moveA rfl ?_
 refine DOps.s0 (notB rfl) rfl ?_
 refine DOps.s0 moveA rfl ?_
 refine DOps.gC rfl rfl (fun hC => moveA) rfl ?_
 refine DOps.gC rfl rfl (fun hC => ungdA (k := 42) rfl (notB rfl)) rfl ?_
 refine DOps.s0 (pickOrA rfl rfl rfl) rfl ?_
 refine DOps.s0 moveA rfl ?_
 refine DOps.gC rfl rfl (fun hC => moveA) rfl ?_
 refine DOps.gC rfl rfl (fun hC => ungdA (k := 46) rfl (binI rfl rfl rfl)) rfl ?_
 refine DOps.s0 (pickOrA rfl rfl rfl) rfl ?_
 refine DOps.s0 moveA rfl ?_
 refine DOps.gC rfl rfl (fun hC => moveA) rfl ?_
 refine DOps.gC rfl rfl (fun hC => ungdA (k := 50) rfl (binI rfl rfl rfl)) rfl ?_
 refine DOps.s0 (pickOrA rfl rfl rfl) rfl ?_
 refine DOps.s0 moveA rfl ?_
 refine DOps.gC rfl rfl (fun hC => loadV (TK rfl) rfl rfl rfl) rfl ?_
 refine DOps.gC rfl rfl (fun hC => loadV (TK rfl) rfl rfl rfl) rfl ?_
 obtain ⟨x21, gx21, hE⟩ := guardO_some hE
 refine DOps.gC rfl rfl (fun hC => ungdA (k := 54) rfl (ungdA (k := 55) rfl (callP rfl rfl (fun H => Z8_walk (gx21 hC) H)))) rfl ?_
 refine DOps.gC rfl rfl (fun hC => ungdA (k := 56) rfl (notB rfl)) rfl ?_
 refine DOps.s0 (pickOrA rfl rfl rfl) rfl ?_
 refine DOps.s0 moveA rfl ?_
 refine DOps.gC rfl rfl (fun hC => loadV (TK rfl) rfl rfl rfl) rfl ?_
 refine DOps.gC rfl rfl (fun hC => loadV (TK rfl) rfl rfl rfl) rfl ?_
 obtain ⟨x22, gx22, hE⟩ := guardO_some hE
 refine DOps.gC rfl rfl (fun hC => ungdA (k := 61) rfl (callP rfl rfl (fun H => Z40_walk (gx22 hC) H))) rfl ?_
 obtain ⟨x23, gx23, hE⟩ := guardO_some hE
 refine DOps.gC rfl rfl (fun hC => ungdA (k := 60) rfl (ungdA (k := 62) rfl (callP rfl rfl (fun H => Z8_walk (gx23 hC) H)))) rfl ?_
 refine DOps.gC rfl rfl (fun hC => ungdA (k := 63) rfl (notB rfl)) rfl ?_
 refine DOps.s0 (pickOrA rfl rfl rfl) rfl ?_
 refine DOps.s0 moveA rfl ?_
 refine DOps.gC rfl rfl (fun hC => loadV (TK rfl) rfl rfl rfl) rfl ?_
 refine DOps.gC rfl rfl (fun hC => loadV (TK rfl) rfl rfl rfl) rfl ?_
 obtain ⟨x24, gx24, hE⟩ := guardO_some hE
 refine DOps.gC rfl rfl (fun hC => ungdA (k := 67) rfl (ungdA (k := 68) rfl (callP rfl rfl (fun H => Z8_walk (gx24 hC) H)))) rfl ?_
 refine DOps.gC rfl rfl (fun hC => ungdA (k := 69) rfl (notB rfl)) rfl ?_
 refine DOps.s0 (pickOrA rfl rfl rfl) rfl ?_
 refine DOps.nil (by decide +kernel) ?_
 refine hK20 _ ?_
 clear hK20 K20
 refine condE hE rfl (fun hc25 hE => ?_) (fun hc25 hE => ?_)
 ·refine seqK fun K26 hK26 => ?_
  refine region ?_
  refine s0 assignA rfl ?_
  refine nil ?_
  refine hK26 _ ?_
  clear hK26 K26
  refine AWp.ret ?_
  repeat (first | refine xBlock_ret ?_ | refine xThen_ret ?_)
  obtain rfl := Option.some.inj hE
  refine retQ.retF H rfl ⟨rfl, rfl⟩ ?_
  exact (fun _ _ h => h)
 refine AWp.skip ?_
 refine hK19 _ ?_
 clear hK19 K19
 refine seqK fun K27 hK27 => ?_
 refine AWp.draw rfl ?_
 refine DOps.s0 (loadV (TK rfl) rfl rfl rfl) rfl ?_
 obtain ⟨x28, gx28, hE⟩ := bindO_some hE
 refine DOps.s0 (callP rfl rfl (fun H => Z43_walk gx28 H)) rfl ?_
 refine DOps.s0 (binS rfl rfl rfl) rfl ?_
 refine DOps.s0 moveA rfl ?_
 refine DOps.gC rfl rfl (fun hC => loadV (TK rfl) rfl rfl rfl) rfl ?_
 refine DOps.gC rfl rfl (fun hC => loadV (TK rfl) rfl rfl rfl) rfl ?_
 obtain ⟨x29, gx29, hE⟩ := guardO_some hE
 refine DOps.gC rfl rfl (fun hC => ungdA (k := 77) rfl (callP rfl rfl (fun H => Z38_walk (gx29 hC) H))) rfl ?_
 obtain ⟨x30, gx30, hE⟩ := guardO_some hE
 refine DOps.gC rfl rfl (fun hC => ungdA (k := 76) rfl (ungdA (k := 78) rfl (callP rfl rfl (fun H => Z34_walk (gx30 hC) H)))) rfl ?_
 refine DOps.s0 (pickAndA rfl rfl rfl) rfl ?_
 refine DOps.s0 moveA rfl ?_
 refine DOps.gC rfl rfl (fun hC => loadV (TK rfl) rfl rfl rfl) rfl ?_
 refine DOps.gC rfl rfl (fun hC => loadV (TK rfl) rfl rfl rfl) rfl ?_
 obtain ⟨x31, gx31, hE⟩ := guardO_some hE
 refine DOps.gC rfl rfl (fun hC => ungdA (k := 83) rfl (callP rfl rfl (fun H => Z40_walk (gx31 hC) H))) rfl ?_
 obtain ⟨x32, gx32, hE⟩ := guardO_some hE
 refine DOps.gC rfl rfl (fun hC => ungdA (k := 82) rfl (ungdA (k := 84) rfl (callP rfl rfl (fun H => Z34_walk (gx32 hC) H)))) rfl ?_
 refine DOps.gC rfl rfl (fun hC => ungdA (k := 85) rfl (notB rfl)) rfl ?_
 refine DOps.s0 (pickAndA rfl rfl rfl) rfl ?_
 refine DOps.s0 moveA rfl ?_
 refine DOps.gC rfl rfl (fun hC => loadV (TK rfl) rfl rfl rfl) rfl ?_
 refine DOps.gC rfl rfl (fun hC => loadV (TK rfl) rfl rfl rfl) rfl ?_
 obtain ⟨x33, gx33, hE⟩ := guardO_some hE
 refine DOps.gC rfl rfl (fun hC => ungdA (k := 90) rfl (callP rfl rfl (fun H => Z38_walk (gx33 hC) H))) rfl ?_
 obtain ⟨x34, gx34, hE⟩ := guardO_some hE
 refine DOps.gC rfl rfl (fun hC => ungdA (k := 89) rfl (ungdA (k := 91) rfl (callP rfl rfl (fun H => Z34_walk (gx34 hC) H)))) rfl ?_
 refine DOps.gC rfl rfl (fun hC => ungdA (k := 92) rfl (notB rfl)) rfl ?_
 refine DOps.s0 (pickAndA rfl rfl rfl) rfl ?_
 refine DOps.s0 moveA rfl ?_
 refine DOps.gC rfl rfl (fun hC => loadV (TK rfl) rfl rfl rfl) rfl ?_
 obtain ⟨x35, gx35, hE⟩ := guardO_some hE
 refine DOps.gC rfl rfl (fun hC => ungdA (k := 96) rfl (callP rfl rfl (fun H => Z44_walk (gx35 hC) H))) rfl ?_
 refine DOps.s0 (pickAndA rfl rfl rfl) rfl ?_
 refine DOps.s0 moveA rfl ?_
 refine DOps.gC rfl rfl (fun hC => buildSlice (TK rfl) rfl (TK rfl) rfl rfl rfl rfl rfl rfl) rfl ?_
 refine DOps.gC rfl rfl (fun hC => ungdA (k := 100) rfl (build Tryd.tab_ok rfl rfl rfl rfl rfl rfl)) rfl ?_
 obtain ⟨x36, gx36, hE⟩ := guardO_some hE
 refine DOps.gC rfl rfl (fun hC => ungdA (k := 101) rfl (callP rfl rfl (fun H => Z44_walk (gx36 hC) H))) rfl ?_
 refine DOps.gC rfl rfl (fun hC => ungdA (k := 102) rfl (notB rfl)) rfl ?_
 refine DOps.s0 (pickAndA rfl rfl rfl) rfl ?_
 refine DOps.s0 assignA rfl ?_
 refine DOps.nil (by decide +kernel) ?_
 refine hK27 _ ?_
 clear hK27 K27
 refine AWp.ret ?_
 repeat (first | refine xBlock_ret ?_ | refine xThen_ret ?_)
 obtain rfl := Option.some.inj hE
 refine retQ.retF H rfl ⟨rfl, rfl⟩ ?_
 exact (fun _ _ h => h)
end Go.Proofs

namespace Go.Proofs
open Go Go.Ab
open AOps Cert AWp
variable {lou : Lou}
def Z2 (a0 : TRef) (a1 : TRef) (a2 : TRef) : Option Bool := (Z7 a0).bind fun x4 => guardO (!(!x4)) (Z7 a1) false fun x5 => guardO (!((!x4) || (!x5))) (Z7 a2) false fun x6 => bif (((!x4) || (!x5)) || (!x6)) then ((Z3 ).bind fun x9 => some x9) else ((Z34 a0 a0).bind fun x12 => guardO (!(!x12)) (Z34 a0 a1) false fun x13 => guardO ((!(!x12) && x13)) (Z34 a1 a2) false fun x14 => guardO ((!(!x12) && (x13 && x14))) (Z34 a0 a2) false fun x15 => bif ((!x12) || ((x13 && x14) && (!x15))) then (some false) else ((Z47 a0 a1).bind fun x19 => (Z46 a0 a1).bind fun x22 => bif (!(x19.2 == x22)) then (some false) else (bif (!x19.2) then ((Z34 a0 a1).bind fun x29 => guardO ((!x29)) (Z3 ) false fun x30 => some ((!x29) && x30)) else ((Z44 x19.1).bind fun x33 => guardO (!(!x33)) (Z34 a0 x19.1) false fun x34 => guardO (!((!x33) || (!x34))) (Z34 a1 x19.1) false fun x35 => bif (((!x33) || (!x34)) || (!x35)) then (some false) else ((Z34 a0 a2).bind fun x39 => guardO (!(!x39)) (Z34 a1 a2) false fun x40 => guardO (!((!x39) || (!x40))) (Z34 x19.1 a2) false fun x41 => guardO ((((!x39) || (!x40)) || x41)) (Z3 ) false fun x42 => some ((((!x39) || (!x40)) || x41) && x42))))))
theorem Z2_walk {a0 : TRef} {a1 : TRef} {a2 : TRef}   {r : Bool} (hE : Z2 a0 a1 a2 = some r) (H : Heap)  : ACalls Tryd.prog 9 [.agg (TRef.c a0), .agg (TRef.c a1), .agg (TRef.c a2)] H fun v h' => v = .a (.d (.bool r)) ∧ h' = H := by
 unfold Z2 at hE
 refine ACalls.of_wp (fn := Tryd.f9) (c := _) Tryd.tab_ok (fun _ _ => Tryd.call9 _ _) Tryd.func9 rfl (n := 96) rfl (rs := [.tmp 6]) rfl rfl ?_
 refine seqK fun K1 hK1 => ?_
 refine region ?_
 refine s0 (boxV rfl) rfl ?_
 refine s0 (boxV rfl) rfl ?_
 refine s0 (boxV rfl) rfl ?_
 refine s0 assignA rfl ?_
 refine nil ?_
 refine hK1 _ ?_
 clear hK1 K1
 refine seqK fun K2 hK2 => ?_
 refine seqK fun K3 hK3 => ?_
 refine region ?_
 refine s0 (loadV (TK rfl) rfl rfl rfl) rfl ?_
 obtain ⟨x4, gx4, hE⟩ := bindO_some hE
 refine s0 (callP rfl rfl (fun H => Z7_walk gx4 H)) rfl ?_
 refine s0 (notB rfl) rfl ?_
 refine s0 moveA rfl ?_
 refine gC rfl rfl (fun hC => loadV (TK rfl) rfl rfl rfl) rfl ?_
 obtain ⟨x5, gx5, hE⟩ := guardO_some hE
 refine gC rfl rfl (fun hC => ungdA (k := 13) rfl (callP rfl rfl (fun H => Z7_walk (gx5 hC) H))) rfl ?_
 refine gC rfl rfl (fun hC => ungdA (k := 14) rfl (notB rfl)) rfl ?_
 refine s0 (pickOrA rfl rfl rfl) rfl ?_
 refine s0 moveA rfl ?_
 refine gC rfl rfl (fun hC => loadV (TK rfl) rfl rfl rfl) rfl ?_
 obtain ⟨x6, gx6, hE⟩ := guardO_some hE
 refine gC rfl rfl (fun hC => ungdA (k := 18) rfl (callP rfl rfl (fun H => Z7_walk (gx6 hC) H))) rfl ?_
 refine gC rfl rfl (fun hC => ungdA (k := 19) rfl (notB rfl)) rfl ?_
 refine s0 (pickOrA rfl rfl rfl) rfl ?_
 refine nil ?_
 refine hK3 _ ?_
 clear hK3 K3
 refine condE hE rfl (fun hc7 hE => ?_) (fun hc7 hE => ?_)
 ·refine seqK fun K8 hK8 => ?_
  refine region ?_
  obtain ⟨x9, gx9, hE⟩ := bindO_some hE
  refine s0 (callP rfl rfl (fun H => Z3_walk gx9 H)) rfl ?_
  refine s0 assignA rfl ?_
  refine nil ?_
  refine hK8 _ ?_
  clear hK8 K8
  refine AWp.ret ?_
  repeat (first | refine xBlock_ret ?_ | refine xThen_ret ?_)
  obtain rfl := Option.some.inj hE
  refine retQ.retF H rfl ⟨rfl, rfl⟩ ?_
  exact (fun _ _ h => h)
 refine AWp.skip ?_
 refine hK2 _ ?_
 clear hK2 K2
 refine seqK fun K10 hK10 => ?_
 refine seqK fun K11 hK11 => ?_
 refine region ?_
 refine s0 (loadV (TK rfl) rfl rfl rfl) rfl ?_
 refine s0 (loadV (TK rfl) rfl rfl rfl) rfl ?_
 obtain ⟨x12, gx12, hE⟩ := bindO_some hE
 refine s0 (callP rfl rfl (fun H => Z34_walk gx12 H)) rfl ?_
 refine s0 (notB rfl) rfl ?_
 refine s0 moveA rfl ?_
 refine gC rfl rfl (fun hC => loadV (TK rfl) rfl rfl rfl) rfl ?_
 refine gC rfl rfl (fun hC => loadV (TK rfl) rfl rfl rfl) rfl ?_
 obtain ⟨x13, gx13, hE⟩ := guardO_some hE
 refine gC rfl rfl (fun hC => ungdA (k := 28) rfl (ungdA (k := 29) rfl (callP rfl rfl (fun H => Z34_walk (gx13 hC) H)))) rfl ?_
 refine gC rfl rfl (fun hC => ungdA (k := 30) rfl moveA) rfl ?_
 refine gC rfl rfl (fun hC => loadV (TK rfl) rfl rfl rfl) rfl ?_
 refine gC rfl rfl (fun hC => loadV (TK rfl) rfl rfl rfl) rfl ?_
 obtain ⟨x14, gx14, hE⟩ := guardO_some hE
 refine gC rfl rfl (fun hC => ungdA (k := 32) rfl (ungdA (k := 33) rfl (callP rfl rfl (fun H => Z34_walk (gx14 hC) H)))) rfl ?_
 refine gC rfl rfl (fun hC => ungdA (k := 31) rfl (pickAndA rfl rfl rfl)) rfl ?_
 refine gC rfl rfl (fun hC => ungdA (k := 35) rfl moveA) rfl ?_
 refine gC rfl rfl (fun hC => loadV (TK rfl) rfl rfl rfl) rfl ?_
 refine gC rfl rfl (fun hC => loadV (TK rfl) rfl rfl rfl) rfl ?_
 obtain ⟨x15, gx15, hE⟩ := guardO_some hE
 refine gC rfl rfl (fun hC => ungdA (k := 37) rfl (ungdA (k := 38) rfl (callP rfl rfl (fun H => Z34_walk (gx15 hC) H)))) rfl ?_
 refine gC rfl rfl (fun hC => ungdA (k := 39) rfl (notB rfl)) rfl ?_
 refine gC rfl rfl (fun hC => ungdA (k := 36) rfl (pickAndA rfl rfl rfl)) rfl ?_
 refine s0 (pickOrA rfl rfl rfl) rfl ?_
 refine nil ?_
 refine hK11 _ ?_
 clear hK11 K11
 refine condE hE rfl (fun hc16 hE => ?_) (fun hc16 hE => ?_)
 ·refine seqK fun K17 hK17 => ?_
  refine region ?_
  refine s0 assignA rfl ?_
  refine nil ?_
  refine hK17 _ ?_
  clear hK17 K17
  refine AWp.ret ?_
  repeat (first | refine xBlock_ret ?_ | refine xThen_ret ?_)
  obtain rfl := Option.some.inj hE
  refine retQ.retF H rfl ⟨rfl, rfl⟩ ?_
  exact (fun _ _ h => h)
 refine AWp.skip ?_
 refine hK10 _ ?_
 clear hK10 K10
 refine seqK fun K18 hK18 => ?_
 refine region ?_
 refine s0 (loadV (TK rfl) rfl rfl rfl) rfl ?_
 refine s0 (loadV (TK rfl) rfl rfl rfl) rfl ?_
 obtain ⟨x19, gx19, hE⟩ := bindO_some hE
 refine s0 (callP rfl rfl (fun H => Z47_walk gx19 H)) rfl ?_
 refine s0 moveA rfl ?_
 refine s0 (extract rfl rfl) rfl ?_
 refine s0 (extract rfl rfl) rfl ?_
 refine sL (allocLA (TK rfl) rfl) rfl ?_
 refine sLn (storeLFA (TK rfl) rfl rfl rfl rfl rfl) ?_
 refine s0 assignA rfl ?_
 refine nil ?_
 refine hK18 _ ?_
 clear hK18 K18
 refine freezeA 7 _ rfl (Keeps.c (k := 3) (by conv => lhs; whnf) (by rfl) (Keeps.c (k := 4) (by conv => lhs; whnf) (by rfl) (Keeps.c (k := 5) (by conv => lhs; whnf) (by rfl) (Keeps.c (k := 8) (by conv => lhs; whnf) (by rfl) Keeps.nil)))) ?_
 refine seqK fun K20 hK20 => ?_
 refine seqK fun K21 hK21 => ?_
 refine region ?_
 refine s0 moveA rfl ?_
 refine s0 (loadV (TK rfl) rfl rfl rfl) rfl ?_
 refine s0 (loadV (TK rfl) rfl rfl rfl) rfl ?_
 obtain ⟨x22, gx22, hE⟩ := bindO_some hE
 refine s0 (callP rfl rfl (fun H => Z46_walk gx22 H)) rfl ?_
 refine s0 (neB (TK rfl) rfl rfl rfl) rfl ?_
 refine nil ?_
 refine hK21 _ ?_
 clear hK21 K21
 refine condE hE rfl (fun hc23 hE => ?_) (fun hc23 hE => ?_)
 ·refine seqK fun K24 hK24 => ?_
  refine region ?_
  refine s0 assignA rfl ?_
  refine nil ?_
  refine hK24 _ ?_
  clear hK24 K24
  refine AWp.ret ?_
  repeat (first | refine xBlock_ret ?_ | refine xThen_ret ?_)
  obtain rfl := Option.some.inj hE
  refine retQ.retF H rfl ⟨rfl, rfl⟩ ?_
  exact (fun _ _ h => h)
 refine AWp.skip ?_
 refine hK20 _ ?_
 clear hK20 K20
 refine seqK fun K25 hK25 => ?_
 refine seqK fun K26 hK26 => ?_
 refine region ?_
 refine s0 moveA rfl ?_
 refine s0 (notB rfl) rfl ?_
 refine nil ?_
 refine hK26 _ ?_
 clear hK26 K26
 refine condE hE rfl (fun hc27 hE => ?_) (fun hc27 hE => ?_)
 ·refine seqK fun K28 hK28 => ?_
  refine region ?_
  refine s0 (loadV (TK rfl) rfl rfl rfl) rfl ?_
  refine s0 (loadV (TK rfl) rfl rfl rfl) rfl ?_
  obtain ⟨x29, gx29, hE⟩ := bindO_some hE
  refine s0 (callP rfl rfl (fun H => Z34_walk gx29 H)) rfl ?_
  refine s0 (notB rfl) rfl ?_
  refine s0 moveA rfl ?_
  obtain ⟨x30, gx30, hE⟩ := guardO_some hE
  refine gC rfl rfl (fun hC => callP rfl rfl (fun H => Z3_walk (gx30 hC) H)) rfl ?_
  refine s0 (pickAndA rfl rfl rfl) rfl ?_
  refine s0 assignA rfl ?_
  refine nil ?_
  refine hK28 _ ?_
  clear hK28 K28
  refine AWp.ret ?_
  repeat (first | refine xBlock_ret ?_ | refine xThen_ret ?_)
  obtain rfl := Option.some.inj hE
  refine retQ.retF H rfl ⟨rfl, rfl⟩ ?_
  exact (fun _ _ h => h)
 refine AWp.skip ?_
 refine hK25 _ ?_
 clear hK25 K25
 refine seqK fun K31 hK31 => ?_
 refine seqK fun K32 hK32 => ?_
 refine region ?_
 refine s0 (loadV (TK rfl) rfl rfl rfl) rfl ?_
 obtain ⟨x33, gx33, hE⟩ := bindO_some hE
 refine s0 (callP rfl rfl (fun H => Z44_walk gx33 H)) rfl ?_
 refine s0 (notB rfl) rfl ?_
 refine s0 moveA rfl ?_
 refine gC rfl rfl (fun hC => loadV (TK rfl) rfl rfl rfl) rfl ?_
 refine gC rfl rfl (fun hC => loadV (TK rfl) rfl rfl rfl) rfl ?_
 obtain ⟨x34, gx34, hE⟩ := guardO_some hE
 refine gC rfl rfl (fun hC => ungdA (k := 67) rfl (ungdA (k := 68) rfl (callP rfl rfl (fun H => Z34_walk (gx34 hC) H)))) rfl ?_
 refine gC rfl rfl (fun hC => ungdA (k := 69) rfl (notB rfl)) rfl ?_
 refine s0 (pickOrA rfl rfl rfl) rfl ?_
 refine s0 moveA rfl ?_
 refine gC rfl rfl (fun hC => loadV (TK rfl) rfl rfl rfl) rfl ?_
 refine gC rfl rfl (fun hC => loadV (TK rfl) rfl rfl rfl) rfl ?_
 obtain ⟨x35, gx35, hE⟩ := guardO_some hE
 refine gC rfl rfl (fun hC => ungdA (k := 73) rfl (ungdA (k := 74) rfl (callP rfl rfl (fun H => Z34_walk (gx35 hC) H)))) rfl ?_
 refine gC rfl rfl (fun hC => ungdA (k := 75) rfl (notB rfl)) rfl ?_
 refine s0 (pickOrA rfl rfl rfl) rfl ?_
 refine nil ?_
 refine hK32 _ ?_
 clear hK32 K32
 refine condE hE rfl (fun hc36 hE => ?_) (fun hc36 hE => ?_)
 ·refine seqK fun K37 hK37 => ?_
  refine region ?_
  refine s0 assignA rfl ?_
  refine nil ?_
  refine hK37 _ ?_
  clear hK37 K37
  refine AWp.ret ?_
  repeat (first | refine xBlock_ret ?_ | refine xThen_ret ?_)
  obtain rfl := Option.some.inj hE
  refine retQ.retF H rfl ⟨rfl, rfl⟩ ?_
  exact (fun _ _ h => h)
 refine AWp.skip ?_
 refine hK31 _ ?_
 clear hK31 K31
 refine seqK fun K38 hK38 => ?_
 refine region ?_
 refine s0 (loadV (TK rfl) rfl rfl rfl) rfl ?_
 refine s0 (loadV (TK rfl) rfl rfl rfl) rfl ?_
 obtain ⟨x39, gx39, hE⟩ := bindO_some hE
 refine s0 (callP rfl rfl (fun H => Z34_walk gx39 H)) rfl ?_
 refine s0 (notB rfl) rfl ?_
 refine s0 moveA rfl ?_
 refine gC rfl rfl (fun hC => loadV (TK rfl) rfl rfl rfl) rfl ?_
 refine gC rfl rfl (fun hC => loadV (TK rfl) rfl rfl rfl) rfl ?_
 obtain ⟨x40, gx40, hE⟩ := guardO_some hE
 refine gC rfl rfl (fun hC => ungdA (k := 83) rfl (ungdA (k := 84) rfl (callP rfl rfl (fun H => Z34_walk (gx40 hC) H)))) rfl ?_
 refine gC rfl rfl (fun hC => ungdA (k := 85) rfl (notB rfl)) rfl ?_
 refine s0 (pickOrA rfl rfl rfl) rfl ?_
 refine s0 moveA rfl ?_
 refine gC rfl rfl (fun hC => loadV (TK rfl) rfl rfl rfl) rfl ?_
 refine gC rfl rfl (fun hC => loadV (TK rfl) rfl rfl rfl) rfl ?_
 obtain ⟨x41, gx41, hE⟩ := guardO_some hE
 refine gC rfl rfl (fun hC => ungdA (k := 89) rfl (ungdA (k := 90) rfl (callP rfl rfl (fun H => Z34_walk (gx41 hC) H)))) rfl ?_
 refine s0 (pickOrA rfl rfl rfl) rfl ?_
 refine s0 moveA rfl ?_
 obtain ⟨x42, gx42, hE⟩ := guardO_some hE
 refine gC rfl rfl (fun hC => callP rfl rfl (fun H => Z3_walk (gx42 hC) H)) rfl ?_
 refine s0 (pickAndA rfl rfl rfl) rfl ?_
 refine s0 assignA rfl ?_
 refine nil ?_
 refine hK38 _ ?_
 clear hK38 K38
 refine AWp.ret ?_
 repeat (first | refine xBlock_ret ?_ | refine xThen_ret ?_)
 obtain rfl := Option.some.inj hE
 refine retQ.retF H rfl ⟨rfl, rfl⟩ ?_
 exact (fun _ _ h => h)
end Go.Proofs

namespace Go.Proofs
open Go Go.Ab
def Z6_q (a0 : Int) : Bool := ((((decide ((65 : Int) ≤ a0)) && (decide (a0 ≤ (90 : Int)))) || ((decide ((97 : Int) ≤ a0)) && (decide (a0 ≤ (122 : Int))))) || (decide (a0 = (95 : Int))))
theorem Z6_eq (a0 : Int) : Z6 a0 = some (Z6_q a0) := by
 unfold Z6 Z6_q
 all_goals rfl
def Z5_q (a0 : Int) : Bool := ((decide ((48 : Int) ≤ a0)) && (decide (a0 ≤ (57 : Int))))
theorem Z5_eq (a0 : Int) : Z5 a0 = some (Z5_q a0) := by
 unfold Z5 Z5_q
 all_goals rfl
def Z4_q10  : List UInt8 → Nat → Unit ⊕ Bool
 | [], s3_11 => Sum.inl ()
 | h10 :: r10, s3_11 => on (h10) fun x18 => on (Z6_q ((x18.toNat : Nat) : Int)) fun x19 => on (bif ((!x19) && !(decide (((s3_11 : Nat) : Int) = (0 : Int)))) then h10 else (0 : UInt8)) fun x20 => on (bif ((!x19) && !(decide (((s3_11 : Nat) : Int) = (0 : Int)))) then Z5_q ((x20.toNat : Nat) : Int) else false) fun x21 => bif ((!x19) && ((decide (((s3_11 : Nat) : Int) = (0 : Int))) || (!x21))) then (Sum.inr false) else (Z4_q10  (r10) (s3_11 + 1) )
theorem Z4_l10_qe {a0 : Bs}  (Kb10 : (Unit ⊕ Bool) → Option Bool) (hend : ∀ (n10 : Nat) (s3_11 : Nat), Z4_j7    = Kb10 (Sum.inl ())) (hret : ∀ e : Bool, some e = Kb10 (Sum.inr e)) : ∀ (n10 : Nat) (s3_11 : Nat), (0 < n10 ∧ a0.length < s3_11 + n10) → Z4_l10 a0 n10 s3_11 = Kb10 (Z4_q10  (a0.drop s3_11) s3_11 ) := by
 intro n10
 induction n10 with
 | zero => intro s3_11 hn; exact absurd hn.1 (by omega)
 | succ n10 ih10 =>
  intro s3_11 hn
  rw [Z4_l10]
  by_cases hlt : s3_11 < a0.length
  ·obtain ⟨h10, hh10⟩ : ∃ x, a0[s3_11]? = some x := ⟨_, List.getElem?_eq_getElem hlt⟩
   rw [Q.drop_of hh10, Z4_q10]
   refine Q.condT (Q.ltT hlt) ?_
   refine Q.bindP hh10 fun x18 hx_x18 => ?_
   refine Q.bindP (Z6_eq _) fun x19 hx_x19 => ?_
   refine Q.guardP hh10 fun x20 hx_x20 => ?_
   refine Q.guardP (Z5_eq _) fun x21 hx_x21 => ?_
   refine Q.condP ?_ ?_
   ·all_goals exact hret _
   all_goals exact ih10 _ ⟨by omega, by omega⟩
  rw [List.drop_of_length_le (by omega), Z4_q10]
  refine Q.condF (Q.ltF hlt) ?_
  exact hend n10 s3_11
def Z4_q (a0 : Bs) : Bool := bif ((decide (((a0.length : Nat) : Int) < (1 : Int))) || (decide ((64 : Int) < ((a0.length : Nat) : Int)))) then (false) else (on (Z4_q10  a0 0 ) fun o10 => match o10 with | Sum.inl _ => (on (()) fun _ => true) | Sum.inr e10 => (e10))
theorem Z4_eq (a0 : Bs) : Z4 a0 = some (Z4_q a0) := by
 unfold Z4 Z4_q
 refine Q.condP ?_ ?_
 ·all_goals rfl
 refine Q.wrapPP fun Kb10 hKb10 => ?_
 refine Z4_l10_qe  Kb10 ?_ ?_ _ _ ⟨Nat.succ_pos _, by omega⟩
 ·intro n10 s3_11
  refine Eq.trans ?_ (hKb10 _).symm
  try dsimp only
  refine Q.wrapPP fun Kj7 hKj7 => ?_
  have hj7 : Z4_j7   = Kj7 () := by
   refine Eq.trans ?_ (hKj7 _).symm
   unfold Z4_j7
   all_goals rfl
  all_goals exact hj7
 intro e10
 refine Eq.trans ?_ (hKb10 _).symm
 try dsimp only
 all_goals rfl
def Z7_q10 (a0 : TRef) : List Int → Nat → Option (Unit ⊕ Bool)
 | [], s3_11 => some (Sum.inl ())
 | h10 :: r10, s3_11 => on (h10) fun x19 => on (bif (!decide (x19 = (1 : Int))) then h10 else (0 : Int)) fun x20 => bif ((!decide (x19 = (1 : Int))) && (!decide (x20 = (2 : Int)))) then (some (Sum.inr false)) else (on (bif (decide ((0 : Int) < ((s3_11 : Nat) : Int))) then h10 else (0 : Int)) fun x24 => guardO (((decide ((0 : Int) < ((s3_11 : Nat) : Int))) && (decide (x24 = (1 : Int))))) (subC ((s3_11 : Nat) : Int) (1 : Int)) (0 : Int) fun x25 => guardO (((decide ((0 : Int) < ((s3_11 : Nat) : Int))) && (decide (x24 = (1 : Int))))) (idxC a0.FWraps.l x25) (0 : Int) fun x26 => bif (((decide ((0 : Int) < ((s3_11 : Nat) : Int))) && (decide (x24 = (1 : Int)))) && (decide (x26 = (1 : Int)))) then (some (Sum.inr false)) else (Z7_q10 a0 (r10) (s3_11 + 1) ))
theorem Z7_l10_qe {a0 : TRef}  (Kb10 : (Unit ⊕ Bool) → Option Bool) (hend : ∀ (n10 : Nat) (s3_11 : Nat), Z7_j7    = Kb10 (Sum.inl ())) (hret : ∀ e : Bool, some e = Kb10 (Sum.inr e)) : ∀ (n10 : Nat) (s3_11 : Nat), (0 < n10 ∧ a0.FWraps.l.length < s3_11 + n10) → Z7_l10 a0 n10 s3_11 = Option.bind (Z7_q10 a0 (a0.FWraps.l.drop s3_11) s3_11 ) Kb10 := by
 intro n10
 induction n10 with
 | zero => intro s3_11 hn; exact absurd hn.1 (by omega)
 | succ n10 ih10 =>
  intro s3_11 hn
  rw [Z7_l10]
  by_cases hlt : s3_11 < a0.FWraps.l.length
  ·obtain ⟨h10, hh10⟩ : ∃ x, a0.FWraps.l[s3_11]? = some x := ⟨_, List.getElem?_eq_getElem hlt⟩
   rw [Q.drop_of hh10, Z7_q10]
   refine Q.condT (Q.ltT hlt) ?_
   refine Q.bindPO hh10 fun x19 hx_x19 => ?_
   refine Q.guardPO hh10 fun x20 hx_x20 => ?_
   refine Q.condO ?_ ?_
   ·all_goals exact hret _
   refine Q.guardPO hh10 fun x24 hx_x24 => ?_
   refine Q.guardOO rfl fun x25 => ?_
   refine Q.guardOO rfl fun x26 => ?_
   refine Q.condO ?_ ?_
   ·all_goals exact hret _
   all_goals exact ih10 _ ⟨by omega, by omega⟩
  rw [List.drop_of_length_le (by omega), Z7_q10]
  refine Q.condF (Q.ltF hlt) ?_
  exact hend n10 s3_11
def Z7_q (a0 : TRef) : Option Bool := on (Z4_q a0.FName) fun x4 => bif ((!x4) || (decide ((24 : Int) < ((a0.FWraps.l.length : Nat) : Int)))) then (some false) else (Option.bind (Z7_q10 a0 a0.FWraps.l 0 ) fun o10 => match o10 with | Sum.inl _ => (on (()) fun _ => some true) | Sum.inr e10 => (some e10))
theorem Z7_eq (a0 : TRef) : Z7 a0 = Z7_q a0 := by
 unfold Z7 Z7_q
 refine Eq.trans ?_ (Q.some_bind _)
 refine Q.bindPO (Z4_eq _) fun x4 hx_x4 => ?_
 refine Q.condO ?_ ?_
 ·all_goals rfl
 refine Q.wrapOO fun Kb10 hKb10 => ?_
 refine Z7_l10_qe  Kb10 ?_ ?_ _ _ ⟨Nat.succ_pos _, by omega⟩
 ·intro n10 s3_11
  refine Eq.trans ?_ (hKb10 _).symm
  try dsimp only
  refine Q.wrapPO fun Kj7 hKj7 => ?_
  have hj7 : Z7_j7   = Kj7 () := by
   refine Eq.trans ?_ (hKj7 _).symm
   unfold Z7_j7
   all_goals rfl
  all_goals exact hj7
 intro e10
 refine Eq.trans ?_ (hKb10 _).symm
 try dsimp only
 all_goals rfl
def Z12_q12 (a1 : (Sl Int)) : List Int → Nat → Option (Unit ⊕ Bool)
 | [], s13_13 => some (Sum.inl ())
 | h12 :: r12, s13_13 => on (h12) fun x20 => (a1.l[s13_13]?).bind fun x21 => bif (!decide (x20 = x21)) then (some (Sum.inr false)) else (Z12_q12 a1 (r12) (s13_13 + 1) )
theorem Z12_l12_qe {a0 : (Sl Int)} {a1 : (Sl Int)}  (Kb12 : (Unit ⊕ Bool) → Option Bool) (hend : ∀ (n12 : Nat) (s13_13 : Nat), Z12_j8    = Kb12 (Sum.inl ())) (hret : ∀ e : Bool, some e = Kb12 (Sum.inr e)) : ∀ (n12 : Nat) (s13_13 : Nat), (0 < n12 ∧ a0.l.length < s13_13 + n12) → Z12_l12 a0 a1 n12 s13_13 = Option.bind (Z12_q12 a1 (a0.l.drop s13_13) s13_13 ) Kb12 := by
 intro n12
 induction n12 with
 | zero => intro s13_13 hn; exact absurd hn.1 (by omega)
 | succ n12 ih12 =>
  intro s13_13 hn
  rw [Z12_l12]
  by_cases hlt : s13_13 < a0.l.length
  ·obtain ⟨h12, hh12⟩ : ∃ x, a0.l[s13_13]? = some x := ⟨_, List.getElem?_eq_getElem hlt⟩
   rw [Q.drop_of hh12, Z12_q12]
   refine Q.condT (Q.ltT hlt) ?_
   refine Q.bindPO hh12 fun x20 hx_x20 => ?_
   refine Q.bindO rfl fun x21 => ?_
   refine Q.condO ?_ ?_
   ·all_goals exact hret _
   all_goals exact ih12 _ ⟨by omega, by omega⟩
  rw [List.drop_of_length_le (by omega), Z12_q12]
  refine Q.condF (Q.ltF hlt) ?_
  exact hend n12 s13_13
def Z12_q (a0 : (Sl Int)) (a1 : (Sl Int)) : Option Bool := bif (!decide (((a0.l.length : Nat) : Int) = ((a1.l.length : Nat) : Int))) then (some false) else (Option.bind (Z12_q12 a1 a0.l 0 ) fun o12 => match o12 with | Sum.inl _ => (on (()) fun _ => some true) | Sum.inr e12 => (some e12))
theorem Z12_eq (a0 : (Sl Int)) (a1 : (Sl Int)) : Z12 a0 a1 = Z12_q a0 a1 := by
 unfold Z12 Z12_q
 refine Eq.trans ?_ (Q.some_bind _)
 refine Q.condO ?_ ?_
 ·all_goals rfl
 refine Q.wrapOO fun Kb12 hKb12 => ?_
 refine Z12_l12_qe  Kb12 ?_ ?_ _ _ ⟨Nat.succ_pos _, by omega⟩
 ·intro n12 s13_13
  refine Eq.trans ?_ (hKb12 _).symm
  try dsimp only
  refine Q.wrapPO fun Kj8 hKj8 => ?_
  have hj8 : Z12_j8   = Kj8 () := by
   refine Eq.trans ?_ (hKj8 _).symm
   unfold Z12_j8
   all_goals rfl
  all_goals exact hj8
 intro e12
 refine Eq.trans ?_ (hKb12 _).symm
 try dsimp only
 all_goals rfl
def Z10_q (a0 : (Sl Int)) : Option (Sl Int) := bif a0.nl then (some (Sl.nil : Sl Int)) else ((appC 8 (⟨false, []⟩ : Sl Int) a0).bind fun x7 => some x7)
theorem Z10_eq (a0 : (Sl Int)) : Z10 a0 = Z10_q a0 := by
 unfold Z10 Z10_q
 refine Eq.trans ?_ (Q.some_bind _)
 refine Q.condO ?_ ?_
 ·all_goals rfl
 refine Q.bindO rfl fun x7 => ?_
 all_goals rfl
def Z48_q (a0 : (Sl Int)) : Option (Sl Int) := (Z10_q a0).bind fun x3 => (some (delL Z49 x3)).bind fun x4 => some x4
theorem Z48_eq (a0 : (Sl Int)) : Z48 a0 = Z48_q a0 := by
 unfold Z48 Z48_q
 refine Eq.trans ?_ (Q.some_bind _)
 refine Q.bindO (Z10_eq _) fun x3 => ?_
 refine Q.bindO rfl fun x4 => ?_
 all_goals rfl
def Z46_q (a0 : TRef) (a1 : TRef) : Option Bool := guardO (((a0.FName == a1.FName))) (Z48_q a0.FWraps) (Sl.nil : Sl Int) fun x3 => guardO (((a0.FName == a1.FName))) (Z48_q a1.FWraps) (Sl.nil : Sl Int) fun x4 => guardO (((a0.FName == a1.FName))) (Z12_q x3 x4) false fun x5 => some (((a0.FName == a1.FName)) && x5)
theorem Z46_eq (a0 : TRef) (a1 : TRef) : Z46 a0 a1 = Z46_q a0 a1 := by
 unfold Z46 Z46_q
 refine Eq.trans ?_ (Q.some_bind _)
 refine Q.guardOO (Z48_eq _) fun x3 => ?_
 refine Q.guardOO (Z48_eq _) fun x4 => ?_
 refine Q.guardOO (Z12_eq _ _) fun x5 => ?_
 all_goals rfl
def Z37_q (a0 : TRef) : Bool := on (bif (decide ((0 : Int) < ((a0.FWraps.l.length : Nat) : Int))) then ((a0.FWraps.l)[0]?.getD (0 : Int)) else (0 : Int)) fun x4 => ((decide ((0 : Int) < ((a0.FWraps.l.length : Nat) : Int))) && (decide (x4 = (1 : Int))))
theorem Z37_eq (a0 : TRef) : Z37 a0 = some (Z37_q a0) := by
 unfold Z37 Z37_q
 refine Q.guardT (fun hc => Q.getD_some (by simp at hc; omega)) fun x4 hx_x4 => ?_
 all_goals rfl
def Z41_q (a0 : TRef) : Option TRef := on (Z37_q a0) fun x8 => Option.bind (bif x8 then ((partC a0.FWraps (some (1 : Int)) none).bind fun x10 => some x10) else (some a0.FWraps)) fun s3_4 => (Z10_q s3_4).bind fun x6 => some (TRef.mk a0.FName x6)
theorem Z41_eq (a0 : TRef) : Z41 a0 = Z41_q a0 := by
 unfold Z41 Z41_q
 refine Eq.trans ?_ (Q.some_bind _)
 refine Q.bindPO (Z37_eq _) fun x8 hx_x8 => ?_
 refine Q.wrapOO fun Kj3 hKj3 => ?_
 have hj3 : ∀ (s3_4 : (Sl Int)), Z41_j3 a0 s3_4 = Kj3 s3_4 := by
  intro s3_4
  refine Eq.trans ?_ (hKj3 _).symm
  unfold Z41_j3
  refine Q.bindO (Z10_eq _) fun x6 => ?_
  all_goals rfl
 refine Q.condO ?_ ?_
 ·refine Q.bindO rfl fun x10 => ?_
  all_goals exact hj3 _
 all_goals exact hj3 _
def Z36_q (a0 : TRef) : Option Bool := (Z41_q a0).bind fun x3 => on (bif (decide ((0 : Int) < ((x3.FWraps.l.length : Nat) : Int))) then ((x3.FWraps.l)[0]?.getD (0 : Int)) else (0 : Int)) fun x6 => some ((decide ((0 : Int) < ((x3.FWraps.l.length : Nat) : Int))) && (decide (x6 = (2 : Int))))
theorem Z36_eq (a0 : TRef) : Z36 a0 = Z36_q a0 := by
 unfold Z36 Z36_q
 refine Eq.trans ?_ (Q.some_bind _)
 refine Q.bindO (Z41_eq _) fun x3 => ?_
 refine Q.guardTO (fun hc => Q.getD_some (by simp at hc; omega)) fun x6 hx_x6 => ?_
 all_goals rfl
def Z35_q (a0 : TRef) : Option (TRef × Bool) := (Z36_q a0).bind fun x4 => bif (!x4) then (some ((TRef.mk ([] : Bs) (Sl.nil : Sl Int)), false)) else ((Z41_q a0).bind fun x8 => (partC x8.FWraps (some (1 : Int)) none).bind fun x10 => some ((TRef.mk x8.FName x10), true))
theorem Z35_eq (a0 : TRef) : Z35 a0 = Z35_q a0 := by
 unfold Z35 Z35_q
 refine Eq.trans ?_ (Q.some_bind _)
 refine Q.bindO (Z36_eq _) fun x4 => ?_
 refine Q.condO ?_ ?_
 ·all_goals rfl
 refine Q.bindO (Z41_eq _) fun x8 => ?_
 refine Q.bindO rfl fun x10 => ?_
 all_goals rfl
def Z47_q (a0 : TRef) (a1 : TRef) : Option (TRef × Bool) := Z47 a0 a1
theorem Z47_eq (a0 : TRef) (a1 : TRef) : Z47 a0 a1 = Z47_q a0 a1 := rfl
def Z45_q (a0 : TRef) (a1 : TRef) : Option Bool := guardO (((a0.FName == a1.FName))) (Z12_q a0.FWraps a1.FWraps) false fun x3 => some (((a0.FName == a1.FName)) && x3)
theorem Z45_eq (a0 : TRef) (a1 : TRef) : Z45 a0 a1 = Z45_q a0 a1 := by
 unfold Z45 Z45_q
 refine Eq.trans ?_ (Q.some_bind _)
 refine Q.guardOO (Z12_eq _ _) fun x3 => ?_
 all_goals rfl
def Z34_q (a0 : TRef) (a1 : TRef) : Option Bool := (Z47_q a0 a1).bind fun x3 => guardO (x3.2) (Z45_q x3.1 a1) false fun x5 => some (x3.2 && x5)
theorem Z34_eq (a0 : TRef) (a1 : TRef) : Z34 a0 a1 = Z34_q a0 a1 := by
 unfold Z34 Z34_q
 refine Eq.trans ?_ (Q.some_bind _)
 refine Q.bindO (Z47_eq _ _) fun x3 => ?_
 refine Q.guardOO (Z45_eq _ _) fun x5 => ?_
 all_goals rfl
def Z24_q12  : List UInt8 → Unit ⊕ Bool
 | [] => Sum.inl ()
 | h12 :: r12 => on (h12) fun x20 => bif (!(((((decide ((97 : Int) ≤ ((x20.toNat : Nat) : Int))) && (decide (((x20.toNat : Nat) : Int) ≤ (122 : Int)))) || ((decide ((65 : Int) ≤ ((x20.toNat : Nat) : Int))) && (decide (((x20.toNat : Nat) : Int) ≤ (90 : Int))))) || ((decide ((48 : Int) ≤ ((x20.toNat : Nat) : Int))) && (decide (((x20.toNat : Nat) : Int) ≤ (57 : Int))))) || (decide (((x20.toNat : Nat) : Int) = (95 : Int))))) then (Sum.inr false) else (Z24_q12  (r12) )
theorem Z24_l12_qe {a0 : Bs}  (Kb12 : (Unit ⊕ Bool) → Option Bool) (hend : ∀ (n12 : Nat) (s24_13 : Nat), Z24_j8    = Kb12 (Sum.inl ())) (hret : ∀ e : Bool, some e = Kb12 (Sum.inr e)) : ∀ (n12 : Nat) (s24_13 : Nat), (0 < n12 ∧ a0.length < s24_13 + n12) → Z24_l12 a0 n12 s24_13 = Kb12 (Z24_q12  (a0.drop s24_13) ) := by
 intro n12
 induction n12 with
 | zero => intro s24_13 hn; exact absurd hn.1 (by omega)
 | succ n12 ih12 =>
  intro s24_13 hn
  rw [Z24_l12]
  by_cases hlt : s24_13 < a0.length
  ·obtain ⟨h12, hh12⟩ : ∃ x, a0[s24_13]? = some x := ⟨_, List.getElem?_eq_getElem hlt⟩
   rw [Q.drop_of hh12, Z24_q12]
   refine Q.condT (Q.ltT hlt) ?_
   refine Q.bindP hh12 fun x20 hx_x20 => ?_
   refine Q.condP ?_ ?_
   ·all_goals exact hret _
   all_goals exact ih12 _ ⟨by omega, by omega⟩
  rw [List.drop_of_length_le (by omega), Z24_q12]
  refine Q.condF (Q.ltF hlt) ?_
  exact hend n12 s24_13
def Z24_q (a0 : Bs) : Option Bool := guardO (!(((a0 == ([] : Bs))) || (decide ((64 : Int) < ((a0.length : Nat) : Int))))) (a0[0]?) (0 : UInt8) fun x4 => guardO ((!(((a0 == ([] : Bs))) || (decide ((64 : Int) < ((a0.length : Nat) : Int)))) && (decide ((48 : Int) ≤ ((x4.toNat : Nat) : Int))))) (a0[0]?) (0 : UInt8) fun x5 => bif ((((a0 == ([] : Bs))) || (decide ((64 : Int) < ((a0.length : Nat) : Int)))) || ((decide ((48 : Int) ≤ ((x4.toNat : Nat) : Int))) && (decide (((x5.toNat : Nat) : Int) ≤ (57 : Int))))) then (some false) else (on (Z24_q12  a0 ) fun o12 => match o12 with | Sum.inl _ => (on (()) fun _ => some true) | Sum.inr e12 => (some e12))
theorem Z24_eq (a0 : Bs) : Z24 a0 = Z24_q a0 := by
 unfold Z24 Z24_q
 refine Eq.trans ?_ (Q.some_bind _)
 refine Q.guardOO rfl fun x4 => ?_
 refine Q.guardOO rfl fun x5 => ?_
 refine Q.condO ?_ ?_
 ·all_goals rfl
 refine Q.wrapPO fun Kb12 hKb12 => ?_
 refine Z24_l12_qe  Kb12 ?_ ?_ _ _ ⟨Nat.succ_pos _, by omega⟩
 ·intro n12 s24_13
  refine Eq.trans ?_ (hKb12 _).symm
  try dsimp only
  refine Q.wrapPO fun Kj8 hKj8 => ?_
  have hj8 : Z24_j8   = Kj8 () := by
   refine Eq.trans ?_ (hKj8 _).symm
   unfold Z24_j8
   all_goals rfl
  all_goals exact hj8
 intro e12
 refine Eq.trans ?_ (hKb12 _).symm
 try dsimp only
 all_goals rfl
def Z44_q11 (a0 : TRef) : List Int → Nat → Option (Unit ⊕ Bool)
 | [], s18_12 => some (Sum.inl ())
 | h11 :: r11, s18_12 => on (h11) fun x18 => guardO ((!((!decide (x18 = (1 : Int))) && (!decide (x18 = (2 : Int)))) && ((decide (x18 = (1 : Int))) && (decide ((0 : Int) < ((s18_12 : Nat) : Int)))))) (subC ((s18_12 : Nat) : Int) (1 : Int)) (0 : Int) fun x20 => guardO ((!((!decide (x18 = (1 : Int))) && (!decide (x18 = (2 : Int)))) && ((decide (x18 = (1 : Int))) && (decide ((0 : Int) < ((s18_12 : Nat) : Int)))))) (idxC a0.FWraps.l x20) (0 : Int) fun x21 => bif (((!decide (x18 = (1 : Int))) && (!decide (x18 = (2 : Int)))) || (((decide (x18 = (1 : Int))) && (decide ((0 : Int) < ((s18_12 : Nat) : Int)))) && (decide (x21 = x18)))) then (some (Sum.inr false)) else (Z44_q11 a0 (r11) (s18_12 + 1) )
theorem Z44_l11_qe {a0 : TRef}  (Kb11 : (Unit ⊕ Bool) → Option Bool) (hend : ∀ (n11 : Nat) (s18_12 : Nat), Z44_j7    = Kb11 (Sum.inl ())) (hret : ∀ e : Bool, some e = Kb11 (Sum.inr e)) : ∀ (n11 : Nat) (s18_12 : Nat), (0 < n11 ∧ a0.FWraps.l.length < s18_12 + n11) → Z44_l11 a0 n11 s18_12 = Option.bind (Z44_q11 a0 (a0.FWraps.l.drop s18_12) s18_12 ) Kb11 := by
 intro n11
 induction n11 with
 | zero => intro s18_12 hn; exact absurd hn.1 (by omega)
 | succ n11 ih11 =>
  intro s18_12 hn
  rw [Z44_l11]
  by_cases hlt : s18_12 < a0.FWraps.l.length
  ·obtain ⟨h11, hh11⟩ : ∃ x, a0.FWraps.l[s18_12]? = some x := ⟨_, List.getElem?_eq_getElem hlt⟩
   rw [Q.drop_of hh11, Z44_q11]
   refine Q.condT (Q.ltT hlt) ?_
   refine Q.bindPO hh11 fun x18 hx_x18 => ?_
   refine Q.guardOO rfl fun x20 => ?_
   refine Q.guardOO rfl fun x21 => ?_
   refine Q.condO ?_ ?_
   ·all_goals exact hret _
   all_goals exact ih11 _ ⟨by omega, by omega⟩
  rw [List.drop_of_length_le (by omega), Z44_q11]
  refine Q.condF (Q.ltF hlt) ?_
  exact hend n11 s18_12
def Z44_q (a0 : TRef) : Option Bool := (Z24_q a0.FName).bind fun x4 => bif ((!x4) || (decide ((24 : Int) < ((a0.FWraps.l.length : Nat) : Int)))) then (some false) else (Option.bind (Z44_q11 a0 a0.FWraps.l 0 ) fun o11 => match o11 with | Sum.inl _ => (on (()) fun _ => some true) | Sum.inr e11 => (some e11))
theorem Z44_eq (a0 : TRef) : Z44 a0 = Z44_q a0 := by
 unfold Z44 Z44_q
 refine Eq.trans ?_ (Q.some_bind _)
 refine Q.bindO (Z24_eq _) fun x4 => ?_
 refine Q.condO ?_ ?_
 ·all_goals rfl
 refine Q.wrapOO fun Kb11 hKb11 => ?_
 refine Z44_l11_qe  Kb11 ?_ ?_ _ _ ⟨Nat.succ_pos _, by omega⟩
 ·intro n11 s18_12
  refine Eq.trans ?_ (hKb11 _).symm
  try dsimp only
  refine Q.wrapPO fun Kj7 hKj7 => ?_
  have hj7 : Z44_j7   = Kj7 () := by
   refine Eq.trans ?_ (hKj7 _).symm
   unfold Z44_j7
   all_goals rfl
  all_goals exact hj7
 intro e11
 refine Eq.trans ?_ (hKb11 _).symm
 try dsimp only
 all_goals rfl
end Go.Proofs

namespace Go.Proofs
open Go Go.Ab
def nnW (w : List Int) : Bool := w.head? == some 1
def liW (w : List Int) : Bool := w.head? == some 2
def barS (s : Sl Int) : Sl Int := bif nnW s.l then ⟨s.nl, s.l.drop 1⟩ else s
def bar (t : TRef) : TRef := ⟨t.FName, barS t.FWraps⟩
def innerT (t : TRef) : TRef := ⟨t.FName, ⟨(barS t.FWraps).nl, (barS t.FWraps).l.drop 1⟩⟩
theorem clone_eq {s : Sl Int} (h : SOk s) : Z10_q s = some s := by
 unfold Z10_q
 obtain ⟨nl, l⟩ := s
 cases nl with
 | true => have := h.1 rfl; simp only at this; subst this; rfl
 | false =>
  simp only [cond_false]
  rw [appC_ok (by omega) (by have := h.2; simp at this ⊢; omega)]
  simp
theorem isNonNull_eq (t : TRef) : Z37_q t = nnW t.FWraps.l := by
 unfold Z37_q nnW on
 cases t.FWraps.l with
 | nil => rfl
 | cons a r => simp; by_cases h : a = 1 <;> simp [h]
theorem head_one {w : List Int} (h : nnW w = true) : 1 ≤ w.length := by cases w <;> simp [nnW] at h ⊢
theorem sok_drop {α : Type} {s : Sl α} (n : Nat) (h : SOk s) : SOk ⟨s.nl, s.l.drop n⟩ := ⟨fun e => by simp [h.1 e], by have := h.2; simp; omega⟩
theorem barS_ok {s : Sl Int} (h : SOk s) : SOk (barS s) := by
 unfold barS
 cases nnW s.l with
 | true => exact sok_drop 1 h
 | false => exact h
theorem innerT_ok {t : TRef} (h : SOk t.FWraps) : SOk (innerT t).FWraps := sok_drop 1 (barS_ok h)
theorem nullable_eq {t : TRef} (h : SOk t.FWraps) : Z41_q t = some (bar t) := by
 unfold Z41_q bar barS on
 simp only [isNonNull_eq]
 cases hn : nnW t.FWraps.l with
 | true =>
  simp only [cond_true]
  rw [partC_tail (head_one hn)]
  simp only [Option.bind_some]
  rw [clone_eq (sok_drop 1 h)]; rfl
 | false =>
  simp only [cond_false, Option.bind_some]
  rw [clone_eq h]; rfl
theorem isList_eq {t : TRef} (h : SOk t.FWraps) : Z36_q t = some (liW (barS t.FWraps).l) := by
 unfold Z36_q
 rw [nullable_eq h]
 simp only [Option.bind_some, on, bar, liW]
 cases (barS t.FWraps).l with
 | nil => rfl
 | cons a r => simp; by_cases h : a = 2 <;> simp [h]
theorem list_one {w : List Int} (h : liW w = true) : 1 ≤ w.length := by cases w <;> simp [liW] at h ⊢
theorem inner_eq {t : TRef} (h : SOk t.FWraps) : Z35_q t = some (bif liW (barS t.FWraps).l then (innerT t, true) else (⟨[], Sl.nil⟩, false)) := by
 unfold Z35_q
 rw [isList_eq h]
 simp only [Option.bind_some]
 cases hl : liW (barS t.FWraps).l with
 | false => rfl
 | true =>
  simp only [Bool.not_true, cond_false, cond_true]
  rw [nullable_eq h]
  simp only [Option.bind_some, bar]
  rw [partC_tail (list_one hl)]
  rfl
end Go.Proofs

namespace Go.Proofs
open Go Go.Ab
def fil (l : List Int) : List Int := l.filter fun x => !decide (x = 1)
theorem equalAux (a1 : Sl Int) : ∀ (l : List Int) (s : Nat), l.length + s = a1.l.length → Z12_q12 a1 l s = some (if l = a1.l.drop s then Sum.inl () else Sum.inr false)
 | [], s, h => by
  rw [Z12_q12, if_pos]
  rw [List.drop_eq_nil_of_le]; simp at h; omega
 | x :: r, s, h => by
  simp only [List.length_cons] at h
  have hs : s < a1.l.length := by omega
  have hg := List.getElem?_eq_getElem hs
  rw [Z12_q12]
  simp only [Ab.on]
  rw [hg, Option.bind_some, equalAux a1 r (s + 1) (by omega), Q.drop_of hg]
  generalize a1.l[s] = y
  generalize a1.l.drop (s + 1) = t
  by_cases e : x = y
  ·subst e; simp only [decide_true, Bool.not_true, cond_false, List.cons.injEq, true_and]
  ·simp [e]
theorem equal_eq (a b : Sl Int) : Z12_q a b = some (decide (a.l = b.l)) := by
 unfold Z12_q
 by_cases h : a.l.length = b.l.length
 ·rw [show decide ((a.l.length : Int) = (b.l.length : Int)) = true from decide_eq_true (by omega)]
  simp only [Bool.not_true, cond_false]
  rw [equalAux b a.l 0 (by omega), List.drop_zero]
  by_cases e : a.l = b.l <;> simp [e, Ab.on]
 ·rw [show decide ((a.l.length : Int) = (b.l.length : Int)) = false from decide_eq_false (by omega)]
  have : a.l ≠ b.l := fun e => h (by rw [e])
  simp [this]
theorem loose_eq {s : Sl Int} (h : SOk s) : ∃ nl, Z48_q s = some ⟨nl, fil s.l⟩ := by
 unfold Z48_q
 rw [clone_eq h, Option.bind_some, Option.bind_some]
 exact ⟨s.nl, rfl⟩
theorem shape_eq {a b : TRef} (ha : SOk a.FWraps) (hb : SOk b.FWraps) : Z46_q a b = some (a.FName == b.FName && decide (fil a.FWraps.l = fil b.FWraps.l)) := by
 obtain ⟨n1, h1⟩ := loose_eq ha
 obtain ⟨n2, h2⟩ := loose_eq hb
 unfold Z46_q
 rw [h1, h2]
 cases h : a.FName == b.FName
 ·simp [guardO]
 ·simp [guardO, equal_eq]
def barL (l : List Int) : List Int := bif nnW l then l.drop 1 else l
theorem barS_l (s : Sl Int) : (barS s).l = barL s.l := by unfold barS barL; cases nnW s.l <;> rfl
def wk : Nat → List Int → List Int → List Int
 | 0, _, _ => []
 | n + 1, a, b => (bif nnW a && nnW b then [1] else []) ++ (bif liW (barL a) && liW (barL b) then 2 :: wk n ((barL a).drop 1) ((barL b).drop 1) else [])
def rf : Nat → List Int → List Int → Bool
 | 0, _, _ => false
 | n + 1, a, b => !(nnW b && !nnW a) && (!(liW (barL a) && liW (barL b)) || rf n ((barL a).drop 1) ((barL b).drop 1))
theorem barL_len (l : List Int) : (barL l).length ≤ l.length := by unfold barL; cases nnW l <;> simp
theorem barL_lt {l : List Int} (h : liW (barL l) = true) : ((barL l).drop 1).length < l.length := by
 have h1 := list_one h; have h2 := barL_len l; simp; omega
theorem weakAux : ∀ (n : Nat) (a b z o : TRef), a.FWraps.l.length < n → SOk a.FWraps → SOk b.FWraps → o.FWraps.l.length + 2 * a.FWraps.l.length ≤ 1073741824 → (o.FWraps.nl = true → o.FWraps.l = []) →
  ∃ nl, Z47_l9 n a b z o = some (⟨o.FName, ⟨nl, o.FWraps.l ++ wk n a.FWraps.l b.FWraps.l⟩⟩, true) ∧ (nl = true → o.FWraps.l ++ wk n a.FWraps.l b.FWraps.l = [])
 | 0, _, _, _, _, h, _, _, _, _ => by omega
 | n + 1, a, b, z, o, h, ha, hb, hl, hz => by
  have key : ∀ o' : TRef, o'.FWraps.l.length + 2 * a.FWraps.l.length ≤ 1073741825 → (o'.FWraps.nl = true → o'.FWraps.l = []) → ∃ nl, Z47_j14 a b z (Z47_l9 n) o' = some (⟨o'.FName, ⟨nl, o'.FWraps.l ++ (bif liW (barL a.FWraps.l) && liW (barL b.FWraps.l) then 2 :: wk n ((barL a.FWraps.l).drop 1) ((barL b.FWraps.l).drop 1) else [])⟩⟩, true) ∧
    (nl = true → o'.FWraps.l ++ (bif liW (barL a.FWraps.l) && liW (barL b.FWraps.l) then 2 :: wk n ((barL a.FWraps.l).drop 1) ((barL b.FWraps.l).drop 1) else []) = []) := by
   intro o' ho' hz'
   unfold Z47_j14
   rw [Z35_eq, Z35_eq, inner_eq ha, inner_eq hb, Option.bind_some, Option.bind_some, barS_l, barS_l]
   cases h1 : liW (barL a.FWraps.l)
   ·exact ⟨o'.FWraps.nl, by simp, by simpa using hz'⟩
   ·cases h2 : liW (barL b.FWraps.l)
    ·exact ⟨o'.FWraps.nl, by simp, by simpa using hz'⟩
    ·simp only [cond_true, Bool.not_true, Bool.or_self, cond_false, Bool.and_self]
     have hlt := barL_lt h1
     have ea : (innerT a).FWraps.l = (barL a.FWraps.l).drop 1 := by unfold innerT; rw [barS_l]
     have eb : (innerT b).FWraps.l = (barL b.FWraps.l).drop 1 := by unfold innerT; rw [barS_l]
     rw [appC_ok (by decide) (by simp; omega), Option.bind_some]
     obtain ⟨nl, h3, h4⟩ := weakAux n (innerT a) (innerT b) z ⟨o'.FName, ⟨o'.FWraps.nl && false, o'.FWraps.l ++ [2]⟩⟩ (by rw [ea]; omega) (innerT_ok ha) (innerT_ok hb) (by rw [ea]; simp only [List.length_append, List.length_singleton]; omega) (by simp)
     rw [show (List.isEmpty (⟨false, [(2 : Int)]⟩ : Sl Int).l) = false from rfl, h3, ea, eb]
     rw [ea, eb] at h4
     exact ⟨nl, by simp, fun e => by have := h4 e; simp at this⟩
  rw [Z47_l9, Z37_eq, Z37_eq, Option.bind_some, isNonNull_eq, isNonNull_eq]
  cases h1 : nnW a.FWraps.l
  ·obtain ⟨nl, h2, h5⟩ := key o (by omega) hz
   exact ⟨nl, by simp only [guardO]; simp only [Bool.false_eq_true, if_false, Bool.and_false, cond_false]; rw [h2, wk, h1]; simp, fun e => by rw [wk, h1]; simpa using h5 e⟩
  ·cases h2 : nnW b.FWraps.l
   ·obtain ⟨nl, h3, h5⟩ := key o (by omega) hz
    exact ⟨nl, by simp only [guardO]; simp only [if_true, Option.bind_some, Bool.and_false, cond_false]; rw [h3, wk, h1, h2]; simp, fun e => by rw [wk, h1, h2]; simpa using h5 e⟩
   ·obtain ⟨nl, h3, h5⟩ := key ⟨o.FName, ⟨o.FWraps.nl && false, o.FWraps.l ++ [1]⟩⟩ (by simp only [List.length_append, List.length_singleton]; omega) (by simp)
    refine ⟨nl, ?_, fun e => by have := h5 e; simp at this⟩
    simp only [guardO, if_true, Option.bind_some, Bool.and_self, cond_true]
    rw [appC_ok (by decide) (by simp; omega), Option.bind_some]
    rw [show (List.isEmpty (⟨false, [(1 : Int)]⟩ : Sl Int).l) = false from rfl, h3, wk, h1, h2]
    simp
theorem weaken_eq' {a b : TRef} (ha : SOk a.FWraps) (hb : SOk b.FWraps) : ∃ nl, Z47_q a b = some (bif (a.FName == b.FName && decide (fil a.FWraps.l = fil b.FWraps.l)) then (⟨a.FName, ⟨nl, wk F0 a.FWraps.l b.FWraps.l⟩⟩, true) else (⟨[], Sl.nil⟩, false)) ∧ (nl = true → wk F0 a.FWraps.l b.FWraps.l = []) := by
 have hl := ha.2
 obtain ⟨nl, h1, h2⟩ := weakAux F0 a b TRef.zero ⟨a.FName, Sl.nil⟩ (by rw [F0_eq]; omega) ha hb (by simp [Sl.nil]; omega) (fun _ => rfl)
 refine ⟨nl, ?_, fun e => by simpa [Sl.nil] using h2 e⟩
 unfold Z47_q Z47
 rw [Z46_eq, shape_eq ha hb, Option.bind_some, h1]
 cases (a.FName == b.FName && decide (fil a.FWraps.l = fil b.FWraps.l)) <;> simp [Sl.nil]
theorem weaken_eq {a b : TRef} (ha : SOk a.FWraps) (hb : SOk b.FWraps) : ∃ nl, Z47_q a b = some (bif (a.FName == b.FName && decide (fil a.FWraps.l = fil b.FWraps.l)) then (⟨a.FName, ⟨nl, wk F0 a.FWraps.l b.FWraps.l⟩⟩, true) else (⟨[], Sl.nil⟩, false)) :=
 let ⟨nl, h, _⟩ := weaken_eq' ha hb; ⟨nl, h⟩
theorem fits_eq {a b : TRef} (ha : SOk a.FWraps) (hb : SOk b.FWraps) : Z34_q a b = some ((a.FName == b.FName && decide (fil a.FWraps.l = fil b.FWraps.l)) && decide (wk F0 a.FWraps.l b.FWraps.l = b.FWraps.l)) := by
 obtain ⟨nl, h⟩ := weaken_eq ha hb
 unfold Z34_q
 rw [h, Option.bind_some]
 cases hs : (a.FName == b.FName && decide (fil a.FWraps.l = fil b.FWraps.l))
 ·simp [guardO]
 ·have hn : (a.FName == b.FName) = true := by simp only [Bool.and_eq_true] at hs; exact hs.1
  simp only [guardO, cond_true, if_true]
  unfold Z45_q
  rw [hn, equal_eq]
  simp [guardO]
def rt : List Int → Bool
 | [] => true
 | x :: r => (decide (x = 1) || decide (x = 2)) && !(decide (x = 1) && nnW r) && rt r
theorem rt_tail {x : Int} {r : List Int} (h : rt (x :: r) = true) : rt r = true := by rw [rt] at h; simp only [Bool.and_eq_true] at h; exact h.2
theorem rt_bar {l : List Int} (h : rt l = true) : rt (barL l) = true ∧ nnW (barL l) = false := by
 unfold barL
 cases l with
 | nil => exact ⟨rfl, rfl⟩
 | cons x r =>
  cases hn : nnW (x :: r)
  ·exact ⟨h, hn⟩
  ·simp only [cond_true, List.drop_succ_cons, List.drop_zero]
   refine ⟨rt_tail h, ?_⟩
   have hx : x = 1 := by simpa [nnW] using hn
   rw [rt] at h
   simp only [hx, Bool.and_eq_true] at h
   simpa using h.1.2
theorem rt_list {l : List Int} (h : rt l = true) (hn : nnW l = false) : liW l = false ∧ l = [] ∨ ∃ r, l = 2 :: r ∧ rt r = true ∧ liW l = true := by
 cases l with
 | nil => exact .inl ⟨rfl, rfl⟩
 | cons x r =>
  refine .inr ⟨r, ?_⟩
  have h2 := rt_tail h
  have hx : x ≠ 1 := by simpa [nnW] using hn
  rw [rt] at h
  simp only [Bool.and_eq_true, Bool.or_eq_true, decide_eq_true_eq] at h
  have : x = 2 := h.1.1.resolve_left hx
  subst this
  exact ⟨rfl, h2, rfl⟩
theorem fil_bar (l : List Int) : fil (barL l) = fil l := by
 unfold barL
 cases l with
 | nil => rfl
 | cons x r =>
  cases hn : nnW (x :: r)
  ·rfl
  ·have hx : x = 1 := by simpa [nnW] using hn
   subst hx
   simp [fil]
theorem pre_bar (l : List Int) : (bif nnW l then [1] else []) ++ barL l = l := by
 unfold barL
 cases l with
 | nil => rfl
 | cons x r =>
  cases hn : nnW (x :: r)
  ·rfl
  ·have hx : x = 1 := by simpa [nnW] using hn
   subst hx; rfl
theorem wk_rf : ∀ (n : Nat) (a b : List Int), rt a = true → rt b = true → fil a = fil b → a.length < n → decide (wk n a b = b) = rf n a b
 | 0, _, _, _, _, _, h => by omega
 | n + 1, a, b, ha, hb, hf, hn => by
  obtain ⟨ha1, ha2⟩ := rt_bar ha
  obtain ⟨hb1, hb2⟩ := rt_bar hb
  have hf' : fil (barL a) = fil (barL b) := by rw [fil_bar, fil_bar, hf]
  have hpb := pre_bar b
  have hla := barL_len a
  rw [wk, rf]
  rcases rt_list ha1 ha2 with ⟨la, ea⟩ | ⟨ra, ea, hra, la⟩ <;> rcases rt_list hb1 hb2 with ⟨lb, eb⟩ | ⟨rb, eb, hrb, lb⟩
  ·rw [eb] at hpb
   rw [la, lb]
   simp only [Bool.and_self, cond_false, List.append_nil, Bool.not_false, Bool.true_or, Bool.and_true]
   rw [List.append_nil] at hpb
   rw [← hpb]
   cases nnW a <;> cases hh : nnW b <;> simp [hh, nnW]
  ·rw [ea, eb] at hf'; simp [fil] at hf'
  ·rw [ea, eb] at hf'; simp [fil] at hf'
  ·rw [eb] at hpb
   rw [la, lb, ea, eb]
   simp only [Bool.and_self, cond_true, List.drop_succ_cons, List.drop_zero, Bool.not_true, Bool.false_or]
   have h2 : fil ra = fil rb := by rw [ea, eb] at hf'; simpa [fil] using hf'
   rw [ea] at hla
   have ih := wk_rf n ra rb hra hrb h2 (by simp at hla; omega)
   rw [← ih]
   conv => lhs; rw [← hpb]
   cases nnW a <;> cases hh : nnW b <;> simp [hh, nnW]
theorem rf_refl : ∀ (n : Nat) (a : List Int), a.length < n → rf n a a = true
 | 0, _, h => by omega
 | n + 1, a, h => by
  rw [rf]
  cases hl : liW (barL a)
  ·cases nnW a <;> simp
  ·have := barL_lt hl
   rw [rf_refl n _ (by omega)]
   cases nnW a <;> simp
theorem rightAux (a : TRef) (ha : a.FWraps.l.length ≤ 1048576) : ∀ (l : List Int) (i : Nat), i + l.length = a.FWraps.l.length → a.FWraps.l.drop i = l →
  Z7_q10 a l i = some (if rt l = true ∧ ¬ (0 < i ∧ nnW l = true ∧ a.FWraps.l[i - 1]? = some 1) then Sum.inl () else Sum.inr false)
 | [], i, _, _ => by rw [Z7_q10, if_pos]; exact ⟨rfl, fun h => by simp [nnW] at h⟩
 | x :: r, i, hi, hd => by
  simp only [List.length_cons] at hi
  have hdr : a.FWraps.l.drop (i + 1) = r := by rw [← List.drop_drop, hd]; rfl
  have hxi : a.FWraps.l[i]? = some x := by
   have h0 : (a.FWraps.l.drop i)[0]? = some x := by rw [hd]; rfl
   simpa using h0
  have ih := rightAux a ha r (i + 1) (by omega) hdr
  rw [Z7_q10]
  simp only [Ab.on, ih, rt, Nat.add_sub_cancel, hxi, Nat.zero_lt_succ, true_and]
  by_cases h0 : 0 < i
  ·rw [show decide ((0 : Int) < (i : Int)) = true from decide_eq_true (by omega)]
   have hlt : i - 1 < a.FWraps.l.length := by omega
   have hidx : idxC a.FWraps.l ((i : Int) - 1) = some a.FWraps.l[i - 1] := by
    unfold idxC
    rw [if_pos (by omega), show ((i : Int) - 1).toNat = i - 1 by omega, List.getElem?_eq_getElem hlt]
   have hsub : subC (i : Int) 1 = some ((i : Int) - 1) := subC_ok (by omega)
   rw [List.getElem?_eq_getElem hlt]
   by_cases h1 : x = 1
   ·subst h1
    by_cases hp : a.FWraps.l[i - 1] = 1
    ·simp [guardO, hsub, hidx, hp, h0, nnW]
    ·simp [guardO, hsub, hidx, hp, h0, nnW, and_comm]
   ·by_cases h2 : x = 2
    ·subst h2; simp [guardO, nnW]
    ·simp [h1, h2, guardO]
  ·rw [show decide ((0 : Int) < (i : Int)) = false from decide_eq_false (by omega)]
   by_cases h1 : x = 1
   ·subst h1; simp [guardO, h0, nnW, and_comm]
   ·by_cases h2 : x = 2
    ·subst h2; simp [guardO, nnW]
    ·simp [h1, h2, guardO]
end Go.Proofs


namespace Go.Proofs
open Go Go.Ab
theorem cls_eq (x : Int) : ((((decide ((97 : Int) ≤ x) && decide (x ≤ (122 : Int))) || (decide ((65 : Int) ≤ x) && decide (x ≤ (90 : Int)))) || (decide ((48 : Int) ≤ x) && decide (x ≤ (57 : Int)))) || decide (x = (95 : Int))) = (Z6_q x || Z5_q x) := by
 unfold Z6_q Z5_q
 rw [Bool.eq_iff_iff]
 simp only [Bool.or_eq_true, Bool.and_eq_true, decide_eq_true_eq]
 constructor
 ·rintro (((h | h) | h) | h)
  ·exact .inl (.inl (.inr h))
  ·exact .inl (.inl (.inl h))
  ·exact .inr h
  ·exact .inl (.inr h)
 ·rintro (((h | h) | h) | h)
  ·exact .inl (.inl (.inr h))
  ·exact .inl (.inl (.inl h))
  ·exact .inr h
  ·exact .inl (.inr h)
theorem nameAux : ∀ (l : List UInt8) (i : Nat), 0 < i → Z4_q10 l i = Z24_q12 l
 | [], _, _ => rfl
 | h :: r, i, hi => by
  have h0 : decide (((i : Nat) : Int) = 0) = false := decide_eq_false (by omega)
  rw [Z4_q10, Z24_q12, nameAux r (i + 1) (by omega)]
  simp only [Ab.on, h0, cls_eq]
  cases Z6_q ((h.toNat : Nat) : Int)
  ·simp only [Bool.not_false, Bool.and_self, cond_true, Bool.true_and, Bool.false_or]
  ·rfl
theorem letter_digit (x : Int) (h : Z6_q x = true) : ((decide ((48 : Int) ≤ x)) && (decide (x ≤ (57 : Int)))) = false := by
 unfold Z6_q at h
 rw [Bool.and_eq_false_iff]
 simp only [Bool.or_eq_true, Bool.and_eq_true, decide_eq_true_eq] at h
 by_cases h2 : x ≤ 57
 ·left; apply decide_eq_false; omega
 ·right; exact decide_eq_false h2
theorem name_eq (s : Bs) : Z24_q s = some (Z4_q s) := by
 unfold Z24_q Z4_q
 cases s with
 | nil => rfl
 | cons h r =>
  have e0 : ((h :: r : Bs) == []) = false := rfl
  have e1 : decide ((((h :: r : Bs).length : Nat) : Int) < 1) = false := decide_eq_false (by simp only [List.length_cons]; omega)
  rw [e0, e1]
  simp only [Bool.false_or]
  cases decide ((64 : Int) < (((h :: r : Bs).length : Nat) : Int))
  ·simp only [Bool.not_false, guardO, if_true, cond_false, Bool.true_and, Bool.false_or]
   rw [show ((h :: r : Bs)[0]?) = some h from rfl]
   simp only [Option.bind_some]
   rw [Z4_q10, Z24_q12, nameAux r 1 (by omega)]
   simp only [Ab.on, cls_eq]
   generalize ((h.toNat : Nat) : Int) = x
   cases hl : Z6_q x
   ·have hd : Z5_q x = (decide ((48 : Int) ≤ x) && decide (x ≤ (57 : Int))) := rfl
    rw [hd]
    cases h4 : decide ((48 : Int) ≤ x) <;> cases h5 : decide (x ≤ (57 : Int)) <;> simp [h5]
   ·have h9 := letter_digit x hl
    cases h4 : decide ((48 : Int) ≤ x) <;> cases h5 : decide (x ≤ (57 : Int)) <;> rw [h4, h5] at h9 <;> simp [h5] at h9 ⊢ <;> (cases Z24_q12 r <;> rfl)
  ·rfl
end Go.Proofs
