import Derived.Test.YtmjbloiidajknaaDoorV1
set_option maxRecDepth 100000
set_option maxHeartbeats 2000000
set_option linter.unusedVariables false
set_option linter.unusedSimpArgs false
namespace Go.Proofs
open Go Go.Ab
open AOps Cert AWp
variable {lou : Lou}
def Z43_j7 (a0 : TRef)  (y8_id3_3 : Strings_Builder) (y9_id4_5 : Strings_Builder) : Option Bs := (Z15 y8_id3_3).bind fun x11 => (catC x11 a0.FName).bind fun x12 => (Z15 y9_id4_5).bind fun x13 => (catC x12 x13).bind fun x14 => some x14
def Z43_j25 (s5_19 : Int) (k_next_18 : Int → Strings_Builder → Strings_Builder → Option Bs) (y26_id3_3 : Strings_Builder) (y27_id4_5 : Strings_Builder) : Option Bs := (subC s5_19 (1 : Int)).bind fun x28 => k_next_18 x28 y26_id3_3 y27_id4_5
def Z43_l18 (a0 : TRef)  : Nat → Int → Strings_Builder → Strings_Builder → Option Bs
 | 0, _, _, _ => none
 | n18 + 1, s5_19, y20_id3_3, y21_id4_5 => bif (decide ((0 : Int) ≤ s5_19)) then ((idxC a0.FWraps.l s5_19).bind fun x30 => bif (decide (x30 = (1 : Int))) then ((Z16 y21_id4_5 (33 : Int)).bind fun x32 => Z43_j25 s5_19 ((Z43_l18 a0 n18)) y20_id3_3 x32.2) else ((Z16 y20_id3_3 (91 : Int)).bind fun x34 => (Z16 y21_id4_5 (93 : Int)).bind fun x35 => Z43_j25 s5_19 ((Z43_l18 a0 n18)) x34.2 x35.2)) else (Z43_j7 a0  y20_id3_3 y21_id4_5)
def Z43 (a0 : TRef) : Option Bs := (subC ((a0.FWraps.l.length : Nat) : Int) (1 : Int)).bind fun x17 => Z43_l18 a0 F0 x17 Strings_Builder.zero Strings_Builder.zero
theorem Z43_walk {a0 : TRef}   {r : Bs} (hE : Z43 a0 = some r) (H : Heap)  : ACalls Tryd.prog 26 [.agg (TRef.c a0)] H fun v h' => v = .a (.d (.str r)) ∧ h' = H := by
 unfold Z43 at hE
 refine ACalls.of_wp (fn := Tryd.f26) (c := _) Tryd.tab_ok (fun _ _ => Tryd.call26 _ _) Tryd.func26 rfl (n := 29) rfl (rs := [.tmp 2]) rfl rfl ?_
 refine seqK fun K1 hK1 => ?_
 refine region ?_
 refine s0 (boxV rfl) rfl ?_
 refine s0 assignA rfl ?_
 refine nil ?_
 refine hK1 _ ?_
 clear hK1 K1
 refine seqK fun K2 hK2 => ?_
 refine region ?_
 refine AOps.tokE 1 5 fun tk3_4 htk3_4 => ?_
 refine sE (StepE.allocT (TK rfl) rfl) rfl (fun _ _ _ ⟨id3_3, hid3_3, e1, e2, e3⟩ => ?_); subst e1 e2 e3
 obtain ⟨ne_id3_3_tk3_4, hid3_3⟩ := Heap.set_fresh hid3_3
 refine AOps.recellT id3_3 _ hpG (fun j w cs hh hx => tok_cell 1 1 1 hh (t := tk3_4) hpG hx rfl) ?_
 refine AOps.heq (h' := ((H.set tk3_4 (some (.tok 1 0 (some 5)))).set id3_3 (some (.tcells 68 (Strings_Builder.cg id3_3 (some tk3_4) Strings_Builder.zero))))) (by first | rfl | (rw [Heap.set_set]; rfl) | (funext n_; simp only [Heap.set]; (repeat' split) <;> first | rfl | (exfalso; simp_all; done) | (simp_all; done))) ?_
 refine AOps.tokE 1 5 fun tk4_6 htk4_6 => ?_
 obtain ⟨ne_tk4_6_id3_3, htk4_6⟩ := Heap.set_fresh htk4_6
 obtain ⟨ne_tk4_6_tk3_4, htk4_6⟩ := Heap.set_fresh htk4_6
 refine sE (StepE.allocT (TK rfl) rfl) rfl (fun _ _ _ ⟨id4_5, hid4_5, e1, e2, e3⟩ => ?_); subst e1 e2 e3
 obtain ⟨ne_id4_5_tk4_6, hid4_5⟩ := Heap.set_fresh hid4_5
 obtain ⟨ne_id4_5_id3_3, hid4_5⟩ := Heap.set_fresh hid4_5
 obtain ⟨ne_id4_5_tk3_4, hid4_5⟩ := Heap.set_fresh hid4_5
 refine AOps.recellT id4_5 _ hpG (fun j w cs hh hx => tok_cell 1 1 1 hh (t := tk4_6) hpG hx rfl) ?_
 refine AOps.heq (h' := ((((H.set tk3_4 (some (.tok 1 0 (some 5)))).set id3_3 (some (.tcells 68 (Strings_Builder.cg id3_3 (some tk3_4) Strings_Builder.zero)))).set tk4_6 (some (.tok 1 0 (some 5)))).set id4_5 (some (.tcells 68 (Strings_Builder.cg id4_5 (some tk4_6) Strings_Builder.zero))))) (by first | rfl | (rw [Heap.set_set]; rfl) | (funext n_; simp only [Heap.set]; (repeat' split) <;> first | rfl | (exfalso; simp_all; done) | (simp_all; done))) ?_
 refine nil ?_
 refine hK2 _ ?_
 clear hK2 K2
 refine seqJH (KeepsT.A (k := 1) (KeepsT.A (k := 3) (KeepsT.A (k := 4) KeepsT.nil))) (fun (z : Strings_Builder × Strings_Builder) => []) (fun z => ((((H.set tk3_4 (some (.tok 1 z.1.Fbuf.l.length (some 5)))).set id3_3 (some (.tcells 68 (Strings_Builder.cg id3_3 (some tk3_4) z.1)))).set tk4_6 (some (.tok 1 z.2.Fbuf.l.length (some 5)))).set id4_5 (some (.tcells 68 (Strings_Builder.cg id4_5 (some tk4_6) z.2))))) (fun z => Z43_j7 a0 z.1 z.2 = some r) ?_ ?_
 ·intro K7 hK7
  refine seqK fun K15 hK15 => ?_
  refine region ?_
  refine s0 (fieldVA (TK rfl) rfl rfl (TK rfl) rfl rfl) rfl ?_
  refine s0 (loadV (TK rfl) rfl rfl rfl) rfl ?_
  refine sLen (f := (intE .i64)) (s := a0.FWraps) (TK rfl) rfl rfl rfl rfl fun hL16 => ?_
  obtain ⟨x17, gx17, hE⟩ := bindO_some hE
  refine s0 (subM rfl rfl gx17) rfl ?_
  refine s0 assignA rfl ?_
  refine nil ?_
  refine hK15 _ ?_
  clear hK15 K15
  refine block ?_
  refine loopH (KeepsT.A (k := 1) (KeepsT.A (k := 3) (KeepsT.A (k := 4) KeepsT.nil))) (fun (z : Nat × Int × Strings_Builder × Strings_Builder) => [(5, .a (.d (.int .i64 z.2.1)))]) (fun z => ((((H.set tk3_4 (some (.tok 1 z.2.2.1.Fbuf.l.length (some 5)))).set id3_3 (some (.tcells 68 (Strings_Builder.cg id3_3 (some tk3_4) z.2.2.1)))).set tk4_6 (some (.tok 1 z.2.2.2.Fbuf.l.length (some 5)))).set id4_5 (some (.tcells 68 (Strings_Builder.cg id4_5 (some tk4_6) z.2.2.2))))) (fun z => z.1) (fun z => Z43_l18 a0 z.1 z.2.1 z.2.2.1 z.2.2.2 = some r) (F0, x17, Strings_Builder.zero, Strings_Builder.zero) hE Weak.toA ?_
  rintro ⟨n18, s5_19, y20_id3_3, y21_id4_5⟩ hE K18 hK18
  try dsimp only at hE
  cases n18 with
  | zero => cases hE
  | succ n18 =>
    rw [Z43_l18] at hE
    refine seqK fun K22 hK22 => ?_
    refine seqK fun K23 hK23 => ?_
    refine region ?_
    refine s0 moveA rfl ?_
    refine s0 (binI rfl rfl rfl) rfl ?_
    refine nil ?_
    refine hK23 _ ?_
    clear hK23 K23
    refine condE hE rfl (fun hc24 hE => ?_) (fun hc24 hE => ?_)
    ·refine AWp.skip ?_
     refine hK22 _ ?_
     clear hK22 K22
     refine seqJH (KeepsT.A (k := 1) (KeepsT.A (k := 3) (KeepsT.A (k := 4) (KeepsT.A (k := 5) KeepsT.nil)))) (fun (z : Strings_Builder × Strings_Builder) => []) (fun z => ((((H.set tk3_4 (some (.tok 1 z.1.Fbuf.l.length (some 5)))).set id3_3 (some (.tcells 68 (Strings_Builder.cg id3_3 (some tk3_4) z.1)))).set tk4_6 (some (.tok 1 z.2.Fbuf.l.length (some 5)))).set id4_5 (some (.tcells 68 (Strings_Builder.cg id4_5 (some tk4_6) z.2))))) (fun z => Z43_j25 s5_19 ((Z43_l18 a0 n18)) z.1 z.2 = some r) ?_ ?_
     ·intro K25 hK25
      refine block ?_
      refine seqK fun K29 hK29 => ?_
      refine region ?_
      refine s0 (fieldVA (TK rfl) rfl rfl (TK rfl) rfl rfl) rfl ?_
      refine s0 (loadV (TK rfl) rfl rfl rfl) rfl ?_
      refine s0 moveA rfl ?_
      obtain ⟨x30, gx30, hE⟩ := bindO_some hE
      refine s0 (idxM (f := (intE .i64)) (TK rfl) rfl (TK rfl) rfl rfl rfl gx30) rfl ?_
      refine s0 (loadV (TK rfl) rfl rfl rfl) rfl ?_
      refine s0 (binI rfl rfl rfl) rfl ?_
      refine nil ?_
      refine hK29 _ ?_
      clear hK29 K29
      refine condE hE rfl (fun hc31 hE => ?_) (fun hc31 hE => ?_)
      ·refine region ?_
       obtain ⟨x32, gx32, hE⟩ := bindO_some hE
       refine sH (callH rfl rfl (Z16_walk gx32 _ hpG hpG)) rfl ?_
       refine AOps.heq (h' := ((((H.set tk3_4 (some (.tok 1 y20_id3_3.Fbuf.l.length (some 5)))).set id3_3 (some (.tcells 68 (Strings_Builder.cg id3_3 (some tk3_4) y20_id3_3)))).set tk4_6 (some (.tok 1 x32.2.Fbuf.l.length (some 5)))).set id4_5 (some (.tcells 68 (Strings_Builder.cg id4_5 (some tk4_6) x32.2))))) (by first | rfl | (rw [Heap.set_set]; rfl) | (funext n_; simp only [Heap.set]; (repeat' split) <;> first | rfl | (exfalso; simp_all; done) | (simp_all; done))) ?_
       refine nil ?_
       exact hK25 _ (y20_id3_3, x32.2) Weak.toA hE
      refine seqK fun K33 hK33 => ?_
      refine region ?_
      obtain ⟨x34, gx34, hE⟩ := bindO_some hE
      refine sH (callH rfl rfl (Z16_walk gx34 _ hpG hpG)) rfl ?_
      refine AOps.heq (h' := ((((H.set tk3_4 (some (.tok 1 x34.2.Fbuf.l.length (some 5)))).set id3_3 (some (.tcells 68 (Strings_Builder.cg id3_3 (some tk3_4) x34.2)))).set tk4_6 (some (.tok 1 y21_id4_5.Fbuf.l.length (some 5)))).set id4_5 (some (.tcells 68 (Strings_Builder.cg id4_5 (some tk4_6) y21_id4_5))))) (by first | rfl | (rw [Heap.set_set]; rfl) | (funext n_; simp only [Heap.set]; (repeat' split) <;> first | rfl | (exfalso; simp_all; done) | (simp_all; done))) ?_
      refine nil ?_
      refine hK33 _ ?_
      clear hK33 K33
      refine region ?_
      obtain ⟨x35, gx35, hE⟩ := bindO_some hE
      refine sH (callH rfl rfl (Z16_walk gx35 _ hpG hpG)) rfl ?_
      refine AOps.heq (h' := ((((H.set tk3_4 (some (.tok 1 x34.2.Fbuf.l.length (some 5)))).set id3_3 (some (.tcells 68 (Strings_Builder.cg id3_3 (some tk3_4) x34.2)))).set tk4_6 (some (.tok 1 x35.2.Fbuf.l.length (some 5)))).set id4_5 (some (.tcells 68 (Strings_Builder.cg id4_5 (some tk4_6) x35.2))))) (by first | rfl | (rw [Heap.set_set]; rfl) | (funext n_; simp only [Heap.set]; (repeat' split) <;> first | rfl | (exfalso; simp_all; done) | (simp_all; done))) ?_
      refine nil ?_
      exact hK25 _ (x34.2, x35.2) Weak.toA hE
     rintro ⟨y26_id3_3, y27_id4_5⟩ hE
     try dsimp only at hE
     unfold Z43_j25 at hE
     refine region ?_
     refine s0 moveA rfl ?_
     obtain ⟨x28, gx28, hE⟩ := bindO_some hE
     refine s0 (subM rfl rfl gx28) rfl ?_
     refine s0 assignA rfl ?_
     refine nil ?_
     exact hK18 _ (n18, x28, y26_id3_3, y27_id4_5) Weak.toA hE (Nat.lt_succ_self _)
    refine AWp.exit ?_
    exact hK7 _ (y20_id3_3, y21_id4_5) Weak.toA hE
 rintro ⟨y8_id3_3, y9_id4_5⟩ hE
 try dsimp only at hE
 unfold Z43_j7 at hE
 refine seqK fun K10 hK10 => ?_
 refine AWp.draw rfl ?_
 obtain ⟨x11, gx11, hE⟩ := bindO_some hE
 refine DOps.sH (callH rfl rfl (Z15_walk gx11 _ hpG hpG)) rfl ?_
 refine DOps.heq (h' := ((H.set tk4_6 (some (.tok 1 y9_id4_5.Fbuf.l.length (some 5)))).set id4_5 (some (.tcells 68 (Strings_Builder.cg id4_5 (some tk4_6) y9_id4_5))))) (by first | rfl | (rw [Heap.set_set]; rfl) | (funext n_; simp only [Heap.set]; (repeat' split) <;> first | rfl | (exfalso; simp_all; done) | (simp_all; done))) ?_
 refine DOps.s0 (fieldVA (TK rfl) rfl rfl (TK rfl) rfl rfl) rfl ?_
 refine DOps.s0 (loadV (TK rfl) rfl rfl rfl) rfl ?_
 obtain ⟨x12, gx12, hE⟩ := bindO_some hE
 refine DOps.s0 (catM rfl rfl gx12) rfl ?_
 obtain ⟨x13, gx13, hE⟩ := bindO_some hE
 refine DOps.sH (callH rfl rfl (Z15_walk gx13 _ hpG hpG)) rfl ?_
 refine DOps.heq (h' := H) (by first | rfl | (rw [Heap.set_set]; rfl) | (funext n_; simp only [Heap.set]; (repeat' split) <;> first | rfl | (exfalso; simp_all; done) | (simp_all; done))) ?_
 obtain ⟨x14, gx14, hE⟩ := bindO_some hE
 refine DOps.s0 (catM rfl rfl gx14) rfl ?_
 refine DOps.s0 assignA rfl ?_
 refine DOps.nil (by decide +kernel) ?_
 refine hK10 _ ?_
 clear hK10 K10
 refine AWp.ret ?_
 repeat (first | refine xBlock_ret ?_ | refine xThen_ret ?_)
 obtain rfl := Option.some.inj hE
 refine retQ.retF H rfl ⟨rfl, rfl⟩ ?_
 exact (fun _ _ h => h)
def Tryd.lay53_ren : Go.Shelf.Ren := ⟨fun | 153 => 53 | 152 => 80 | 226 => 81 | 227 => 82 | 228 => 83 | 137 => 89 | 119 => 96 | 224 => 97 | 225 => 98 | 217 => 102 | 266 => 110 | n => n, fun | 9 => 9 | 3 => 3 | 4 => 4 | 5 => 5 | 21 => 21 | 117 => 95 | 116 => 94 | 0 => 0 | 46 => 86 | 124 => 107 | n => n, fun | n => n⟩
theorem Tryd.lay53 : Go.Proofs.Lays.n153 Tryd.prog Tryd.lay53_ren := {
 mixed := by kernel_rfl
 f119 := Tryd.func96.trans (congrArg some (by kernel_rfl))
 f137 := Tryd.func89.trans (congrArg some (by kernel_rfl))
 f152 := Tryd.func80.trans (congrArg some (by kernel_rfl))
 f153 := Tryd.func53.trans (congrArg some (by kernel_rfl))
 f217 := Tryd.func102.trans (congrArg some (by kernel_rfl))
 f224 := Tryd.func97.trans (congrArg some (by kernel_rfl))
 f225 := Tryd.func98.trans (congrArg some (by kernel_rfl))
 f226 := Tryd.func81.trans (congrArg some (by kernel_rfl))
 f227 := Tryd.func82.trans (congrArg some (by kernel_rfl))
 f228 := Tryd.func83.trans (congrArg some (by kernel_rfl))
 f266 := Tryd.func110.trans (congrArg some (by kernel_rfl))
 t0 := Tryd.underlying0
 a0 := Tryd.isAgg0
 z0 := Tryd.sizeOf0
 v0 := Tryd.zeroValue0
 t3 := Tryd.underlying3
 a3 := Tryd.isAgg3
 z3 := Tryd.sizeOf3
 v3 := Tryd.zeroValue3
 t4 := Tryd.underlying4
 a4 := Tryd.isAgg4
 z4 := Tryd.sizeOf4
 v4 := Tryd.zeroValue4
 t5 := Tryd.underlying5
 a5 := Tryd.isAgg5
 z5 := Tryd.sizeOf5
 v5 := Tryd.zeroValue5
 t9 := Tryd.underlying9
 a9 := Tryd.isAgg9
 z9 := Tryd.sizeOf9
 v9 := Tryd.zeroValue9
 t21 := Tryd.underlying21
 a21 := Tryd.isAgg21
 z21 := Tryd.sizeOf21
 v21 := Tryd.zeroValue21
 t46 := Tryd.underlying86
 a46 := Tryd.isAgg86
 z46 := Tryd.sizeOf86
 v46 := Tryd.zeroValue86
 t116 := Tryd.underlying94
 a116 := Tryd.isAgg94
 z116 := Tryd.sizeOf94
 t117 := Tryd.underlying95
 a117 := Tryd.isAgg95
 z117 := Tryd.sizeOf95
 v117 := Tryd.zeroValue95
 t124 := Tryd.underlying107
 a124 := Tryd.isAgg107
 z124 := Tryd.sizeOf107
 v124 := Tryd.zeroValue107 }
def Z20 (s c : Bs) : Option Int := idxAnyC s c
theorem Z20_walk {a0 a1 : Bs} {r : Int} (hE : Z20 a0 a1 = some r) (H : Heap) : ACalls Tryd.prog 53 [.d (.str a0), .d (.str a1)] H fun v h' => v = .a (.d (.int .i64 r)) ∧ h' = H := idxAny_calls Tryd.lay53 (by kernel_rfl) hE rfl
def Z32_j2  (s1_3 : Int) : Option Int := some s1_3
def Z32_j13 (a0 : Bs) (s1_6 : Int) (x12 : UInt8) (k_next_5 : Int → Option Int) (s14_14 : Bool) : Option Int := bif s14_14 then ((addC s1_6 (1 : Int)).bind fun x16 => k_next_5 x16) else (bif (decide (((x12.toNat : Nat) : Int) = (35 : Int))) then ((cutC a0 (some s1_6) none).bind fun x20 => (Z20 x20 ([10, 13] : Bs)).bind fun x21 => bif (decide ((0 : Int) ≤ x21)) then ((addC s1_6 x21).bind fun x24 => k_next_5 x24) else (k_next_5 ((a0.length : Nat) : Int))) else (some s1_6))
def Z32_l5 (a0 : Bs)  : Nat → Int → Option Int
 | 0, _ => none
 | n5 + 1, s1_6 => bif (decide (s1_6 < ((a0.length : Nat) : Int))) then ((idxC a0 s1_6).bind fun x12 => bif (decide (((x12.toNat : Nat) : Int) = (32 : Int))) then (Z32_j13 a0 s1_6 x12 ((Z32_l5 a0 n5)) (decide (((x12.toNat : Nat) : Int) = (32 : Int)))) else (bif (decide (((x12.toNat : Nat) : Int) = (9 : Int))) then (Z32_j13 a0 s1_6 x12 ((Z32_l5 a0 n5)) (decide (((x12.toNat : Nat) : Int) = (9 : Int)))) else (bif (decide (((x12.toNat : Nat) : Int) = (10 : Int))) then (Z32_j13 a0 s1_6 x12 ((Z32_l5 a0 n5)) (decide (((x12.toNat : Nat) : Int) = (10 : Int)))) else (bif (decide (((x12.toNat : Nat) : Int) = (13 : Int))) then (Z32_j13 a0 s1_6 x12 ((Z32_l5 a0 n5)) (decide (((x12.toNat : Nat) : Int) = (13 : Int)))) else (Z32_j13 a0 s1_6 x12 ((Z32_l5 a0 n5)) (decide (((x12.toNat : Nat) : Int) = (44 : Int)))))))) else (Z32_j2   s1_6)
def Z32 (a0 : Bs) (a1 : Int) : Option Int := Z32_l5 a0 F0 a1
theorem Z32_walk {a0 : Bs} {a1 : Int}   {r : Int} (hE : Z32 a0 a1 = some r) (H : Heap)  : ACalls Tryd.prog 30 [.d (.str a0), .d (.int .i64 a1)] H fun v h' => v = .a (.d (.int .i64 r)) ∧ h' = H := by
 unfold Z32 at hE
 refine ACalls.of_wp (fn := Tryd.f30) (c := _) Tryd.tab_ok (fun _ _ => Tryd.call30 _ _) Tryd.func30 rfl (n := 36) rfl (rs := [.tmp 4]) rfl rfl ?_
 refine seqK fun K1 hK1 => ?_
 refine region ?_
 refine s0 assignA rfl ?_
 refine nil ?_
 refine hK1 _ ?_
 clear hK1 K1
 refine seqJH KeepsT.nil (fun (z : Int) => [(1, .a (.d (.int .i64 z)))]) (fun z => H) (fun z => Z32_j2 z = some r) ?_ ?_
 ·intro K2 hK2
  refine block ?_
  refine loopH (KeepsT.A (k := 0) KeepsT.nil) (fun (z : Nat × Int) => [(1, .a (.d (.int .i64 z.2)))]) (fun z => H) (fun z => z.1) (fun z => Z32_l5 a0 z.1 z.2 = some r) (F0, a1) hE Weak.toA ?_
  rintro ⟨n5, s1_6⟩ hE K5 hK5
  try dsimp only at hE
  cases n5 with
  | zero => cases hE
  | succ n5 =>
    rw [Z32_l5] at hE
    refine seqK fun K7 hK7 => ?_
    refine seqK fun K8 hK8 => ?_
    refine region ?_
    refine s0 moveA rfl ?_
    refine s0 moveA rfl ?_
    refine sLenS (TK rfl) rfl rfl rfl rfl fun hL9 => ?_
    refine s0 (binI rfl rfl rfl) rfl ?_
    refine nil ?_
    refine hK8 _ ?_
    clear hK8 K8
    refine condE hE rfl (fun hc10 hE => ?_) (fun hc10 hE => ?_)
    ·refine AWp.skip ?_
     refine hK7 _ ?_
     clear hK7 K7
     refine block ?_
     refine seqK fun K11 hK11 => ?_
     refine region ?_
     refine s0 moveA rfl ?_
     refine s0 moveA rfl ?_
     obtain ⟨x12, gx12, hE⟩ := bindO_some hE
     refine s0 (idxS (TK rfl) rfl rfl rfl gx12) rfl ?_
     refine nil ?_
     refine hK11 _ ?_
     clear hK11 K11
     refine block ?_
     refine seqJH (KeepsT.A (k := 0) (KeepsT.A (k := 1) (KeepsT.A (k := 12) KeepsT.nil))) (fun (z : Bool) => [(14, .a (.d (.bool z)))]) (fun z => H) (fun z => Z32_j13 a0 s1_6 x12 ((Z32_l5 a0 n5)) z = some r) ?_ ?_
     ·intro K13 hK13
      refine seqK fun K27 hK27 => ?_
      refine region ?_
      refine s0 (binI rfl rfl rfl) rfl ?_
      refine s0 assignA rfl ?_
      refine nil ?_
      refine hK27 _ ?_
      clear hK27 K27
      refine condE hE rfl (fun hc28 hE => ?_) (fun hc28 hE => ?_)
      ·refine AWp.skip ?_
       exact hK13 _ (decide (((x12.toNat : Nat) : Int) = (32 : Int))) Weak.toA hE
      refine seqK fun K29 hK29 => ?_
      refine region ?_
      refine s0 (binI rfl rfl rfl) rfl ?_
      refine s0 assignA rfl ?_
      refine nil ?_
      refine hK29 _ ?_
      clear hK29 K29
      refine condE hE rfl (fun hc30 hE => ?_) (fun hc30 hE => ?_)
      ·refine AWp.skip ?_
       exact hK13 _ (decide (((x12.toNat : Nat) : Int) = (9 : Int))) Weak.toA hE
      refine seqK fun K31 hK31 => ?_
      refine region ?_
      refine s0 (binI rfl rfl rfl) rfl ?_
      refine s0 assignA rfl ?_
      refine nil ?_
      refine hK31 _ ?_
      clear hK31 K31
      refine condE hE rfl (fun hc32 hE => ?_) (fun hc32 hE => ?_)
      ·refine AWp.skip ?_
       exact hK13 _ (decide (((x12.toNat : Nat) : Int) = (10 : Int))) Weak.toA hE
      refine seqK fun K33 hK33 => ?_
      refine region ?_
      refine s0 (binI rfl rfl rfl) rfl ?_
      refine s0 assignA rfl ?_
      refine nil ?_
      refine hK33 _ ?_
      clear hK33 K33
      refine condE hE rfl (fun hc34 hE => ?_) (fun hc34 hE => ?_)
      ·refine AWp.skip ?_
       exact hK13 _ (decide (((x12.toNat : Nat) : Int) = (13 : Int))) Weak.toA hE
      refine region ?_
      refine s0 (binI rfl rfl rfl) rfl ?_
      refine s0 assignA rfl ?_
      refine nil ?_
      exact hK13 _ (decide (((x12.toNat : Nat) : Int) = (44 : Int))) Weak.toA hE
     rintro s14_14 hE
     try dsimp only at hE
     unfold Z32_j13 at hE
     refine condE hE rfl (fun hc15 hE => ?_) (fun hc15 hE => ?_)
     ·refine region ?_
      refine s0 moveA rfl ?_
      obtain ⟨x16, gx16, hE⟩ := bindO_some hE
      refine s0 (addM rfl rfl gx16) rfl ?_
      refine s0 assignA rfl ?_
      refine nil ?_
      exact hK5 _ (n5, x16) Weak.toA hE (Nat.lt_succ_self _)
     refine seqK fun K17 hK17 => ?_
     refine region ?_
     refine s0 (binI rfl rfl rfl) rfl ?_
     refine s0 assignA rfl ?_
     refine nil ?_
     refine hK17 _ ?_
     clear hK17 K17
     refine condE hE rfl (fun hc18 hE => ?_) (fun hc18 hE => ?_)
     ·refine seqK fun K19 hK19 => ?_
      refine region ?_
      refine s0 moveA rfl ?_
      refine s0 moveA rfl ?_
      obtain ⟨x20, gx20, hE⟩ := bindO_some hE
      refine s0 (cutM (l := (some s1_6)) (r := none) (TK rfl) rfl rfl rfl trivial (by simp) gx20) rfl ?_
      obtain ⟨x21, gx21, hE⟩ := bindO_some hE
      refine s0 (callP rfl rfl (fun H => Z20_walk gx21 H)) rfl ?_
      refine s0 assignA rfl ?_
      refine nil ?_
      refine hK19 _ ?_
      clear hK19 K19
      refine seqK fun K22 hK22 => ?_
      refine region ?_
      refine s0 moveA rfl ?_
      refine s0 (binI rfl rfl rfl) rfl ?_
      refine nil ?_
      refine hK22 _ ?_
      clear hK22 K22
      refine condE hE rfl (fun hc23 hE => ?_) (fun hc23 hE => ?_)
      ·refine region ?_
       refine s0 moveA rfl ?_
       refine s0 moveA rfl ?_
       obtain ⟨x24, gx24, hE⟩ := bindO_some hE
       refine s0 (addM rfl rfl gx24) rfl ?_
       refine s0 assignA rfl ?_
       refine nil ?_
       exact hK5 _ (n5, x24) Weak.toA hE (Nat.lt_succ_self _)
      refine region ?_
      refine s0 moveA rfl ?_
      refine sLenS (TK rfl) rfl rfl rfl rfl fun hL25 => ?_
      refine s0 assignA rfl ?_
      refine nil ?_
      exact hK5 _ (n5, ((a0.length : Nat) : Int)) Weak.toA hE (Nat.lt_succ_self _)
     refine seqK fun K26 hK26 => ?_
     refine region ?_
     refine s0 moveA rfl ?_
     refine s0 assignA rfl ?_
     refine nil ?_
     refine hK26 _ ?_
     clear hK26 K26
     refine AWp.ret ?_
     repeat (first | refine xBlock_ret ?_ | refine xThen_ret ?_)
     obtain rfl := Option.some.inj hE
     refine retQ.retF H rfl ⟨rfl, rfl⟩ ?_
     exact (fun _ _ h => h)
    refine AWp.exit ?_
    exact hK2 _ s1_6 Weak.toA hE
 rintro s1_3 hE
 try dsimp only at hE
 unfold Z32_j2 at hE
 refine seqK fun K4 hK4 => ?_
 refine region ?_
 refine s0 moveA rfl ?_
 refine s0 assignA rfl ?_
 refine nil ?_
 refine hK4 _ ?_
 clear hK4 K4
 refine AWp.ret ?_
 repeat (first | refine xBlock_ret ?_ | refine xThen_ret ?_)
 obtain rfl := Option.some.inj hE
 refine retQ.retF H rfl ⟨rfl, rfl⟩ ?_
 exact (fun _ _ h => h)
def Tryd.lay80_ren : Go.Shelf.Ren := ⟨fun | 152 => 80 | 137 => 89 | 119 => 96 | 224 => 97 | 225 => 98 | 217 => 102 | 266 => 110 | n => n, fun | 9 => 9 | 21 => 21 | 3 => 3 | 4 => 4 | 5 => 5 | 0 => 0 | 46 => 86 | n => n, fun | n => n⟩
theorem Tryd.lay80 : Go.Proofs.Lays.n152 Tryd.prog Tryd.lay80_ren := {
 mixed := by kernel_rfl
 f119 := Tryd.func96.trans (congrArg some (by kernel_rfl))
 f137 := Tryd.func89.trans (congrArg some (by kernel_rfl))
 f152 := Tryd.func80.trans (congrArg some (by kernel_rfl))
 f217 := Tryd.func102.trans (congrArg some (by kernel_rfl))
 f224 := Tryd.func97.trans (congrArg some (by kernel_rfl))
 f225 := Tryd.func98.trans (congrArg some (by kernel_rfl))
 f266 := Tryd.func110.trans (congrArg some (by kernel_rfl))
 t0 := Tryd.underlying0
 a0 := Tryd.isAgg0
 z0 := Tryd.sizeOf0
 v0 := Tryd.zeroValue0
 t3 := Tryd.underlying3
 a3 := Tryd.isAgg3
 z3 := Tryd.sizeOf3
 v3 := Tryd.zeroValue3
 t4 := Tryd.underlying4
 a4 := Tryd.isAgg4
 z4 := Tryd.sizeOf4
 v4 := Tryd.zeroValue4
 t5 := Tryd.underlying5
 a5 := Tryd.isAgg5
 z5 := Tryd.sizeOf5
 v5 := Tryd.zeroValue5
 t9 := Tryd.underlying9
 a9 := Tryd.isAgg9
 z9 := Tryd.sizeOf9
 v9 := Tryd.zeroValue9
 t21 := Tryd.underlying21
 a21 := Tryd.isAgg21
 z21 := Tryd.sizeOf21
 v21 := Tryd.zeroValue21
 t46 := Tryd.underlying86
 a46 := Tryd.isAgg86
 z46 := Tryd.sizeOf86
 v46 := Tryd.zeroValue86 }
def Z22 (s : Bs) (r : Int) : Option Int := idxRuneC s r
theorem Z22_walk {a0 : Bs} {a1 : Int} {r : Int} (hE : Z22 a0 a1 = some r) (H : Heap) : ACalls Tryd.prog 80 [.d (.str a0), .d (.int .i32 a1)] H fun v h' => v = .a (.d (.int .i64 r)) ∧ h' = H := idxRune_calls Tryd.lay80 hE rfl
def Z18 (a0 : Bs) (a1 : Int) : Option Bool := (Z22 a0 a1).bind fun x3 => some (decide ((0 : Int) ≤ x3))
theorem Z18_walk {a0 : Bs} {a1 : Int}   {r : Bool} (hE : Z18 a0 a1 = some r) (H : Heap)  : ACalls Tryd.prog 54 [.d (.str a0), .d (.int .i32 a1)] H fun v h' => v = .a (.d (.bool r)) ∧ h' = H := by
 unfold Z18 at hE
 refine ACalls.of_wp (fn := Tryd.f54) (c := _) Tryd.tab_ok (fun _ _ => Tryd.call54 _ _) Tryd.func54 rfl (n := 9) rfl (rs := [.tmp 4]) rfl rfl ?_
 refine seqK fun K1 hK1 => ?_
 refine region ?_
 refine s0 assignA rfl ?_
 refine nil ?_
 refine hK1 _ ?_
 clear hK1 K1
 refine seqK fun K2 hK2 => ?_
 refine region ?_
 refine s0 moveA rfl ?_
 refine s0 moveA rfl ?_
 obtain ⟨x3, gx3, hE⟩ := bindO_some hE
 refine s0 (callP rfl rfl (fun H => Z22_walk gx3 H)) rfl ?_
 refine s0 (binI rfl rfl rfl) rfl ?_
 refine s0 assignA rfl ?_
 refine nil ?_
 refine hK2 _ ?_
 clear hK2 K2
 refine AWp.ret ?_
 repeat (first | refine xBlock_ret ?_ | refine xThen_ret ?_)
 obtain rfl := Option.some.inj hE
 refine retQ.retF H rfl ⟨rfl, rfl⟩ ?_
 exact (fun _ _ h => h)
def Z0 (a0 : Bs) (a1 : Bs) : Option Bool := guardO ((decide (((a1.length : Nat) : Int) ≤ ((a0.length : Nat) : Int)))) (cutC a0 none (some ((a1.length : Nat) : Int))) ([] : Bs) fun x5 => some ((decide (((a1.length : Nat) : Int) ≤ ((a0.length : Nat) : Int))) && ((x5 == a1)))
theorem Z0_walk {a0 : Bs} {a1 : Bs}   {r : Bool} (hE : Z0 a0 a1 = some r) (H : Heap)  : ACalls Tryd.prog 84 [.d (.str a0), .d (.str a1)] H fun v h' => v = .a (.d (.bool r)) ∧ h' = H := by
 unfold Z0 at hE
 refine ACalls.of_wp (fn := Tryd.f84) (c := _) Tryd.tab_ok (fun _ _ => Tryd.call84 _ _) Tryd.func84 rfl (n := 18) rfl (rs := [.tmp 4]) rfl rfl ?_
 refine seqK fun K1 hK1 => ?_
 refine region ?_
 refine s0 assignA rfl ?_
 refine nil ?_
 refine hK1 _ ?_
 clear hK1 K1
 refine seqK fun K2 hK2 => ?_
 refine region ?_
 refine s0 moveA rfl ?_
 refine sLenS (TK rfl) rfl rfl rfl rfl fun hL3 => ?_
 refine s0 moveA rfl ?_
 refine sLenS (TK rfl) rfl rfl rfl rfl fun hL4 => ?_
 refine s0 (binI rfl rfl rfl) rfl ?_
 refine s0 moveA rfl ?_
 refine gC rfl rfl (fun hC => moveA) rfl ?_
 refine gC rfl rfl (fun hC => moveA) rfl ?_
 refine gC rfl rfl (fun hC => ungdA (k := 12) rfl (lenS (TK rfl) rfl rfl rfl)) rfl ?_
 obtain ⟨x5, gx5, hE⟩ := guardO_some hE
 refine gC rfl rfl (fun hC => ungdA (k := 11) rfl (ungdA (k := 13) rfl (cutM (l := none) (r := (some ((a1.length : Nat) : Int))) (TK rfl) rfl rfl trivial rfl (by simp) (gx5 hC)))) rfl ?_
 refine gC rfl rfl (fun hC => moveA) rfl ?_
 refine gC rfl rfl (fun hC => ungdA (k := 14) rfl (ungdA (k := 15) rfl (binS rfl rfl rfl))) rfl ?_
 refine s0 (pickAndA rfl rfl rfl) rfl ?_
 refine s0 assignA rfl ?_
 refine nil ?_
 refine hK2 _ ?_
 clear hK2 K2
 refine AWp.ret ?_
 repeat (first | refine xBlock_ret ?_ | refine xThen_ret ?_)
 obtain rfl := Option.some.inj hE
 refine retQ.retF H rfl ⟨rfl, rfl⟩ ?_
 exact (fun _ _ h => h)
def Z19 (a0 : Bs) (a1 : Bs) : Option Bool := (Z0 a0 a1).bind fun x3 => some x3
theorem Z19_walk {a0 : Bs} {a1 : Bs}   {r : Bool} (hE : Z19 a0 a1 = some r) (H : Heap)  : ACalls Tryd.prog 55 [.d (.str a0), .d (.str a1)] H fun v h' => v = .a (.d (.bool r)) ∧ h' = H := by
 unfold Z19 at hE
 refine ACalls.of_wp (fn := Tryd.f55) (c := _) Tryd.tab_ok (fun _ _ => Tryd.call55 _ _) Tryd.func55 rfl (n := 8) rfl (rs := [.tmp 4]) rfl rfl ?_
 refine seqK fun K1 hK1 => ?_
 refine region ?_
 refine s0 assignA rfl ?_
 refine nil ?_
 refine hK1 _ ?_
 clear hK1 K1
 refine seqK fun K2 hK2 => ?_
 refine region ?_
 refine s0 moveA rfl ?_
 refine s0 moveA rfl ?_
 obtain ⟨x3, gx3, hE⟩ := bindO_some hE
 refine s0 (callP rfl rfl (fun H => Z0_walk gx3 H)) rfl ?_
 refine s0 assignA rfl ?_
 refine nil ?_
 refine hK2 _ ?_
 clear hK2 K2
 refine AWp.ret ?_
 repeat (first | refine xBlock_ret ?_ | refine xThen_ret ?_)
 obtain rfl := Option.some.inj hE
 refine retQ.retF H rfl ⟨rfl, rfl⟩ ?_
 exact (fun _ _ h => h)
def Z33_j2  (s1_3 : Int) : Option Int := some s1_3
def Z33_l5 (a0 : Bs) (a2 : (Int → Option Bool))  : Nat → Int → Option Int
 | 0, _ => none
 | n5 + 1, s1_6 => guardO ((decide (s1_6 < ((a0.length : Nat) : Int)))) (idxC a0 s1_6) (0 : UInt8) fun x10 => guardO ((decide (s1_6 < ((a0.length : Nat) : Int)))) (a2 (IntKind.wrap .i32 ((x10.toNat : Nat) : Int))) false fun x11 => bif ((decide (s1_6 < ((a0.length : Nat) : Int))) && x11) then ((addC s1_6 (1 : Int)).bind fun x13 => (Z33_l5 a0 a2 n5) x13) else (Z33_j2   s1_6)
def Z33 (a0 : Bs) (a1 : Int) (a2 : (Int → Option Bool)) : Option Int := Z33_l5 a0 a2 F0 a1
theorem Z33_walk {a0 : Bs} {a1 : Int} {a2 : (Int → Option Bool)} {cl2 : List D} {k2 : Nat} {r : Int} (hE : Z33 a0 a1 a2 = some r) (H : Heap) (hf2 : ∀ x0 r, a2 x0 = some r → ∀ H, ACalls Tryd.prog k2 ([.d (.int .i32 x0)] ++ cl2.map A.d) H fun v h' => v = .a (.d (.bool r)) ∧ h' = H) : ACalls Tryd.prog 56 [.d (.str a0), .d (.int .i64 a1), .d (.func k2 cl2)] H fun v h' => v = .a (.d (.int .i64 r)) ∧ h' = H := by
 unfold Z33 at hE
 refine ACalls.of_wp (fn := Tryd.f56) (c := _) Tryd.tab_ok (fun _ _ => Tryd.call56 _ _) Tryd.func56 rfl (n := 22) rfl (rs := [.tmp 6]) rfl rfl ?_
 refine seqK fun K1 hK1 => ?_
 refine region ?_
 refine s0 assignA rfl ?_
 refine nil ?_
 refine hK1 _ ?_
 clear hK1 K1
 refine seqJH KeepsT.nil (fun (z : Int) => [(1, .a (.d (.int .i64 z)))]) (fun z => H) (fun z => Z33_j2 z = some r) ?_ ?_
 ·intro K2 hK2
  refine block ?_
  refine loopH (KeepsT.A (k := 0) (KeepsT.A (k := 2) KeepsT.nil)) (fun (z : Nat × Int) => [(1, .a (.d (.int .i64 z.2)))]) (fun z => H) (fun z => z.1) (fun z => Z33_l5 a0 a2 z.1 z.2 = some r) (F0, a1) hE Weak.toA ?_
  rintro ⟨n5, s1_6⟩ hE K5 hK5
  try dsimp only at hE
  cases n5 with
  | zero => cases hE
  | succ n5 =>
    rw [Z33_l5] at hE
    refine seqK fun K7 hK7 => ?_
    refine seqK fun K8 hK8 => ?_
    refine region ?_
    refine s0 moveA rfl ?_
    refine s0 moveA rfl ?_
    refine sLenS (TK rfl) rfl rfl rfl rfl fun hL9 => ?_
    refine s0 (binI rfl rfl rfl) rfl ?_
    refine s0 moveA rfl ?_
    refine gC rfl rfl (fun hC => moveA) rfl ?_
    refine gC rfl rfl (fun hC => moveA) rfl ?_
    refine gC rfl rfl (fun hC => moveA) rfl ?_
    obtain ⟨x10, gx10, hE⟩ := guardO_some hE
    refine gC rfl rfl (fun hC => ungdA (k := 13) rfl (ungdA (k := 14) rfl (idxS (TK rfl) rfl rfl rfl (gx10 hC)))) rfl ?_
    refine gC rfl rfl (fun hC => ungdA (k := 15) rfl (convI (TK rfl) (TK rfl) rfl rfl)) rfl ?_
    obtain ⟨x11, gx11, hE⟩ := guardO_some hE
    refine gC rfl rfl (fun hC => ungdA (k := 12) rfl (ungdA (k := 16) rfl (callP rfl rfl (hf2 _ _ (gx11 hC))))) rfl ?_
    refine s0 (pickAndA rfl rfl rfl) rfl ?_
    refine nil ?_
    refine hK8 _ ?_
    clear hK8 K8
    refine condE hE rfl (fun hc12 hE => ?_) (fun hc12 hE => ?_)
    ·refine AWp.skip ?_
     refine hK7 _ ?_
     clear hK7 K7
     refine block ?_
     refine region ?_
     refine s0 moveA rfl ?_
     obtain ⟨x13, gx13, hE⟩ := bindO_some hE
     refine s0 (addM rfl rfl gx13) rfl ?_
     refine s0 assignA rfl ?_
     refine nil ?_
     exact hK5 _ (n5, x13) Weak.toA hE (Nat.lt_succ_self _)
    refine AWp.exit ?_
    exact hK2 _ s1_6 Weak.toA hE
 rintro s1_3 hE
 try dsimp only at hE
 unfold Z33_j2 at hE
 refine seqK fun K4 hK4 => ?_
 refine region ?_
 refine s0 moveA rfl ?_
 refine s0 assignA rfl ?_
 refine nil ?_
 refine hK4 _ ?_
 clear hK4 K4
 refine AWp.ret ?_
 repeat (first | refine xBlock_ret ?_ | refine xThen_ret ?_)
 obtain rfl := Option.some.inj hE
 refine retQ.retF H rfl ⟨rfl, rfl⟩ ?_
 exact (fun _ _ h => h)
def Z29 (a0 : Int) : Option Bool := some (((((decide ((97 : Int) ≤ a0)) && (decide (a0 ≤ (122 : Int)))) || ((decide ((65 : Int) ≤ a0)) && (decide (a0 ≤ (90 : Int))))) || ((decide ((48 : Int) ≤ a0)) && (decide (a0 ≤ (57 : Int))))) || (decide (a0 = (95 : Int))))
theorem Z29_walk {a0 : Int}   {r : Bool} (hE : Z29 a0 = some r) (H : Heap)  : ACalls Tryd.prog 57 [.d (.int .i32 a0)] H fun v h' => v = .a (.d (.bool r)) ∧ h' = H := by
 unfold Z29 at hE
 refine ACalls.of_wp (fn := Tryd.f57) (c := _) Tryd.tab_ok (fun _ _ => Tryd.call57 _ _) Tryd.func57 rfl (n := 29) rfl (rs := [.tmp 2]) rfl rfl ?_
 refine seqK fun K1 hK1 => ?_
 refine region ?_
 refine s0 assignA rfl ?_
 refine nil ?_
 refine hK1 _ ?_
 clear hK1 K1
 refine seqK fun K2 hK2 => ?_
 refine region ?_
 refine s0 moveA rfl ?_
 refine s0 (binI rfl rfl rfl) rfl ?_
 refine s0 moveA rfl ?_
 refine gC rfl rfl (fun hC => moveA) rfl ?_
 refine gC rfl rfl (fun hC => ungdA (k := 6) rfl (binI rfl rfl rfl)) rfl ?_
 refine s0 (pickAndA rfl rfl rfl) rfl ?_
 refine s0 moveA rfl ?_
 refine gC rfl rfl (fun hC => moveA) rfl ?_
 refine gC rfl rfl (fun hC => ungdA (k := 10) rfl (binI rfl rfl rfl)) rfl ?_
 refine gC rfl rfl (fun hC => ungdA (k := 11) rfl moveA) rfl ?_
 refine gC rfl rfl (fun hC => moveA) rfl ?_
 refine gC rfl rfl (fun hC => ungdA (k := 13) rfl (binI rfl rfl rfl)) rfl ?_
 refine gC rfl rfl (fun hC => ungdA (k := 12) rfl (pickAndA rfl rfl rfl)) rfl ?_
 refine s0 (pickOrA rfl rfl rfl) rfl ?_
 refine s0 moveA rfl ?_
 refine gC rfl rfl (fun hC => moveA) rfl ?_
 refine gC rfl rfl (fun hC => ungdA (k := 18) rfl (binI rfl rfl rfl)) rfl ?_
 refine gC rfl rfl (fun hC => ungdA (k := 19) rfl moveA) rfl ?_
 refine gC rfl rfl (fun hC => moveA) rfl ?_
 refine gC rfl rfl (fun hC => ungdA (k := 21) rfl (binI rfl rfl rfl)) rfl ?_
 refine gC rfl rfl (fun hC => ungdA (k := 20) rfl (pickAndA rfl rfl rfl)) rfl ?_
 refine s0 (pickOrA rfl rfl rfl) rfl ?_
 refine s0 moveA rfl ?_
 refine gC rfl rfl (fun hC => moveA) rfl ?_
 refine gC rfl rfl (fun hC => ungdA (k := 26) rfl (binI rfl rfl rfl)) rfl ?_
 refine s0 (pickOrA rfl rfl rfl) rfl ?_
 refine s0 assignA rfl ?_
 refine nil ?_
 refine hK2 _ ?_
 clear hK2 K2
 refine AWp.ret ?_
 repeat (first | refine xBlock_ret ?_ | refine xThen_ret ?_)
 obtain rfl := Option.some.inj hE
 refine retQ.retF H rfl ⟨rfl, rfl⟩ ?_
 exact (fun _ _ h => h)
def Z1 (a0 : Bs) (a1 : Bs) : Option Bs := (Z0 a0 a1).bind fun x4 => bif x4 then ((cutC a0 (some ((a1.length : Nat) : Int)) none).bind fun x8 => some x8) else (some a0)
theorem Z1_walk {a0 : Bs} {a1 : Bs}   {r : Bs} (hE : Z1 a0 a1 = some r) (H : Heap)  : ACalls Tryd.prog 99 [.d (.str a0), .d (.str a1)] H fun v h' => v = .a (.d (.str r)) ∧ h' = H := by
 unfold Z1 at hE
 refine ACalls.of_wp (fn := Tryd.f99) (c := _) Tryd.tab_ok (fun _ _ => Tryd.call99 _ _) Tryd.func99 rfl (n := 13) rfl (rs := [.tmp 4]) rfl rfl ?_
 refine seqK fun K1 hK1 => ?_
 refine region ?_
 refine s0 assignA rfl ?_
 refine nil ?_
 refine hK1 _ ?_
 clear hK1 K1
 refine seqK fun K2 hK2 => ?_
 refine seqK fun K3 hK3 => ?_
 refine region ?_
 refine s0 moveA rfl ?_
 refine s0 moveA rfl ?_
 obtain ⟨x4, gx4, hE⟩ := bindO_some hE
 refine s0 (callP rfl rfl (fun H => Z0_walk gx4 H)) rfl ?_
 refine nil ?_
 refine hK3 _ ?_
 clear hK3 K3
 refine condE hE rfl (fun hc5 hE => ?_) (fun hc5 hE => ?_)
 ·refine seqK fun K6 hK6 => ?_
  refine region ?_
  refine s0 moveA rfl ?_
  refine s0 moveA rfl ?_
  refine sLenS (TK rfl) rfl rfl rfl rfl fun hL7 => ?_
  obtain ⟨x8, gx8, hE⟩ := bindO_some hE
  refine s0 (cutM (l := (some ((a1.length : Nat) : Int))) (r := none) (TK rfl) rfl rfl rfl trivial (by simp) gx8) rfl ?_
  refine s0 assignA rfl ?_
  refine nil ?_
  refine hK6 _ ?_
  clear hK6 K6
  refine AWp.ret ?_
  repeat (first | refine xBlock_ret ?_ | refine xThen_ret ?_)
  obtain rfl := Option.some.inj hE
  refine retQ.retF H rfl ⟨rfl, rfl⟩ ?_
  exact (fun _ _ h => h)
 refine AWp.skip ?_
 refine hK2 _ ?_
 clear hK2 K2
 refine seqK fun K9 hK9 => ?_
 refine region ?_
 refine s0 moveA rfl ?_
 refine s0 assignA rfl ?_
 refine nil ?_
 refine hK9 _ ?_
 clear hK9 K9
 refine AWp.ret ?_
 repeat (first | refine xBlock_ret ?_ | refine xThen_ret ?_)
 obtain rfl := Option.some.inj hE
 refine retQ.retF H rfl ⟨rfl, rfl⟩ ?_
 exact (fun _ _ h => h)
def Z23 (a0 : Bs) (a1 : Bs) : Option Bs := (Z1 a0 a1).bind fun x3 => some x3
theorem Z23_walk {a0 : Bs} {a1 : Bs}   {r : Bs} (hE : Z23 a0 a1 = some r) (H : Heap)  : ACalls Tryd.prog 85 [.d (.str a0), .d (.str a1)] H fun v h' => v = .a (.d (.str r)) ∧ h' = H := by
 unfold Z23 at hE
 refine ACalls.of_wp (fn := Tryd.f85) (c := _) Tryd.tab_ok (fun _ _ => Tryd.call85 _ _) Tryd.func85 rfl (n := 8) rfl (rs := [.tmp 4]) rfl rfl ?_
 refine seqK fun K1 hK1 => ?_
 refine region ?_
 refine s0 assignA rfl ?_
 refine nil ?_
 refine hK1 _ ?_
 clear hK1 K1
 refine seqK fun K2 hK2 => ?_
 refine region ?_
 refine s0 moveA rfl ?_
 refine s0 moveA rfl ?_
 obtain ⟨x3, gx3, hE⟩ := bindO_some hE
 refine s0 (callP rfl rfl (fun H => Z1_walk gx3 H)) rfl ?_
 refine s0 assignA rfl ?_
 refine nil ?_
 refine hK2 _ ?_
 clear hK2 K2
 refine AWp.ret ?_
 repeat (first | refine xBlock_ret ?_ | refine xThen_ret ?_)
 obtain rfl := Option.some.inj hE
 refine retQ.retF H rfl ⟨rfl, rfl⟩ ?_
 exact (fun _ _ h => h)
def Z14 (a0 : Bs) : Option (Int × Unit) := none
theorem Z14_walk {a0 : Bs}   {r : (Int × Unit)} (hE : Z14 a0 = some r) (H : Heap)  : ACalls Tryd.prog 86 [.d (.str a0)] H fun v h' => v = .tup [.d (.int .i64 r.1), .d (.nilIface)] ∧ h' = H := by cases hE
def Z25_j9 (a0 : Bs)   : Option (Int × Int) := (Z14 a0).bind fun x11 => none
def Z25_l16 (a0 : Bs) (x3 : Bs)  : Nat → Nat → Option (Int × Int)
 | 0, _ => none
 | n16 + 1, s29_17 => bif (decide (((s29_17 : Nat) : Int) < ((x3.length : Nat) : Int))) then ((x3[s29_17]?).bind fun x24 => guardO (!(decide (((x24.toNat : Nat) : Int) < (48 : Int)))) (x3[s29_17]?) (0 : UInt8) fun x25 => bif ((decide (((x24.toNat : Nat) : Int) < (48 : Int))) || (decide ((57 : Int) < ((x25.toNat : Nat) : Int)))) then (some ((0 : Int), (3 : Int))) else ((Z25_l16 a0 x3 n16) (s29_17 + 1))) else (Z25_j9 a0  )
def Z25 (a0 : Bs) : Option (Int × Int) := (Z23 a0 ([45] : Bs)).bind fun x3 => guardO (!((x3 == ([] : Bs)))) (x3[0]?) (0 : UInt8) fun x6 => bif (((x3 == ([] : Bs))) || ((decide (((x6.toNat : Nat) : Int) = (48 : Int))) && ((decide ((1 : Int) < ((x3.length : Nat) : Int))) || (decide ((1 : Int) < ((a0.length : Nat) : Int)))))) then (some ((0 : Int), (3 : Int))) else (Z25_l16 a0 x3 (x3.length + 1) 0)
theorem Z25_walk {a0 : Bs}   {r : (Int × Int)} (hE : Z25 a0 = some r) (H : Heap)  : ACalls Tryd.prog 58 [.d (.str a0)] H fun v h' => v = .tup [.d (.int .i64 r.1), .d (.int .i64 r.2)] ∧ h' = H := by
 unfold Z25 at hE
 refine ACalls.of_wp (fn := Tryd.f58) (c := _) Tryd.tab_ok (fun _ _ => Tryd.call58 _ _) Tryd.func58 rfl (n := 51) rfl (rs := [.tmp 2, .tmp 3]) rfl rfl ?_
 refine seqK fun K1 hK1 => ?_
 refine region ?_
 refine s0 assignA rfl ?_
 refine s0 assignA rfl ?_
 refine nil ?_
 refine hK1 _ ?_
 clear hK1 K1
 refine seqK fun K2 hK2 => ?_
 refine region ?_
 refine s0 moveA rfl ?_
 obtain ⟨x3, gx3, hE⟩ := bindO_some hE
 refine s0 (callP rfl rfl (fun H => Z23_walk gx3 H)) rfl ?_
 refine s0 assignA rfl ?_
 refine nil ?_
 refine hK2 _ ?_
 clear hK2 K2
 refine seqK fun K4 hK4 => ?_
 refine seqK fun K5 hK5 => ?_
 refine region ?_
 refine s0 moveA rfl ?_
 refine s0 (binS rfl rfl rfl) rfl ?_
 refine s0 moveA rfl ?_
 refine gC rfl rfl (fun hC => moveA) rfl ?_
 obtain ⟨x6, gx6, hE⟩ := guardO_some hE
 refine gC rfl rfl (fun hC => ungdA (k := 13) rfl (idxSn (n := 0) (TK rfl) rfl rfl rfl (gx6 hC))) rfl ?_
 refine gC rfl rfl (fun hC => ungdA (k := 14) rfl (binI rfl rfl rfl)) rfl ?_
 refine gC rfl rfl (fun hC => ungdA (k := 15) rfl moveA) rfl ?_
 refine gC rfl rfl (fun hC => moveA) rfl ?_
 refine gC rfl rfl (fun hC => ungdA (k := 17) rfl (lenS (TK rfl) rfl rfl rfl)) rfl ?_
 refine gC rfl rfl (fun hC => ungdA (k := 18) rfl (binI rfl rfl rfl)) rfl ?_
 refine gC rfl rfl (fun hC => ungdA (k := 19) rfl moveA) rfl ?_
 refine gC rfl rfl (fun hC => moveA) rfl ?_
 refine gC rfl rfl (fun hC => ungdA (k := 21) rfl (lenS (TK rfl) rfl rfl rfl)) rfl ?_
 refine gC rfl rfl (fun hC => ungdA (k := 22) rfl (binI rfl rfl rfl)) rfl ?_
 refine gC rfl rfl (fun hC => ungdA (k := 20) rfl (pickOrA rfl rfl rfl)) rfl ?_
 refine gC rfl rfl (fun hC => ungdA (k := 16) rfl (pickAndA rfl rfl rfl)) rfl ?_
 refine s0 (pickOrA rfl rfl rfl) rfl ?_
 refine nil ?_
 refine hK5 _ ?_
 clear hK5 K5
 refine condE hE rfl (fun hc7 hE => ?_) (fun hc7 hE => ?_)
 ·refine seqK fun K8 hK8 => ?_
  refine region ?_
  refine s0 assignA rfl ?_
  refine s0 assignA rfl ?_
  refine nil ?_
  refine hK8 _ ?_
  clear hK8 K8
  refine AWp.ret ?_
  repeat (first | refine xBlock_ret ?_ | refine xThen_ret ?_)
  obtain rfl := Option.some.inj hE
  refine retQ.retF H rfl ⟨rfl, rfl⟩ ?_
  exact (fun _ _ h => h)
 refine AWp.skip ?_
 refine hK4 _ ?_
 clear hK4 K4
 refine seqJH (KeepsT.A (k := 0) KeepsT.nil) (fun (z : Unit) => []) (fun z => H) (fun z => Z25_j9 a0  = some r) ?_ ?_
 ·intro K9 hK9
  refine seqK fun K14 hK14 => ?_
  refine region ?_
  refine s0 moveA rfl ?_
  refine sLenS (TK rfl) rfl rfl rfl rfl fun hL15 => ?_
  refine s0 moveA rfl ?_
  refine nil ?_
  refine hK14 _ ?_
  clear hK14 K14
  refine block ?_
  refine loopH (KeepsT.A (k := 0) (KeepsT.A (k := 4) (KeepsT.A (k := 28) KeepsT.nil))) (fun (z : Nat × Nat) => [(29, .a (.d (.int .i64 ((z.2 : Nat) : Int))))]) (fun z => H) (fun z => z.1) (fun z => Z25_l16 a0 x3 z.1 z.2 = some r) ((x3.length + 1), 0) hE Weak.toA ?_
  rintro ⟨n16, s29_17⟩ hE K16 hK16
  try dsimp only at hE
  cases n16 with
  | zero => cases hE
  | succ n16 =>
    rw [Z25_l16] at hE
    refine seqK fun K18 hK18 => ?_
    refine region ?_
    refine s0 (binI rfl rfl rfl) rfl ?_
    refine nil ?_
    refine hK18 _ ?_
    clear hK18 K18
    refine seqK fun K19 hK19 => ?_
    refine condE hE rfl (fun hc20 hE => ?_) (fun hc20 hE => ?_)
    ·try dsimp only at hc20
     have hf20 := of_decide_eq_true hc20
     refine AWp.skip ?_
     refine hK19 _ ?_
     clear hK19 K19
     refine seqK fun K21 hK21 => ?_
     refine block ?_
     refine seqK fun K22 hK22 => ?_
     refine region ?_
     refine s0 moveA rfl ?_
     refine s0 assignA rfl ?_
     refine nil ?_
     refine hK22 _ ?_
     clear hK22 K22
     refine seqK fun K23 hK23 => ?_
     refine region ?_
     refine s0 moveA rfl ?_
     refine s0 moveA rfl ?_
     obtain ⟨x24, gx24, hE⟩ := bindO_some hE
     refine s0 (idxSn (n := s29_17) (TK rfl) rfl rfl rfl gx24) rfl ?_
     refine s0 (binI rfl rfl rfl) rfl ?_
     refine s0 moveA rfl ?_
     refine gC rfl rfl (fun hC => moveA) rfl ?_
     refine gC rfl rfl (fun hC => moveA) rfl ?_
     obtain ⟨x25, gx25, hE⟩ := guardO_some hE
     refine gC rfl rfl (fun hC => ungdA (k := 37) rfl (ungdA (k := 38) rfl (idxSn (n := s29_17) (TK rfl) rfl rfl rfl (gx25 hC)))) rfl ?_
     refine gC rfl rfl (fun hC => ungdA (k := 39) rfl (binI rfl rfl rfl)) rfl ?_
     refine s0 (pickOrA rfl rfl rfl) rfl ?_
     refine nil ?_
     refine hK23 _ ?_
     clear hK23 K23
     refine condE hE rfl (fun hc26 hE => ?_) (fun hc26 hE => ?_)
     ·refine seqK fun K27 hK27 => ?_
      refine region ?_
      refine s0 assignA rfl ?_
      refine s0 assignA rfl ?_
      refine nil ?_
      refine hK27 _ ?_
      clear hK27 K27
      refine AWp.ret ?_
      repeat (first | refine xBlock_ret ?_ | refine xThen_ret ?_)
      obtain rfl := Option.some.inj hE
      refine retQ.retF H rfl ⟨rfl, rfl⟩ ?_
      exact (fun _ _ h => h)
     refine AWp.skip ?_
     refine hK21 _ ?_
     clear hK21 K21
     refine region ?_
     refine s0 (addIA rfl rfl) rfl ?_
     refine s0 moveA rfl ?_
     refine nil ?_
     exact hK16 _ (n16, (s29_17 + 1)) Weak.toA hE (Nat.lt_succ_self _)
    refine AWp.exit ?_
    exact hK9 _ () Weak.toA hE
 rintro _ hE
 try dsimp only at hE
 unfold Z25_j9 at hE
 refine seqK fun K10 hK10 => ?_
 refine region ?_
 refine s0 moveA rfl ?_
 obtain ⟨x11, gx11, hE⟩ := bindO_some hE
 refine s0 (callP rfl rfl (fun H => Z14_walk gx11 H)) rfl ?_
 refine s0 moveA rfl ?_
 refine s0 (extract rfl rfl) rfl ?_
 refine s0 (extract rfl rfl) rfl ?_
 refine s0 assignA rfl ?_
 refine s0 assignA rfl ?_
 refine nil ?_
 refine hK10 _ ?_
 clear hK10 K10
 refine seqK fun K12 hK12 => ?_
 refine seqK fun K13 hK13 => ?_
 refine region ?_
 refine s0 moveA rfl ?_
 cases hE
def Z30 (a0 : Bs) (a1 : Int) : Option Int := none
theorem Z30_walk {a0 : Bs} {a1 : Int}   {r : Int} (hE : Z30 a0 a1 = some r) (H : Heap)  : ACalls Tryd.prog 59 [.d (.str a0), .d (.int .i64 a1)] H fun v h' => v = .a (.d (.int .i64 r)) ∧ h' = H := by
 unfold Z30 at hE
 refine ACalls.of_wp (fn := Tryd.f59) (c := _) Tryd.tab_ok (fun _ _ => Tryd.call59 _ _) Tryd.func59 rfl (n := 18) rfl (rs := [.tmp 4]) rfl rfl ?_
 refine seqK fun K1 hK1 => ?_
 refine region ?_
 refine s0 assignA rfl ?_
 refine nil ?_
 refine hK1 _ ?_
 clear hK1 K1
 refine seqK fun K2 hK2 => ?_
 refine region ?_
 cases hE
end Go.Proofs

namespace Go.Proofs
open Go Go.Ab
open AOps Cert AWp
variable {lou : Lou}
def Z27_j2   : Option (Int × Bool) := some ((0 : Int), false)
def Z27_j5 (a0 : Int)  (s5_6 : Bool) : Option (Int × Bool) := bif s5_6 then (some (a0, true)) else (bif (decide (a0 = (98 : Int))) then (some ((8 : Int), true)) else (bif (decide (a0 = (102 : Int))) then (some ((12 : Int), true)) else (bif (decide (a0 = (110 : Int))) then (some ((10 : Int), true)) else (bif (decide (a0 = (114 : Int))) then (some ((13 : Int), true)) else (bif (decide (a0 = (116 : Int))) then (some ((9 : Int), true)) else (Z27_j2   ))))))
def Z27 (a0 : Int) : Option (Int × Bool) := bif (decide (a0 = (34 : Int))) then (Z27_j5 a0  (decide (a0 = (34 : Int)))) else (bif (decide (a0 = (92 : Int))) then (Z27_j5 a0  (decide (a0 = (92 : Int)))) else (Z27_j5 a0  (decide (a0 = (47 : Int)))))
theorem Z27_walk {a0 : Int}   {r : (Int × Bool)} (hE : Z27 a0 = some r) (H : Heap)  : ACalls Tryd.prog 88 [.d (.int .u8 a0)] H fun v h' => v = .tup [.d (.int .u8 r.1), .d (.bool r.2)] ∧ h' = H := by
 unfold Z27 at hE
 refine ACalls.of_wp (fn := Tryd.f88) (c := _) Tryd.tab_ok (fun _ _ => Tryd.call88 _ _) Tryd.func88 rfl (n := 20) rfl (rs := [.tmp 2, .tmp 3]) rfl rfl ?_
 refine seqK fun K1 hK1 => ?_
 refine region ?_
 refine s0 assignA rfl ?_
 refine s0 assignA rfl ?_
 refine nil ?_
 refine hK1 _ ?_
 clear hK1 K1
 refine seqJH KeepsT.nil (fun (z : Unit) => []) (fun z => H) (fun z => Z27_j2  = some r) ?_ ?_
 ·intro K2 hK2
  refine seqK fun K4 hK4 => ?_
  refine region ?_
  refine s0 moveA rfl ?_
  refine nil ?_
  refine hK4 _ ?_
  clear hK4 K4
  refine block ?_
  refine seqJH (KeepsT.A (k := 0) (KeepsT.A (k := 4) KeepsT.nil)) (fun (z : Bool) => [(5, .a (.d (.bool z)))]) (fun z => H) (fun z => Z27_j5 a0 z = some r) ?_ ?_
  ·intro K5 hK5
   refine seqK fun K24 hK24 => ?_
   refine region ?_
   refine s0 (binI rfl rfl rfl) rfl ?_
   refine s0 assignA rfl ?_
   refine nil ?_
   refine hK24 _ ?_
   clear hK24 K24
   refine condE hE rfl (fun hc25 hE => ?_) (fun hc25 hE => ?_)
   ·refine AWp.skip ?_
    exact hK5 _ (decide (a0 = (34 : Int))) Weak.toA hE
   refine seqK fun K26 hK26 => ?_
   refine region ?_
   refine s0 (binI rfl rfl rfl) rfl ?_
   refine s0 assignA rfl ?_
   refine nil ?_
   refine hK26 _ ?_
   clear hK26 K26
   refine condE hE rfl (fun hc27 hE => ?_) (fun hc27 hE => ?_)
   ·refine AWp.skip ?_
    exact hK5 _ (decide (a0 = (92 : Int))) Weak.toA hE
   refine region ?_
   refine s0 (binI rfl rfl rfl) rfl ?_
   refine s0 assignA rfl ?_
   refine nil ?_
   exact hK5 _ (decide (a0 = (47 : Int))) Weak.toA hE
  rintro s5_6 hE
  try dsimp only at hE
  unfold Z27_j5 at hE
  refine condE hE rfl (fun hc7 hE => ?_) (fun hc7 hE => ?_)
  ·refine seqK fun K8 hK8 => ?_
   refine region ?_
   refine s0 moveA rfl ?_
   refine s0 assignA rfl ?_
   refine s0 assignA rfl ?_
   refine nil ?_
   refine hK8 _ ?_
   clear hK8 K8
   refine AWp.ret ?_
   repeat (first | refine xBlock_ret ?_ | refine xThen_ret ?_)
   obtain rfl := Option.some.inj hE
   refine retQ.retF H rfl ⟨rfl, rfl⟩ ?_
   exact (fun _ _ h => h)
  refine seqK fun K9 hK9 => ?_
  refine region ?_
  refine s0 (binI rfl rfl rfl) rfl ?_
  refine s0 assignA rfl ?_
  refine nil ?_
  refine hK9 _ ?_
  clear hK9 K9
  refine condE hE rfl (fun hc10 hE => ?_) (fun hc10 hE => ?_)
  ·refine seqK fun K11 hK11 => ?_
   refine region ?_
   refine s0 assignA rfl ?_
   refine s0 assignA rfl ?_
   refine nil ?_
   refine hK11 _ ?_
   clear hK11 K11
   refine AWp.ret ?_
   repeat (first | refine xBlock_ret ?_ | refine xThen_ret ?_)
   obtain rfl := Option.some.inj hE
   refine retQ.retF H rfl ⟨rfl, rfl⟩ ?_
   exact (fun _ _ h => h)
  refine seqK fun K12 hK12 => ?_
  refine region ?_
  refine s0 (binI rfl rfl rfl) rfl ?_
  refine s0 assignA rfl ?_
  refine nil ?_
  refine hK12 _ ?_
  clear hK12 K12
  refine condE hE rfl (fun hc13 hE => ?_) (fun hc13 hE => ?_)
  ·refine seqK fun K14 hK14 => ?_
   refine region ?_
   refine s0 assignA rfl ?_
   refine s0 assignA rfl ?_
   refine nil ?_
   refine hK14 _ ?_
   clear hK14 K14
   refine AWp.ret ?_
   repeat (first | refine xBlock_ret ?_ | refine xThen_ret ?_)
   obtain rfl := Option.some.inj hE
   refine retQ.retF H rfl ⟨rfl, rfl⟩ ?_
   exact (fun _ _ h => h)
  refine seqK fun K15 hK15 => ?_
  refine region ?_
  refine s0 (binI rfl rfl rfl) rfl ?_
  refine s0 assignA rfl ?_
  refine nil ?_
  refine hK15 _ ?_
  clear hK15 K15
  refine condE hE rfl (fun hc16 hE => ?_) (fun hc16 hE => ?_)
  ·refine seqK fun K17 hK17 => ?_
   refine region ?_
   refine s0 assignA rfl ?_
   refine s0 assignA rfl ?_
   refine nil ?_
   refine hK17 _ ?_
   clear hK17 K17
   refine AWp.ret ?_
   repeat (first | refine xBlock_ret ?_ | refine xThen_ret ?_)
   obtain rfl := Option.some.inj hE
   refine retQ.retF H rfl ⟨rfl, rfl⟩ ?_
   exact (fun _ _ h => h)
  refine seqK fun K18 hK18 => ?_
  refine region ?_
  refine s0 (binI rfl rfl rfl) rfl ?_
  refine s0 assignA rfl ?_
  refine nil ?_
  refine hK18 _ ?_
  clear hK18 K18
  refine condE hE rfl (fun hc19 hE => ?_) (fun hc19 hE => ?_)
  ·refine seqK fun K20 hK20 => ?_
   refine region ?_
   refine s0 assignA rfl ?_
   refine s0 assignA rfl ?_
   refine nil ?_
   refine hK20 _ ?_
   clear hK20 K20
   refine AWp.ret ?_
   repeat (first | refine xBlock_ret ?_ | refine xThen_ret ?_)
   obtain rfl := Option.some.inj hE
   refine retQ.retF H rfl ⟨rfl, rfl⟩ ?_
   exact (fun _ _ h => h)
  refine seqK fun K21 hK21 => ?_
  refine region ?_
  refine s0 (binI rfl rfl rfl) rfl ?_
  refine s0 assignA rfl ?_
  refine nil ?_
  refine hK21 _ ?_
  clear hK21 K21
  refine condE hE rfl (fun hc22 hE => ?_) (fun hc22 hE => ?_)
  ·refine seqK fun K23 hK23 => ?_
   refine region ?_
   refine s0 assignA rfl ?_
   refine s0 assignA rfl ?_
   refine nil ?_
   refine hK23 _ ?_
   clear hK23 K23
   refine AWp.ret ?_
   repeat (first | refine xBlock_ret ?_ | refine xThen_ret ?_)
   obtain rfl := Option.some.inj hE
   refine retQ.retF H rfl ⟨rfl, rfl⟩ ?_
   exact (fun _ _ h => h)
  refine AWp.skip ?_
  exact hK2 _ () Weak.toA hE
 rintro _ hE
 try dsimp only at hE
 unfold Z27_j2 at hE
 refine seqK fun K3 hK3 => ?_
 refine region ?_
 refine s0 assignA rfl ?_
 refine s0 assignA rfl ?_
 refine nil ?_
 refine hK3 _ ?_
 clear hK3 K3
 refine AWp.ret ?_
 repeat (first | refine xBlock_ret ?_ | refine xThen_ret ?_)
 obtain rfl := Option.some.inj hE
 refine retQ.retF H rfl ⟨rfl, rfl⟩ ?_
 exact (fun _ _ h => h)
def Z21 (s : Bs) (c : Int) : Option Int := some (Lib.indexByte s c.toNat.toUInt8)
def Z26_j17  (y18_id4_15 : Strings_Builder) : Option (Bs × Int) := (Z15 y18_id4_15).bind fun x20 => some (x20, (0 : Int))
def Z26_j29 (k_next_22 : Int → Strings_Builder → Option (Bs × Int)) (s5_30 : Int) (y31_id4_15 : Strings_Builder) : Option (Bs × Int) := (addC s5_30 (1 : Int)).bind fun x32 => k_next_22 x32 y31_id4_15
def Z26_j66 (y24_id4_15 : Strings_Builder) (x45 : Int) (k_next_22 : Int → Strings_Builder → Option (Bs × Int)) (s9_67 : Int) : Option (Bs × Int) := bif (decide ((255 : Int) < s9_67)) then (some (([] : Bs), (3 : Int))) else ((Z16 y24_id4_15 (IntKind.wrap .u8 s9_67)).bind fun x73 => (addC x45 (4 : Int)).bind fun x74 => Z26_j29  k_next_22 x74 x73.2)
def Z26_l22 (x13 : Bs)  : Nat → Int → Strings_Builder → Option (Bs × Int)
 | 0, _, _ => none
 | n22 + 1, s5_23, y24_id4_15 => bif (decide (s5_23 < ((x13.length : Nat) : Int))) then ((idxC x13 s5_23).bind fun x34 => bif (((decide (((x34.toNat : Nat) : Int) < (32 : Int))) || (decide ((126 : Int) < ((x34.toNat : Nat) : Int)))) || (decide (((x34.toNat : Nat) : Int) = (34 : Int)))) then (some (([] : Bs), (3 : Int))) else (bif (!decide (((x34.toNat : Nat) : Int) = (92 : Int))) then ((Z16 y24_id4_15 ((x34.toNat : Nat) : Int)).bind fun x43 => Z26_j29  ((Z26_l22 x13 n22)) s5_23 x43.2) else ((addC s5_23 (1 : Int)).bind fun x45 => bif (decide (x45 = ((x13.length : Nat) : Int))) then (some (([] : Bs), (3 : Int))) else ((idxC x13 x45).bind fun x53 => (Z27 ((x53.toNat : Nat) : Int)).bind fun x54 => bif x54.2 then ((Z16 y24_id4_15 x54.1).bind fun x58 => Z26_j29  ((Z26_l22 x13 n22)) x45 x58.2) else ((idxC x13 x45).bind fun x61 => guardO (!(!decide (((x61.toNat : Nat) : Int) = (117 : Int)))) (addC x45 (4 : Int)) (0 : Int) fun x62 => bif ((!decide (((x61.toNat : Nat) : Int) = (117 : Int))) || (decide (((x13.length : Nat) : Int) ≤ x62))) then (some (([] : Bs), (3 : Int))) else ((addC x45 (1 : Int)).bind fun x76 => (addC x45 (5 : Int)).bind fun x77 => (cutC x13 (some x76) (some x77)).bind fun x78 => none)))))) else (Z26_j17   y24_id4_15)
def Z26 (a0 : Bs) : Option (Bs × Int) := guardO (!(decide (((a0.length : Nat) : Int) < (2 : Int)))) (a0[0]?) (0 : UInt8) fun x5 => guardO (!((decide (((a0.length : Nat) : Int) < (2 : Int))) || (!decide (((x5.toNat : Nat) : Int) = (34 : Int))))) (subC ((a0.length : Nat) : Int) (1 : Int)) (0 : Int) fun x6 => guardO (!((decide (((a0.length : Nat) : Int) < (2 : Int))) || (!decide (((x5.toNat : Nat) : Int) = (34 : Int))))) (idxC a0 x6) (0 : UInt8) fun x7 => bif (((decide (((a0.length : Nat) : Int) < (2 : Int))) || (!decide (((x5.toNat : Nat) : Int) = (34 : Int)))) || (!decide (((x7.toNat : Nat) : Int) = (34 : Int)))) then (some (([] : Bs), (3 : Int))) else ((subC ((a0.length : Nat) : Int) (1 : Int)).bind fun x12 => (cutC a0 (some (1 : Int)) (some x12)).bind fun x13 => Z26_l22 x13 F0 (0 : Int) Strings_Builder.zero)
theorem Z26_walk {a0 : Bs}   {r : (Bs × Int)} (hE : Z26 a0 = some r) (H : Heap)  : ACalls Tryd.prog 60 [.d (.str a0)] H fun v h' => v = .tup [.d (.str r.1), .d (.int .i64 r.2)] ∧ h' = H := by
 unfold Z26 at hE
 refine ACalls.of_wp (fn := Tryd.f60) (c := _) Tryd.tab_ok (fun _ _ => Tryd.call60 _ _) Tryd.func60 rfl (n := 126) rfl (rs := [.tmp 2, .tmp 3]) rfl rfl ?_
 refine seqK fun K1 hK1 => ?_
 refine region ?_
 refine s0 assignA rfl ?_
 refine s0 assignA rfl ?_
 refine nil ?_
 refine hK1 _ ?_
 clear hK1 K1
 refine seqK fun K2 hK2 => ?_
 refine seqK fun K3 hK3 => ?_
 refine region ?_
 refine s0 moveA rfl ?_
 refine sLenS (TK rfl) rfl rfl rfl rfl fun hL4 => ?_
 refine s0 (binI rfl rfl rfl) rfl ?_
 refine s0 moveA rfl ?_
 refine gC rfl rfl (fun hC => moveA) rfl ?_
 obtain ⟨x5, gx5, hE⟩ := guardO_some hE
 refine gC rfl rfl (fun hC => ungdA (k := 17) rfl (idxSn (n := 0) (TK rfl) rfl rfl rfl (gx5 hC))) rfl ?_
 refine gC rfl rfl (fun hC => ungdA (k := 18) rfl (binI rfl rfl rfl)) rfl ?_
 refine s0 (pickOrA rfl rfl rfl) rfl ?_
 refine s0 moveA rfl ?_
 refine gC rfl rfl (fun hC => moveA) rfl ?_
 refine gC rfl rfl (fun hC => moveA) rfl ?_
 refine gC rfl rfl (fun hC => ungdA (k := 23) rfl (lenS (TK rfl) rfl rfl rfl)) rfl ?_
 obtain ⟨x6, gx6, hE⟩ := guardO_some hE
 refine gC rfl rfl (fun hC => ungdA (k := 24) rfl (subM rfl rfl (gx6 hC))) rfl ?_
 obtain ⟨x7, gx7, hE⟩ := guardO_some hE
 refine gC rfl rfl (fun hC => ungdA (k := 22) rfl (ungdA (k := 25) rfl (idxS (TK rfl) rfl rfl rfl (gx7 hC)))) rfl ?_
 refine gC rfl rfl (fun hC => ungdA (k := 26) rfl (binI rfl rfl rfl)) rfl ?_
 refine s0 (pickOrA rfl rfl rfl) rfl ?_
 refine nil ?_
 refine hK3 _ ?_
 clear hK3 K3
 refine condE hE rfl (fun hc8 hE => ?_) (fun hc8 hE => ?_)
 ·refine seqK fun K9 hK9 => ?_
  refine region ?_
  refine s0 assignA rfl ?_
  refine s0 assignA rfl ?_
  refine nil ?_
  refine hK9 _ ?_
  clear hK9 K9
  refine AWp.ret ?_
  repeat (first | refine xBlock_ret ?_ | refine xThen_ret ?_)
  obtain rfl := Option.some.inj hE
  refine retQ.retF H rfl ⟨rfl, rfl⟩ ?_
  exact (fun _ _ h => h)
 refine AWp.skip ?_
 refine hK2 _ ?_
 clear hK2 K2
 refine seqK fun K10 hK10 => ?_
 refine region ?_
 refine s0 moveA rfl ?_
 refine s0 moveA rfl ?_
 refine sLenS (TK rfl) rfl rfl rfl rfl fun hL11 => ?_
 obtain ⟨x12, gx12, hE⟩ := bindO_some hE
 refine s0 (subM rfl rfl gx12) rfl ?_
 obtain ⟨x13, gx13, hE⟩ := bindO_some hE
 refine s0 (cutM (l := (some (1 : Int))) (r := (some x12)) (TK rfl) rfl rfl rfl rfl (by simp) gx13) rfl ?_
 refine s0 assignA rfl ?_
 refine nil ?_
 refine hK10 _ ?_
 clear hK10 K10
 refine seqK fun K14 hK14 => ?_
 refine region ?_
 refine AOps.tokE 1 5 fun tk4_16 htk4_16 => ?_
 refine sE (StepE.allocT (TK rfl) rfl) rfl (fun _ _ _ ⟨id4_15, hid4_15, e1, e2, e3⟩ => ?_); subst e1 e2 e3
 obtain ⟨ne_id4_15_tk4_16, hid4_15⟩ := Heap.set_fresh hid4_15
 refine AOps.recellT id4_15 _ hpG (fun j w cs hh hx => tok_cell 1 1 1 hh (t := tk4_16) hpG hx rfl) ?_
 refine AOps.heq (h' := ((H.set tk4_16 (some (.tok 1 0 (some 5)))).set id4_15 (some (.tcells 68 (Strings_Builder.cg id4_15 (some tk4_16) Strings_Builder.zero))))) (by first | rfl | (rw [Heap.set_set]; rfl) | (funext n_; simp only [Heap.set]; (repeat' split) <;> first | rfl | (exfalso; simp_all; done) | (simp_all; done))) ?_
 refine nil ?_
 refine hK14 _ ?_
 clear hK14 K14
 refine seqJH (KeepsT.A (k := 4) KeepsT.nil) (fun (z : Strings_Builder) => []) (fun z => ((H.set tk4_16 (some (.tok 1 z.Fbuf.l.length (some 5)))).set id4_15 (some (.tcells 68 (Strings_Builder.cg id4_15 (some tk4_16) z))))) (fun z => Z26_j17 z = some r) ?_ ?_
 ·intro K17 hK17
  refine seqK fun K21 hK21 => ?_
  refine region ?_
  refine s0 assignA rfl ?_
  refine nil ?_
  refine hK21 _ ?_
  clear hK21 K21
  refine block ?_
  refine loopH (KeepsT.A (k := 0) (KeepsT.A (k := 4) KeepsT.nil)) (fun (z : Nat × Int × Strings_Builder) => [(5, .a (.d (.int .i64 z.2.1)))]) (fun z => ((H.set tk4_16 (some (.tok 1 z.2.2.Fbuf.l.length (some 5)))).set id4_15 (some (.tcells 68 (Strings_Builder.cg id4_15 (some tk4_16) z.2.2))))) (fun z => z.1) (fun z => Z26_l22 x13 z.1 z.2.1 z.2.2 = some r) (F0, (0 : Int), Strings_Builder.zero) hE Weak.toA ?_
  rintro ⟨n22, s5_23, y24_id4_15⟩ hE K22 hK22
  try dsimp only at hE
  cases n22 with
  | zero => cases hE
  | succ n22 =>
    rw [Z26_l22] at hE
    refine seqK fun K25 hK25 => ?_
    refine seqK fun K26 hK26 => ?_
    refine region ?_
    refine s0 moveA rfl ?_
    refine s0 moveA rfl ?_
    refine sLenS (TK rfl) rfl rfl rfl rfl fun hL27 => ?_
    refine s0 (binI rfl rfl rfl) rfl ?_
    refine nil ?_
    refine hK26 _ ?_
    clear hK26 K26
    refine condE hE rfl (fun hc28 hE => ?_) (fun hc28 hE => ?_)
    ·refine AWp.skip ?_
     refine hK25 _ ?_
     clear hK25 K25
     refine seqJH (KeepsT.A (k := 0) (KeepsT.A (k := 4) KeepsT.nil)) (fun (z : Int × Strings_Builder) => [(5, .a (.d (.int .i64 z.1)))]) (fun z => ((H.set tk4_16 (some (.tok 1 z.2.Fbuf.l.length (some 5)))).set id4_15 (some (.tcells 68 (Strings_Builder.cg id4_15 (some tk4_16) z.2))))) (fun z => Z26_j29  ((Z26_l22 x13 n22)) z.1 z.2 = some r) ?_ ?_
     ·intro K29 hK29
      refine block ?_
      refine seqK fun K33 hK33 => ?_
      refine region ?_
      refine s0 moveA rfl ?_
      refine s0 moveA rfl ?_
      obtain ⟨x34, gx34, hE⟩ := bindO_some hE
      refine s0 (idxS (TK rfl) rfl rfl rfl gx34) rfl ?_
      refine s0 assignA rfl ?_
      refine nil ?_
      refine hK33 _ ?_
      clear hK33 K33
      refine seqK fun K35 hK35 => ?_
      refine seqK fun K36 hK36 => ?_
      refine region ?_
      refine s0 moveA rfl ?_
      refine s0 (binI rfl rfl rfl) rfl ?_
      refine s0 moveA rfl ?_
      refine gC rfl rfl (fun hC => moveA) rfl ?_
      refine gC rfl rfl (fun hC => ungdA (k := 46) rfl (binI rfl rfl rfl)) rfl ?_
      refine s0 (pickOrA rfl rfl rfl) rfl ?_
      refine s0 moveA rfl ?_
      refine gC rfl rfl (fun hC => moveA) rfl ?_
      refine gC rfl rfl (fun hC => ungdA (k := 50) rfl (binI rfl rfl rfl)) rfl ?_
      refine s0 (pickOrA rfl rfl rfl) rfl ?_
      refine nil ?_
      refine hK36 _ ?_
      clear hK36 K36
      refine condE hE rfl (fun hc37 hE => ?_) (fun hc37 hE => ?_)
      ·refine seqK fun K38 hK38 => ?_
       refine region ?_
       refine s0 assignA rfl ?_
       refine s0 assignA rfl ?_
       refine nil ?_
       refine hK38 _ ?_
       clear hK38 K38
       refine AWp.ret ?_
       repeat (first | refine xBlock_ret ?_ | refine xThen_ret ?_)
       obtain rfl := Option.some.inj hE
       refine retQ.retF H rfl ⟨rfl, rfl⟩ ?_
       intro id_ o_ he_
       have e_tk4_16 : id_ ≠ tk4_16 := fun e_ => by subst e_; simp_all [Heap.set]
       have e_id4_15 : id_ ≠ id4_15 := fun e_ => by subst e_; simp_all [Heap.set]
       rw [← he_]
       simp only [Heap.set] at he_ ⊢
       (repeat' split) <;> simp_all
      refine AWp.skip ?_
      refine hK35 _ ?_
      clear hK35 K35
      refine seqK fun K39 hK39 => ?_
      refine seqK fun K40 hK40 => ?_
      refine region ?_
      refine s0 moveA rfl ?_
      refine s0 (binI rfl rfl rfl) rfl ?_
      refine nil ?_
      refine hK40 _ ?_
      clear hK40 K40
      refine condE hE rfl (fun hc41 hE => ?_) (fun hc41 hE => ?_)
      ·refine seqK fun K42 hK42 => ?_
       refine region ?_
       refine s0 moveA rfl ?_
       obtain ⟨x43, gx43, hE⟩ := bindO_some hE
       refine sH (callH rfl rfl (Z16_walk gx43 _ hpG hpG)) rfl ?_
       refine AOps.heq (h' := ((H.set tk4_16 (some (.tok 1 x43.2.Fbuf.l.length (some 5)))).set id4_15 (some (.tcells 68 (Strings_Builder.cg id4_15 (some tk4_16) x43.2))))) (by first | rfl | (rw [Heap.set_set]; rfl) | (funext n_; simp only [Heap.set]; (repeat' split) <;> first | rfl | (exfalso; simp_all; done) | (simp_all; done))) ?_
       refine nil ?_
       refine hK42 _ ?_
       clear hK42 K42
       refine AWp.exit ?_
       exact hK29 _ (s5_23, x43.2) Weak.toA hE
      refine AWp.skip ?_
      refine hK39 _ ?_
      clear hK39 K39
      refine seqK fun K44 hK44 => ?_
      refine region ?_
      refine s0 moveA rfl ?_
      obtain ⟨x45, gx45, hE⟩ := bindO_some hE
      refine s0 (addM rfl rfl gx45) rfl ?_
      refine s0 assignA rfl ?_
      refine nil ?_
      refine hK44 _ ?_
      clear hK44 K44
      refine seqK fun K46 hK46 => ?_
      refine seqK fun K47 hK47 => ?_
      refine region ?_
      refine s0 moveA rfl ?_
      refine s0 moveA rfl ?_
      refine sLenS (TK rfl) rfl rfl rfl rfl fun hL48 => ?_
      refine s0 (binI rfl rfl rfl) rfl ?_
      refine nil ?_
      refine hK47 _ ?_
      clear hK47 K47
      refine condE hE rfl (fun hc49 hE => ?_) (fun hc49 hE => ?_)
      ·refine seqK fun K50 hK50 => ?_
       refine region ?_
       refine s0 assignA rfl ?_
       refine s0 assignA rfl ?_
       refine nil ?_
       refine hK50 _ ?_
       clear hK50 K50
       refine AWp.ret ?_
       repeat (first | refine xBlock_ret ?_ | refine xThen_ret ?_)
       obtain rfl := Option.some.inj hE
       refine retQ.retF H rfl ⟨rfl, rfl⟩ ?_
       intro id_ o_ he_
       have e_tk4_16 : id_ ≠ tk4_16 := fun e_ => by subst e_; simp_all [Heap.set]
       have e_id4_15 : id_ ≠ id4_15 := fun e_ => by subst e_; simp_all [Heap.set]
       rw [← he_]
       simp only [Heap.set] at he_ ⊢
       (repeat' split) <;> simp_all
      refine AWp.skip ?_
      refine hK46 _ ?_
      clear hK46 K46
      refine seqK fun K51 hK51 => ?_
      refine seqK fun K52 hK52 => ?_
      refine region ?_
      refine s0 moveA rfl ?_
      refine s0 moveA rfl ?_
      obtain ⟨x53, gx53, hE⟩ := bindO_some hE
      refine s0 (idxS (TK rfl) rfl rfl rfl gx53) rfl ?_
      obtain ⟨x54, gx54, hE⟩ := bindO_some hE
      refine s0 (callP rfl rfl (fun H => Z27_walk gx54 H)) rfl ?_
      refine s0 moveA rfl ?_
      refine s0 (extract rfl rfl) rfl ?_
      refine s0 (extract rfl rfl) rfl ?_
      refine s0 assignA rfl ?_
      refine s0 assignA rfl ?_
      refine nil ?_
      refine hK52 _ ?_
      clear hK52 K52
      refine seqK fun K55 hK55 => ?_
      refine region ?_
      refine s0 moveA rfl ?_
      refine nil ?_
      refine hK55 _ ?_
      clear hK55 K55
      refine condE hE rfl (fun hc56 hE => ?_) (fun hc56 hE => ?_)
      ·refine seqK fun K57 hK57 => ?_
       refine region ?_
       refine s0 moveA rfl ?_
       obtain ⟨x58, gx58, hE⟩ := bindO_some hE
       refine sH (callH rfl rfl (Z16_walk gx58 _ hpG hpG)) rfl ?_
       refine AOps.heq (h' := ((H.set tk4_16 (some (.tok 1 x58.2.Fbuf.l.length (some 5)))).set id4_15 (some (.tcells 68 (Strings_Builder.cg id4_15 (some tk4_16) x58.2))))) (by first | rfl | (rw [Heap.set_set]; rfl) | (funext n_; simp only [Heap.set]; (repeat' split) <;> first | rfl | (exfalso; simp_all; done) | (simp_all; done))) ?_
       refine nil ?_
       refine hK57 _ ?_
       clear hK57 K57
       refine AWp.exit ?_
       exact hK29 _ (x45, x58.2) Weak.toA hE
      refine AWp.skip ?_
      refine hK51 _ ?_
      clear hK51 K51
      refine seqK fun K59 hK59 => ?_
      refine seqK fun K60 hK60 => ?_
      refine region ?_
      refine s0 moveA rfl ?_
      refine s0 moveA rfl ?_
      obtain ⟨x61, gx61, hE⟩ := bindO_some hE
      refine s0 (idxS (TK rfl) rfl rfl rfl gx61) rfl ?_
      refine s0 (binI rfl rfl rfl) rfl ?_
      refine s0 moveA rfl ?_
      refine gC rfl rfl (fun hC => moveA) rfl ?_
      obtain ⟨x62, gx62, hE⟩ := guardO_some hE
      refine gC rfl rfl (fun hC => ungdA (k := 78) rfl (addM rfl rfl (gx62 hC))) rfl ?_
      refine gC rfl rfl (fun hC => moveA) rfl ?_
      refine gC rfl rfl (fun hC => ungdA (k := 80) rfl (lenS (TK rfl) rfl rfl rfl)) rfl ?_
      refine gC rfl rfl (fun hC => ungdA (k := 79) rfl (ungdA (k := 81) rfl (binI rfl rfl rfl))) rfl ?_
      refine s0 (pickOrA rfl rfl rfl) rfl ?_
      refine nil ?_
      refine hK60 _ ?_
      clear hK60 K60
      refine condE hE rfl (fun hc63 hE => ?_) (fun hc63 hE => ?_)
      ·refine seqK fun K64 hK64 => ?_
       refine region ?_
       refine s0 assignA rfl ?_
       refine s0 assignA rfl ?_
       refine nil ?_
       refine hK64 _ ?_
       clear hK64 K64
       refine AWp.ret ?_
       repeat (first | refine xBlock_ret ?_ | refine xThen_ret ?_)
       obtain rfl := Option.some.inj hE
       refine retQ.retF H rfl ⟨rfl, rfl⟩ ?_
       intro id_ o_ he_
       have e_tk4_16 : id_ ≠ tk4_16 := fun e_ => by subst e_; simp_all [Heap.set]
       have e_id4_15 : id_ ≠ id4_15 := fun e_ => by subst e_; simp_all [Heap.set]
       rw [← he_]
       simp only [Heap.set] at he_ ⊢
       (repeat' split) <;> simp_all
      refine AWp.skip ?_
      refine hK59 _ ?_
      clear hK59 K59
      refine seqK fun K65 hK65 => ?_
      refine region ?_
      refine s0 assignA rfl ?_
      refine nil ?_
      refine hK65 _ ?_
      clear hK65 K65
      refine seqJH (KeepsT.A (k := 0) (KeepsT.A (k := 4) (KeepsT.A (k := 5) KeepsT.nil))) (fun (z : Int) => [(9, .a (.d (.int .i64 z)))]) (fun z => ((H.set tk4_16 (some (.tok 1 y24_id4_15.Fbuf.l.length (some 5)))).set id4_15 (some (.tcells 68 (Strings_Builder.cg id4_15 (some tk4_16) y24_id4_15))))) (fun z => Z26_j66 y24_id4_15 x45 ((Z26_l22 x13 n22)) z = some r) ?_ ?_
      ·intro K66 hK66
       refine seqK fun K75 hK75 => ?_
       refine region ?_
       refine s0 moveA rfl ?_
       refine s0 moveA rfl ?_
       obtain ⟨x76, gx76, hE⟩ := bindO_some hE
       refine s0 (addM rfl rfl gx76) rfl ?_
       refine s0 moveA rfl ?_
       obtain ⟨x77, gx77, hE⟩ := bindO_some hE
       refine s0 (addM rfl rfl gx77) rfl ?_
       obtain ⟨x78, gx78, hE⟩ := bindO_some hE
       refine s0 (cutM (l := (some x76)) (r := (some x77)) (TK rfl) rfl rfl rfl rfl (by simp) gx78) rfl ?_
       cases hE
      rintro s9_67 hE
      try dsimp only at hE
      unfold Z26_j66 at hE
      refine seqK fun K68 hK68 => ?_
      refine seqK fun K69 hK69 => ?_
      refine region ?_
      refine s0 moveA rfl ?_
      refine s0 (binI rfl rfl rfl) rfl ?_
      refine nil ?_
      refine hK69 _ ?_
      clear hK69 K69
      refine condE hE rfl (fun hc70 hE => ?_) (fun hc70 hE => ?_)
      ·refine seqK fun K71 hK71 => ?_
       refine region ?_
       refine s0 assignA rfl ?_
       refine s0 assignA rfl ?_
       refine nil ?_
       refine hK71 _ ?_
       clear hK71 K71
       refine AWp.ret ?_
       repeat (first | refine xBlock_ret ?_ | refine xThen_ret ?_)
       obtain rfl := Option.some.inj hE
       refine retQ.retF H rfl ⟨rfl, rfl⟩ ?_
       intro id_ o_ he_
       have e_tk4_16 : id_ ≠ tk4_16 := fun e_ => by subst e_; simp_all [Heap.set]
       have e_id4_15 : id_ ≠ id4_15 := fun e_ => by subst e_; simp_all [Heap.set]
       rw [← he_]
       simp only [Heap.set] at he_ ⊢
       (repeat' split) <;> simp_all
      refine AWp.skip ?_
      refine hK68 _ ?_
      clear hK68 K68
      refine seqK fun K72 hK72 => ?_
      refine region ?_
      refine s0 moveA rfl ?_
      refine s0 (convI (TK rfl) (TK rfl) rfl rfl) rfl ?_
      obtain ⟨x73, gx73, hE⟩ := bindO_some hE
      refine sH (callH rfl rfl (Z16_walk gx73 _ hpG hpG)) rfl ?_
      refine AOps.heq (h' := ((H.set tk4_16 (some (.tok 1 x73.2.Fbuf.l.length (some 5)))).set id4_15 (some (.tcells 68 (Strings_Builder.cg id4_15 (some tk4_16) x73.2))))) (by first | rfl | (rw [Heap.set_set]; rfl) | (funext n_; simp only [Heap.set]; (repeat' split) <;> first | rfl | (exfalso; simp_all; done) | (simp_all; done))) ?_
      refine nil ?_
      refine hK72 _ ?_
      clear hK72 K72
      refine region ?_
      refine s0 moveA rfl ?_
      obtain ⟨x74, gx74, hE⟩ := bindO_some hE
      refine s0 (addM rfl rfl gx74) rfl ?_
      refine s0 assignA rfl ?_
      refine nil ?_
      exact hK29 _ (x74, x73.2) Weak.toA hE
     rintro ⟨s5_30, y31_id4_15⟩ hE
     try dsimp only at hE
     unfold Z26_j29 at hE
     refine region ?_
     refine s0 moveA rfl ?_
     obtain ⟨x32, gx32, hE⟩ := bindO_some hE
     refine s0 (addM rfl rfl gx32) rfl ?_
     refine s0 assignA rfl ?_
     refine nil ?_
     exact hK22 _ (n22, x32, y31_id4_15) Weak.toA hE (Nat.lt_succ_self _)
    refine AWp.exit ?_
    exact hK17 _ y24_id4_15 Weak.toA hE
 rintro y18_id4_15 hE
 try dsimp only at hE
 unfold Z26_j17 at hE
 refine seqK fun K19 hK19 => ?_
 refine region ?_
 obtain ⟨x20, gx20, hE⟩ := bindO_some hE
 refine sH (callH rfl rfl (Z15_walk gx20 _ hpG hpG)) rfl ?_
 refine AOps.heq (h' := H) (by first | rfl | (rw [Heap.set_set]; rfl) | (funext n_; simp only [Heap.set]; (repeat' split) <;> first | rfl | (exfalso; simp_all; done) | (simp_all; done))) ?_
 refine s0 assignA rfl ?_
 refine s0 assignA rfl ?_
 refine nil ?_
 refine hK19 _ ?_
 clear hK19 K19
 refine AWp.ret ?_
 repeat (first | refine xBlock_ret ?_ | refine xThen_ret ?_)
 obtain rfl := Option.some.inj hE
 refine retQ.retF H rfl ⟨rfl, rfl⟩ ?_
 exact (fun _ _ h => h)
end Go.Proofs

namespace Go.Proofs
open Go Go.Ab
open AOps Cert AWp
variable {lou : Lou}
def Z31 (a0 : Bs) (a1 : Int) : Option (Token_Token × Int × Int) := (idxC a0 a1).bind fun x3 => (Z18 ([33, 36, 38, 40, 41, 58, 61, 64, 91, 93, 123, 124, 125] : Bs) (IntKind.wrap .i32 ((x3.toNat : Nat) : Int))).bind fun x6 => bif x6 then ((addC a1 (1 : Int)).bind fun x9 => (cutC a0 (some a1) (some x9)).bind fun x10 => (addC a1 (1 : Int)).bind fun x11 => some ((Token_Token.mk (1 : Int) x10 a1), x11, (0 : Int))) else (bif (decide ((IntKind.wrap .i32 ((x3.toNat : Nat) : Int)) = (46 : Int))) then ((cutC a0 (some a1) none).bind fun x16 => (Z19 x16 ([46, 46, 46] : Bs)).bind fun x17 => bif (!x17) then (some ((Token_Token.mk (0 : Int) ([] : Bs) (0 : Int)), (0 : Int), (3 : Int))) else ((addC a1 (3 : Int)).bind fun x21 => some ((Token_Token.mk (1 : Int) ([46, 46, 46] : Bs) a1), x21, (0 : Int)))) else (bif ((decide ((IntKind.wrap .i32 ((x3.toNat : Nat) : Int)) = (45 : Int))) || ((decide ((48 : Int) ≤ (IntKind.wrap .i32 ((x3.toNat : Nat) : Int)))) && (decide ((IntKind.wrap .i32 ((x3.toNat : Nat) : Int)) ≤ (57 : Int))))) then ((addC a1 (1 : Int)).bind fun x25 => (Z33 a0 x25 Z29).bind fun x26 => (cutC a0 (some a1) (some x26)).bind fun x28 => (Z25 x28).bind fun x29 => (cutC a0 (some a1) (some x26)).bind fun x31 => some ((Token_Token.mk (3 : Int) x31 a1), x26, x29.2)) else ((Z29 (IntKind.wrap .i32 ((x3.toNat : Nat) : Int))).bind fun x33 => bif x33 then ((Z33 a0 a1 Z29).bind fun x36 => (subC x36 a1).bind fun x39 => bif (decide ((64 : Int) < x39)) then (some ((Token_Token.mk (0 : Int) ([] : Bs) (0 : Int)), (0 : Int), (3 : Int))) else ((cutC a0 (some a1) (some x36)).bind fun x43 => some ((Token_Token.mk (2 : Int) x43 a1), x36, (0 : Int)))) else (bif (decide ((IntKind.wrap .i32 ((x3.toNat : Nat) : Int)) = (34 : Int))) then ((Z30 a0 a1).bind fun x47 => bif (decide (x47 < (0 : Int))) then (some ((Token_Token.mk (0 : Int) ([] : Bs) (0 : Int)), (0 : Int), (3 : Int))) else ((cutC a0 (some a1) (some x47)).bind fun x53 => (Z26 x53).bind fun x54 => some ((Token_Token.mk (4 : Int) x54.1 a1), x47, x54.2))) else (some ((Token_Token.mk (0 : Int) ([] : Bs) (0 : Int)), (0 : Int), (3 : Int)))))))
theorem Z31_walk {a0 : Bs} {a1 : Int}   {r : (Token_Token × Int × Int)} (hE : Z31 a0 a1 = some r) (H : Heap)  : ACalls Tryd.prog 31 [.d (.str a0), .d (.int .i64 a1)] H fun v h' => v = .tup [.agg (Token_Token.c r.1), .d (.int .i64 r.2.1), .d (.int .i64 r.2.2)] ∧ h' = H := by
 unfold Z31 at hE
 refine ACalls.of_wp (fn := Tryd.f31) (c := _) Tryd.tab_ok (fun _ _ => Tryd.call31 _ _) Tryd.func31 rfl (n := 116) rfl (rs := [.cell 4 37, .tmp 5, .tmp 6]) rfl rfl ?_
 refine seqK fun K1 hK1 => ?_
 refine region ?_
 refine sL (allocLA (TK rfl) rfl) rfl ?_
 refine s0 assignA rfl ?_
 refine s0 assignA rfl ?_
 refine nil ?_
 refine hK1 _ ?_
 clear hK1 K1
 refine seqK fun K2 hK2 => ?_
 refine region ?_
 refine s0 moveA rfl ?_
 refine s0 moveA rfl ?_
 obtain ⟨x3, gx3, hE⟩ := bindO_some hE
 refine s0 (idxS (TK rfl) rfl rfl rfl gx3) rfl ?_
 refine s0 (convI (TK rfl) (TK rfl) rfl rfl) rfl ?_
 refine s0 assignA rfl ?_
 refine nil ?_
 refine hK2 _ ?_
 clear hK2 K2
 refine seqK fun K4 hK4 => ?_
 refine block ?_
 refine seqK fun K5 hK5 => ?_
 refine region ?_
 refine s0 moveA rfl ?_
 obtain ⟨x6, gx6, hE⟩ := bindO_some hE
 refine s0 (callP rfl rfl (fun H => Z18_walk gx6 H)) rfl ?_
 refine s0 assignA rfl ?_
 refine nil ?_
 refine hK5 _ ?_
 clear hK5 K5
 refine condE hE rfl (fun hc7 hE => ?_) (fun hc7 hE => ?_)
 ·refine seqK fun K8 hK8 => ?_
  refine region ?_
  refine s0 moveA rfl ?_
  refine s0 moveA rfl ?_
  refine s0 moveA rfl ?_
  obtain ⟨x9, gx9, hE⟩ := bindO_some hE
  refine s0 (addM rfl rfl gx9) rfl ?_
  obtain ⟨x10, gx10, hE⟩ := bindO_some hE
  refine s0 (cutM (l := (some a1)) (r := (some x9)) (TK rfl) rfl rfl rfl rfl (by simp) gx10) rfl ?_
  refine s0 moveA rfl ?_
  refine s0 (build Tryd.tab_ok rfl rfl rfl rfl rfl rfl) rfl ?_
  refine s0 moveA rfl ?_
  obtain ⟨x11, gx11, hE⟩ := bindO_some hE
  refine s0 (addM rfl rfl gx11) rfl ?_
  refine sLn (storeLFA (TK rfl) rfl rfl rfl rfl rfl) ?_
  refine s0 assignA rfl ?_
  refine s0 assignA rfl ?_
  refine nil ?_
  refine hK8 _ ?_
  clear hK8 K8
  refine AWp.ret ?_
  repeat (first | refine xBlock_ret ?_ | refine xThen_ret ?_)
  obtain rfl := Option.some.inj hE
  refine retQ.retF H rfl ⟨rfl, rfl⟩ ?_
  exact (fun _ _ h => h)
 refine seqK fun K12 hK12 => ?_
 refine region ?_
 refine s0 moveA rfl ?_
 refine s0 (binI rfl rfl rfl) rfl ?_
 refine s0 assignA rfl ?_
 refine nil ?_
 refine hK12 _ ?_
 clear hK12 K12
 refine condE hE rfl (fun hc13 hE => ?_) (fun hc13 hE => ?_)
 ·refine seqK fun K14 hK14 => ?_
  refine seqK fun K15 hK15 => ?_
  refine region ?_
  refine s0 moveA rfl ?_
  refine s0 moveA rfl ?_
  obtain ⟨x16, gx16, hE⟩ := bindO_some hE
  refine s0 (cutM (l := (some a1)) (r := none) (TK rfl) rfl rfl rfl trivial (by simp) gx16) rfl ?_
  obtain ⟨x17, gx17, hE⟩ := bindO_some hE
  refine s0 (callP rfl rfl (fun H => Z19_walk gx17 H)) rfl ?_
  refine s0 (notB rfl) rfl ?_
  refine nil ?_
  refine hK15 _ ?_
  clear hK15 K15
  refine condE hE rfl (fun hc18 hE => ?_) (fun hc18 hE => ?_)
  ·refine seqK fun K19 hK19 => ?_
   refine region ?_
   refine s0 (build Tryd.tab_ok rfl rfl rfl rfl rfl rfl) rfl ?_
   refine sLn (storeLFA (TK rfl) rfl rfl rfl rfl rfl) ?_
   refine s0 assignA rfl ?_
   refine s0 assignA rfl ?_
   refine nil ?_
   refine hK19 _ ?_
   clear hK19 K19
   refine AWp.ret ?_
   repeat (first | refine xBlock_ret ?_ | refine xThen_ret ?_)
   obtain rfl := Option.some.inj hE
   refine retQ.retF H rfl ⟨rfl, rfl⟩ ?_
   exact (fun _ _ h => h)
  refine AWp.skip ?_
  refine hK14 _ ?_
  clear hK14 K14
  refine seqK fun K20 hK20 => ?_
  refine region ?_
  refine s0 moveA rfl ?_
  refine s0 (build Tryd.tab_ok rfl rfl rfl rfl rfl rfl) rfl ?_
  refine s0 moveA rfl ?_
  obtain ⟨x21, gx21, hE⟩ := bindO_some hE
  refine s0 (addM rfl rfl gx21) rfl ?_
  refine sLn (storeLFA (TK rfl) rfl rfl rfl rfl rfl) ?_
  refine s0 assignA rfl ?_
  refine s0 assignA rfl ?_
  refine nil ?_
  refine hK20 _ ?_
  clear hK20 K20
  refine AWp.ret ?_
  repeat (first | refine xBlock_ret ?_ | refine xThen_ret ?_)
  obtain rfl := Option.some.inj hE
  refine retQ.retF H rfl ⟨rfl, rfl⟩ ?_
  exact (fun _ _ h => h)
 refine seqK fun K22 hK22 => ?_
 refine region ?_
 refine s0 moveA rfl ?_
 refine s0 (binI rfl rfl rfl) rfl ?_
 refine s0 moveA rfl ?_
 refine gC rfl rfl (fun hC => moveA) rfl ?_
 refine gC rfl rfl (fun hC => ungdA (k := 48) rfl (binI rfl rfl rfl)) rfl ?_
 refine gC rfl rfl (fun hC => ungdA (k := 49) rfl moveA) rfl ?_
 refine gC rfl rfl (fun hC => moveA) rfl ?_
 refine gC rfl rfl (fun hC => ungdA (k := 51) rfl (binI rfl rfl rfl)) rfl ?_
 refine gC rfl rfl (fun hC => ungdA (k := 50) rfl (pickAndA rfl rfl rfl)) rfl ?_
 refine s0 (pickOrA rfl rfl rfl) rfl ?_
 refine s0 assignA rfl ?_
 refine nil ?_
 refine hK22 _ ?_
 clear hK22 K22
 refine condE hE rfl (fun hc23 hE => ?_) (fun hc23 hE => ?_)
 ·refine seqK fun K24 hK24 => ?_
  refine region ?_
  refine s0 moveA rfl ?_
  refine s0 moveA rfl ?_
  obtain ⟨x25, gx25, hE⟩ := bindO_some hE
  refine s0 (addM rfl rfl gx25) rfl ?_
  obtain ⟨x26, gx26, hE⟩ := bindO_some hE
  refine s0 (callP rfl rfl (fun H => Z33_walk gx26 H (fun _ _ hx => Z29_walk hx))) rfl ?_
  refine s0 assignA rfl ?_
  refine nil ?_
  refine hK24 _ ?_
  clear hK24 K24
  refine seqK fun K27 hK27 => ?_
  refine region ?_
  refine s0 moveA rfl ?_
  refine s0 moveA rfl ?_
  refine s0 moveA rfl ?_
  obtain ⟨x28, gx28, hE⟩ := bindO_some hE
  refine s0 (cutM (l := (some a1)) (r := (some x26)) (TK rfl) rfl rfl rfl rfl (by simp) gx28) rfl ?_
  obtain ⟨x29, gx29, hE⟩ := bindO_some hE
  refine s0 (callP rfl rfl (fun H => Z25_walk gx29 H)) rfl ?_
  refine s0 moveA rfl ?_
  refine s0 (extract rfl rfl) rfl ?_
  refine s0 (extract rfl rfl) rfl ?_
  refine s0 assignA rfl ?_
  refine s0 assignA rfl ?_
  refine nil ?_
  refine hK27 _ ?_
  clear hK27 K27
  refine seqK fun K30 hK30 => ?_
  refine region ?_
  refine s0 moveA rfl ?_
  refine s0 moveA rfl ?_
  refine s0 moveA rfl ?_
  obtain ⟨x31, gx31, hE⟩ := bindO_some hE
  refine s0 (cutM (l := (some a1)) (r := (some x26)) (TK rfl) rfl rfl rfl rfl (by simp) gx31) rfl ?_
  refine s0 moveA rfl ?_
  refine s0 (build Tryd.tab_ok rfl rfl rfl rfl rfl rfl) rfl ?_
  refine s0 moveA rfl ?_
  refine s0 moveA rfl ?_
  refine sLn (storeLFA (TK rfl) rfl rfl rfl rfl rfl) ?_
  refine s0 assignA rfl ?_
  refine s0 assignA rfl ?_
  refine nil ?_
  refine hK30 _ ?_
  clear hK30 K30
  refine AWp.ret ?_
  repeat (first | refine xBlock_ret ?_ | refine xThen_ret ?_)
  obtain rfl := Option.some.inj hE
  refine retQ.retF H rfl ⟨rfl, rfl⟩ ?_
  exact (fun _ _ h => h)
 refine seqK fun K32 hK32 => ?_
 refine region ?_
 refine s0 moveA rfl ?_
 obtain ⟨x33, gx33, hE⟩ := bindO_some hE
 refine s0 (callP rfl rfl (fun H => Z29_walk gx33 H)) rfl ?_
 refine s0 assignA rfl ?_
 refine nil ?_
 refine hK32 _ ?_
 clear hK32 K32
 refine condE hE rfl (fun hc34 hE => ?_) (fun hc34 hE => ?_)
 ·refine seqK fun K35 hK35 => ?_
  refine region ?_
  refine s0 moveA rfl ?_
  refine s0 moveA rfl ?_
  obtain ⟨x36, gx36, hE⟩ := bindO_some hE
  refine s0 (callP rfl rfl (fun H => Z33_walk gx36 H (fun _ _ hx => Z29_walk hx))) rfl ?_
  refine s0 assignA rfl ?_
  refine nil ?_
  refine hK35 _ ?_
  clear hK35 K35
  refine seqK fun K37 hK37 => ?_
  refine seqK fun K38 hK38 => ?_
  refine region ?_
  refine s0 moveA rfl ?_
  refine s0 moveA rfl ?_
  obtain ⟨x39, gx39, hE⟩ := bindO_some hE
  refine s0 (subM rfl rfl gx39) rfl ?_
  refine s0 (binI rfl rfl rfl) rfl ?_
  refine nil ?_
  refine hK38 _ ?_
  clear hK38 K38
  refine condE hE rfl (fun hc40 hE => ?_) (fun hc40 hE => ?_)
  ·refine seqK fun K41 hK41 => ?_
   refine region ?_
   refine s0 (build Tryd.tab_ok rfl rfl rfl rfl rfl rfl) rfl ?_
   refine sLn (storeLFA (TK rfl) rfl rfl rfl rfl rfl) ?_
   refine s0 assignA rfl ?_
   refine s0 assignA rfl ?_
   refine nil ?_
   refine hK41 _ ?_
   clear hK41 K41
   refine AWp.ret ?_
   repeat (first | refine xBlock_ret ?_ | refine xThen_ret ?_)
   obtain rfl := Option.some.inj hE
   refine retQ.retF H rfl ⟨rfl, rfl⟩ ?_
   exact (fun _ _ h => h)
  refine AWp.skip ?_
  refine hK37 _ ?_
  clear hK37 K37
  refine seqK fun K42 hK42 => ?_
  refine region ?_
  refine s0 moveA rfl ?_
  refine s0 moveA rfl ?_
  refine s0 moveA rfl ?_
  obtain ⟨x43, gx43, hE⟩ := bindO_some hE
  refine s0 (cutM (l := (some a1)) (r := (some x36)) (TK rfl) rfl rfl rfl rfl (by simp) gx43) rfl ?_
  refine s0 moveA rfl ?_
  refine s0 (build Tryd.tab_ok rfl rfl rfl rfl rfl rfl) rfl ?_
  refine s0 moveA rfl ?_
  refine sLn (storeLFA (TK rfl) rfl rfl rfl rfl rfl) ?_
  refine s0 assignA rfl ?_
  refine s0 assignA rfl ?_
  refine nil ?_
  refine hK42 _ ?_
  clear hK42 K42
  refine AWp.ret ?_
  repeat (first | refine xBlock_ret ?_ | refine xThen_ret ?_)
  obtain rfl := Option.some.inj hE
  refine retQ.retF H rfl ⟨rfl, rfl⟩ ?_
  exact (fun _ _ h => h)
 refine seqK fun K44 hK44 => ?_
 refine region ?_
 refine s0 moveA rfl ?_
 refine s0 (binI rfl rfl rfl) rfl ?_
 refine s0 assignA rfl ?_
 refine nil ?_
 refine hK44 _ ?_
 clear hK44 K44
 refine condE hE rfl (fun hc45 hE => ?_) (fun hc45 hE => ?_)
 ·refine seqK fun K46 hK46 => ?_
  refine region ?_
  refine s0 moveA rfl ?_
  refine s0 moveA rfl ?_
  obtain ⟨x47, gx47, hE⟩ := bindO_some hE
  refine s0 (callP rfl rfl (fun H => Z30_walk gx47 H)) rfl ?_
  refine s0 assignA rfl ?_
  refine nil ?_
  refine hK46 _ ?_
  clear hK46 K46
  refine seqK fun K48 hK48 => ?_
  refine seqK fun K49 hK49 => ?_
  refine region ?_
  refine s0 moveA rfl ?_
  refine s0 (binI rfl rfl rfl) rfl ?_
  refine nil ?_
  refine hK49 _ ?_
  clear hK49 K49
  refine condE hE rfl (fun hc50 hE => ?_) (fun hc50 hE => ?_)
  ·refine seqK fun K51 hK51 => ?_
   refine region ?_
   refine s0 (build Tryd.tab_ok rfl rfl rfl rfl rfl rfl) rfl ?_
   refine sLn (storeLFA (TK rfl) rfl rfl rfl rfl rfl) ?_
   refine s0 assignA rfl ?_
   refine s0 assignA rfl ?_
   refine nil ?_
   refine hK51 _ ?_
   clear hK51 K51
   refine AWp.ret ?_
   repeat (first | refine xBlock_ret ?_ | refine xThen_ret ?_)
   obtain rfl := Option.some.inj hE
   refine retQ.retF H rfl ⟨rfl, rfl⟩ ?_
   exact (fun _ _ h => h)
  refine AWp.skip ?_
  refine hK48 _ ?_
  clear hK48 K48
  refine seqK fun K52 hK52 => ?_
  refine region ?_
  refine s0 moveA rfl ?_
  refine s0 moveA rfl ?_
  refine s0 moveA rfl ?_
  obtain ⟨x53, gx53, hE⟩ := bindO_some hE
  refine s0 (cutM (l := (some a1)) (r := (some x47)) (TK rfl) rfl rfl rfl rfl (by simp) gx53) rfl ?_
  obtain ⟨x54, gx54, hE⟩ := bindO_some hE
  refine s0 (callP rfl rfl (fun H => Z26_walk gx54 H)) rfl ?_
  refine s0 moveA rfl ?_
  refine s0 (extract rfl rfl) rfl ?_
  refine s0 (extract rfl rfl) rfl ?_
  refine s0 assignA rfl ?_
  refine s0 assignA rfl ?_
  refine nil ?_
  refine hK52 _ ?_
  clear hK52 K52
  refine seqK fun K55 hK55 => ?_
  refine region ?_
  refine s0 moveA rfl ?_
  refine s0 moveA rfl ?_
  refine s0 (build Tryd.tab_ok rfl rfl rfl rfl rfl rfl) rfl ?_
  refine s0 moveA rfl ?_
  refine s0 moveA rfl ?_
  refine sLn (storeLFA (TK rfl) rfl rfl rfl rfl rfl) ?_
  refine s0 assignA rfl ?_
  refine s0 assignA rfl ?_
  refine nil ?_
  refine hK55 _ ?_
  clear hK55 K55
  refine AWp.ret ?_
  repeat (first | refine xBlock_ret ?_ | refine xThen_ret ?_)
  obtain rfl := Option.some.inj hE
  refine retQ.retF H rfl ⟨rfl, rfl⟩ ?_
  exact (fun _ _ h => h)
 refine AWp.skip ?_
 refine hK4 _ ?_
 clear hK4 K4
 refine seqK fun K56 hK56 => ?_
 refine region ?_
 refine s0 (build Tryd.tab_ok rfl rfl rfl rfl rfl rfl) rfl ?_
 refine sLn (storeLFA (TK rfl) rfl rfl rfl rfl rfl) ?_
 refine s0 assignA rfl ?_
 refine s0 assignA rfl ?_
 refine nil ?_
 refine hK56 _ ?_
 clear hK56 K56
 refine AWp.ret ?_
 repeat (first | refine xBlock_ret ?_ | refine xThen_ret ?_)
 obtain rfl := Option.some.inj hE
 refine retQ.retF H rfl ⟨rfl, rfl⟩ ?_
 exact (fun _ _ h => h)
def Z28_j8 (a0 : Bs)  (s5_9 : (Sl Token_Token)) : Option ((Sl Token_Token) × Int × Int) := (appC 32 s5_9 (⟨false, [(Token_Token.mk (5 : Int) ([] : Bs) ((a0.length : Nat) : Int))]⟩ : Sl Token_Token)).bind fun x12 => some (x12, (0 : Int), (0 : Int))
def Z28_l15 (a0 : Bs)  : Nat → (Sl Token_Token) → Int → Option ((Sl Token_Token) × Int × Int)
 | 0, _, _ => none
 | n15 + 1, s5_16, s6_17 => bif (decide (s6_17 < ((a0.length : Nat) : Int))) then ((Z31 a0 s6_17).bind fun x24 => bif (!decide (x24.2.2 = (0 : Int))) then (some ((Sl.nil : Sl Token_Token), s6_17, x24.2.2)) else ((appC 32 s5_16 (⟨false, [x24.1]⟩ : Sl Token_Token)).bind fun x30 => (Z32 a0 x24.2.1).bind fun x31 => (Z28_l15 a0 n15) x30 x31)) else (Z28_j8 a0  s5_16)
def Z28 (a0 : Bs) : Option ((Sl Token_Token) × Int × Int) := bif (decide ((65536 : Int) < ((a0.length : Nat) : Int))) then (some ((Sl.nil : Sl Token_Token), (65536 : Int), (4 : Int))) else ((Z32 a0 (0 : Int)).bind fun x14 => Z28_l15 a0 F0 (Sl.nil : Sl Token_Token) x14)
theorem Z28_walk {a0 : Bs}   {r : ((Sl Token_Token) × Int × Int)} (hE : Z28 a0 = some r) (H : Heap)  : ACalls Tryd.prog 13 [.d (.str a0)] H fun v h' => v = .tup [.d (Sl.d 3 Token_Token.c none r.1), .d (.int .i64 r.2.1), .d (.int .i64 r.2.2)] ∧ h' = H := by
 unfold Z28 at hE
 refine ACalls.of_wp (fn := Tryd.f13) (c := _) Tryd.tab_ok (fun _ _ => Tryd.call13 _ _) Tryd.func13 rfl (n := 44) rfl (rs := [.tmp 2, .tmp 3, .tmp 4]) rfl rfl ?_
 refine AWp.tok 3 fun tk1 htk1 => ?_
 refine seqK fun K1 hK1 => ?_
 refine region ?_
 refine s0 (assignNil (k' := 3) rfl) rfl ?_
 refine s0 assignA rfl ?_
 refine s0 assignA rfl ?_
 refine nil ?_
 refine hK1 _ ?_
 clear hK1 K1
 refine seqK fun K2 hK2 => ?_
 refine seqK fun K3 hK3 => ?_
 refine region ?_
 refine s0 moveA rfl ?_
 refine sLenS (TK rfl) rfl rfl rfl rfl fun hL4 => ?_
 refine s0 (binI rfl rfl rfl) rfl ?_
 refine nil ?_
 refine hK3 _ ?_
 clear hK3 K3
 refine condE hE rfl (fun hc5 hE => ?_) (fun hc5 hE => ?_)
 ·refine seqK fun K6 hK6 => ?_
  refine region ?_
  refine s0 (assignNil (k' := 3) rfl) rfl ?_
  refine s0 assignA rfl ?_
  refine s0 assignA rfl ?_
  refine nil ?_
  refine hK6 _ ?_
  clear hK6 K6
  refine AWp.ret ?_
  repeat (first | refine xBlock_ret ?_ | refine xThen_ret ?_)
  obtain rfl := Option.some.inj hE
  refine retQ.retF H rfl ⟨rfl, rfl⟩ ?_
  first | exact Heap.sub_set htk1 | (simp only [Heap.set_set]; exact Heap.sub_set htk1)
 refine AWp.skip ?_
 refine hK2 _ ?_
 clear hK2 K2
 refine seqK fun K7 hK7 => ?_
 refine region ?_
 refine s0 assignA rfl ?_
 refine nil ?_
 refine hK7 _ ?_
 clear hK7 K7
 refine AWp.nilTok 5 3 tk1 rfl hpG ?_
 refine seqJH (KeepsT.A (k := 0) KeepsT.nil) (fun (z : (Sl Token_Token)) => [(5, .a (.d (Sl.d 3 Token_Token.c (some tk1) z)))]) (fun z => (H.set tk1 (some (.tok 3 z.l.length)))) (fun z => Z28_j8 a0 z = some r) ?_ ?_
 ·intro K8 hK8
  refine seqK fun K13 hK13 => ?_
  refine region ?_
  refine s0 moveA rfl ?_
  obtain ⟨x14, gx14, hE⟩ := bindO_some hE
  refine s0 (callP rfl rfl (fun H => Z32_walk gx14 H)) rfl ?_
  refine s0 assignA rfl ?_
  refine nil ?_
  refine hK13 _ ?_
  clear hK13 K13
  refine block ?_
  refine loopH (KeepsT.A (k := 0) KeepsT.nil) (fun (z : Nat × (Sl Token_Token) × Int) => [(5, .a (.d (Sl.d 3 Token_Token.c (some tk1) z.2.1))), (6, .a (.d (.int .i64 z.2.2)))]) (fun z => (H.set tk1 (some (.tok 3 z.2.1.l.length)))) (fun z => z.1) (fun z => Z28_l15 a0 z.1 z.2.1 z.2.2 = some r) (F0, (Sl.nil : Sl Token_Token), x14) hE Weak.toA ?_
  rintro ⟨n15, s5_16, s6_17⟩ hE K15 hK15
  try dsimp only at hE
  cases n15 with
  | zero => cases hE
  | succ n15 =>
    rw [Z28_l15] at hE
    refine seqK fun K18 hK18 => ?_
    refine seqK fun K19 hK19 => ?_
    refine region ?_
    refine s0 moveA rfl ?_
    refine s0 moveA rfl ?_
    refine sLenS (TK rfl) rfl rfl rfl rfl fun hL20 => ?_
    refine s0 (binI rfl rfl rfl) rfl ?_
    refine nil ?_
    refine hK19 _ ?_
    clear hK19 K19
    refine condE hE rfl (fun hc21 hE => ?_) (fun hc21 hE => ?_)
    ·refine AWp.skip ?_
     refine hK18 _ ?_
     clear hK18 K18
     refine seqK fun K22 hK22 => ?_
     refine block ?_
     refine seqK fun K23 hK23 => ?_
     refine region ?_
     refine s0 moveA rfl ?_
     refine s0 moveA rfl ?_
     obtain ⟨x24, gx24, hE⟩ := bindO_some hE
     refine s0 (callP rfl rfl (fun H => Z31_walk gx24 H)) rfl ?_
     refine s0 moveA rfl ?_
     refine s0 (extract rfl rfl) rfl ?_
     refine s0 (extract rfl rfl) rfl ?_
     refine s0 (extract rfl rfl) rfl ?_
     refine sL (allocLA (TK rfl) rfl) rfl ?_
     refine sLn (storeLFA (TK rfl) rfl rfl rfl rfl rfl) ?_
     refine s0 assignA rfl ?_
     refine s0 assignA rfl ?_
     refine nil ?_
     refine hK23 _ ?_
     clear hK23 K23
     refine freezeA 7 _ rfl (Keeps.c (k := 0) (by conv => lhs; whnf) (by rfl) (Keeps.c (k := 5) (by conv => lhs; whnf) (by rfl) (Keeps.c (k := 6) (by conv => lhs; whnf) (by rfl) (Keeps.c (k := 8) (by conv => lhs; whnf) (by rfl) (Keeps.c (k := 9) (by conv => lhs; whnf) (by rfl) Keeps.nil))))) ?_
     refine seqK fun K25 hK25 => ?_
     refine seqK fun K26 hK26 => ?_
     refine region ?_
     refine s0 moveA rfl ?_
     refine s0 (binI rfl rfl rfl) rfl ?_
     refine nil ?_
     refine hK26 _ ?_
     clear hK26 K26
     refine condE hE rfl (fun hc27 hE => ?_) (fun hc27 hE => ?_)
     ·refine seqK fun K28 hK28 => ?_
      refine region ?_
      refine s0 moveA rfl ?_
      refine s0 moveA rfl ?_
      refine s0 (assignNil (k' := 3) rfl) rfl ?_
      refine s0 assignA rfl ?_
      refine s0 assignA rfl ?_
      refine nil ?_
      refine hK28 _ ?_
      clear hK28 K28
      refine AWp.ret ?_
      repeat (first | refine xBlock_ret ?_ | refine xThen_ret ?_)
      obtain rfl := Option.some.inj hE
      refine retQ.retF H rfl ⟨rfl, rfl⟩ ?_
      first | exact Heap.sub_set htk1 | (simp only [Heap.set_set]; exact Heap.sub_set htk1)
     refine AWp.skip ?_
     refine hK25 _ ?_
     clear hK25 K25
     refine seqK fun K29 hK29 => ?_
     refine region ?_
     refine s0 moveA rfl ?_
     refine s0 (loadV (TK rfl) rfl rfl rfl) rfl ?_
     refine s0 (buildSlice (TK rfl) rfl (TK rfl) rfl rfl rfl rfl rfl rfl) rfl ?_
     obtain ⟨x30, gx30, hE⟩ := bindO_some hE
     refine sH (appM (f := Token_Token.c) (TK rfl) rfl (TK rfl) (TK rfl) ⟨_, rfl⟩ rfl rfl (by decide) rfl rfl rfl rfl hpG rfl gx30) rfl ?_
     refine AOps.heq (h' := (H.set tk1 (some (.tok 3 x30.l.length)))) (by first | rfl | (rw [Heap.set_set]; rfl) | (funext n_; simp only [Heap.set]; (repeat' split) <;> first | rfl | (exfalso; simp_all; done) | (simp_all; done))) ?_
     refine s0 assignA rfl ?_
     refine nil ?_
     refine hK29 _ ?_
     clear hK29 K29
     refine region ?_
     refine s0 moveA rfl ?_
     refine s0 assignA rfl ?_
     refine nil ?_
     refine hK22 _ ?_
     clear hK22 K22
     refine region ?_
     refine s0 moveA rfl ?_
     refine s0 moveA rfl ?_
     obtain ⟨x31, gx31, hE⟩ := bindO_some hE
     refine s0 (callP rfl rfl (fun H => Z32_walk gx31 H)) rfl ?_
     refine s0 assignA rfl ?_
     refine nil ?_
     exact hK15 _ (n15, x30, x31) Weak.toA hE (Nat.lt_succ_self _)
    refine AWp.exit ?_
    exact hK8 _ s5_16 Weak.toA hE
 rintro s5_9 hE
 try dsimp only at hE
 unfold Z28_j8 at hE
 refine seqK fun K10 hK10 => ?_
 refine region ?_
 refine s0 moveA rfl ?_
 refine s0 moveA rfl ?_
 refine sLenS (TK rfl) rfl rfl rfl rfl fun hL11 => ?_
 refine s0 (build Tryd.tab_ok rfl rfl rfl rfl rfl rfl) rfl ?_
 refine s0 (buildSlice (TK rfl) rfl (TK rfl) rfl rfl rfl rfl rfl rfl) rfl ?_
 obtain ⟨x12, gx12, hE⟩ := bindO_some hE
 refine sH (appM (f := Token_Token.c) (TK rfl) rfl (TK rfl) (TK rfl) ⟨_, rfl⟩ rfl rfl (by decide) rfl rfl rfl rfl hpG rfl gx12) rfl ?_
 refine AOps.heq (h' := (H.set tk1 (some (.tok 3 x12.l.length)))) (by first | rfl | (rw [Heap.set_set]; rfl) | (funext n_; simp only [Heap.set]; (repeat' split) <;> first | rfl | (exfalso; simp_all; done) | (simp_all; done))) ?_
 refine s0 assignA rfl ?_
 refine s0 assignA rfl ?_
 refine s0 assignA rfl ?_
 refine nil ?_
 refine hK10 _ ?_
 clear hK10 K10
 refine AWp.dropTok 2 rfl ?_
 refine AWp.ret ?_
 repeat (first | refine xBlock_ret ?_ | refine xThen_ret ?_)
 obtain rfl := Option.some.inj hE
 refine retQ.retF H rfl ⟨rfl, rfl⟩ ?_
 first | exact Heap.sub_set htk1 | (simp only [Heap.set_set]; exact Heap.sub_set htk1)
def Tryd.lay49_ren : Go.Shelf.Ren := ⟨fun | 35 => 49 | n => n, fun | 22 => 43 | 23 => 3 | 3 => 3 | 4 => 4 | 0 => 0 | n => n, fun | n => n⟩
theorem Tryd.lay49 : Go.Proofs.SlLaysE.n35 Tryd.prog Tryd.lay49_ren := {
 mixed := by kernel_rfl
 f35 := ⟨Tryd.f49.name, by decide, Tryd.func49.trans (congrArg some (by kernel_rfl))⟩
 t0 := Tryd.underlying0
 a0 := Tryd.isAgg0
 z0 := Tryd.sizeOf0
 v0 := Tryd.zeroValue0
 t3 := Tryd.underlying3
 a3 := Tryd.isAgg3
 z3 := Tryd.sizeOf3
 v3 := Tryd.zeroValue3
 t4 := Tryd.underlying4
 a4 := Tryd.isAgg4
 z4 := Tryd.sizeOf4
 v4 := Tryd.zeroValue4
 t22 := Tryd.underlying43
 a22 := Tryd.isAgg43
 z22 := Tryd.sizeOf43
 v22 := Tryd.zeroValue43
 a23 := Tryd.isAgg3
 z23 := Tryd.sizeOf3 }
theorem Z13_walk {s : Sl Int} {H : Heap} {id m : Nat} {nl : Bool} (hH : H id = some (.arr 1 (s.l.map (intE .i64)))) (hm : m = s.l.length) : ACalls Tryd.prog 49 [.d (.arr 1 id nl m)] H fun r h' => r = .tup [] ∧ h' = H.set id (some (.arr 1 ((Sl.rev s).l.map (intE .i64)))) :=
 revI_calls Tryd.lay49 hH hm rfl
end Go.Proofs
