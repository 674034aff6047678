import Derived.Test.YtmjbloiidajknaaGreatDoorV2
set_option maxRecDepth 100000
set_option maxHeartbeats 2000000
set_option linter.unusedVariables false
set_option linter.unusedSimpArgs false
namespace Go.Proofs
open Go Go.Ab
open AOps Cert AWp
variable {lou : Lou}
section
variable [IsLoud lou]
def Z46_j8 (a0 : Bs)  (s5_9 : (Sl Token_Token)) : Option ((Sl Token_Token) × Int × Int) := (appC 32 s5_9 (⟨false, [(Token_Token.mk (5 : Int) ([] : Bs) ((a0.length : Nat) : Int))]⟩ : Sl Token_Token)).bind fun x12 => some (x12, (0 : Int), (0 : Int))
def Z46_l15 (a0 : Bs)  : Nat → (Sl Token_Token) → Int → Option ((Sl Token_Token) × Int × Int)
 | 0, _, _ => none
 | n15 + 1, s5_16, s6_17 => bif (decide (s6_17 < ((a0.length : Nat) : Int))) then ((Z49 a0 s6_17).bind fun x24 => bif (!decide (x24.2.2 = (0 : Int))) then (some ((Sl.nil : Sl Token_Token), s6_17, x24.2.2)) else ((appC 32 s5_16 (⟨false, [x24.1]⟩ : Sl Token_Token)).bind fun x30 => (Z50 a0 x24.2.1).bind fun x31 => (Z46_l15 a0 n15) x30 x31)) else (Z46_j8 a0  s5_16)
def Z46 (a0 : Bs) : Option ((Sl Token_Token) × Int × Int) := bif (decide ((65536 : Int) < ((a0.length : Nat) : Int))) then (some ((Sl.nil : Sl Token_Token), (65536 : Int), (4 : Int))) else ((Z50 a0 (0 : Int)).bind fun x14 => Z46_l15 a0 F0 (Sl.nil : Sl Token_Token) x14)
theorem Z46_walk {a0 : Bs} {oE : Ab.Obj} {gE : Nat} {r : ((Sl Token_Token) × Int × Int)} (hE : Z46 a0 = some r) (H : Heap) (hgE : H gE = some oE) (hoE : IsErr Tryz.prog oE) : ACalls Tryz.prog 44 [.d (.str a0)] H fun v h' => v = .tup [.d (Sl.d 3 Token_Token.c none r.1), .d (.int .i64 r.2.1), .d (.int .i64 r.2.2)] ∧ h' = H := by
 unfold Z46 at hE
 refine ACalls.of_wp (fn := Tryz.f44) (c := _) Tryz.tab_ok (fun _ _ => Tryz.call44 _ _) Tryz.func44 rfl (n := 44) rfl (rs := [.tmp 2, .tmp 3, .tmp 4]) rfl rfl ?_
 refine AWp.tok 3 fun tk1 htk1 => ?_
 have ne_tk1_gE : tk1 ≠ gE := fun e_ => by subst e_; simp_all
 refine seqK fun K1 hK1 => ?_
 refine region ?_
 refine s0 (assignNil (k' := 3) rfl) rfl ?_
 refine s0 assignA rfl ?_
 refine s0 assignA rfl ?_
 refine nil ?_
 refine hK1 _ ?_
 clear hK1 K1
 refine seqK fun K2 hK2 => ?_
 refine seqK fun K3 hK3 => ?_
 refine region ?_
 refine s0 moveA rfl ?_
 refine sLenS (TK rfl) rfl rfl rfl rfl fun hL4 => ?_
 refine s0 (binI rfl rfl rfl) rfl ?_
 refine nil ?_
 refine hK3 _ ?_
 clear hK3 K3
 refine condE hE rfl (fun hc5 hE => ?_) (fun hc5 hE => ?_)
 ·refine seqK fun K6 hK6 => ?_
  refine region ?_
  refine s0 (assignNil (k' := 3) rfl) rfl ?_
  refine s0 assignA rfl ?_
  refine s0 assignA rfl ?_
  refine nil ?_
  refine hK6 _ ?_
  clear hK6 K6
  refine AWp.ret ?_
  repeat (first | refine xBlock_ret ?_ | refine xThen_ret ?_)
  obtain rfl := Option.some.inj hE
  refine retQ.retF H rfl ⟨rfl, rfl⟩ ?_
  first | exact Heap.sub_set htk1 | (simp only [Heap.set_set]; exact Heap.sub_set htk1)
 refine AWp.skip ?_
 refine hK2 _ ?_
 clear hK2 K2
 refine seqK fun K7 hK7 => ?_
 refine region ?_
 refine s0 assignA rfl ?_
 refine nil ?_
 refine hK7 _ ?_
 clear hK7 K7
 refine AWp.nilTok 5 3 tk1 rfl hpG ?_
 refine seqJH (KeepsT.A (k := 0) KeepsT.nil) (fun (z : (Sl Token_Token)) => [(5, .a (.d (Sl.d 3 Token_Token.c (some tk1) z)))]) (fun z => (H.set tk1 (some (.tok 3 z.l.length)))) (fun z => Z46_j8 a0 z = some r) ?_ ?_
 ·intro K8 hK8
  refine seqK fun K13 hK13 => ?_
  refine region ?_
  refine s0 moveA rfl ?_
  obtain ⟨x14, gx14, hE⟩ := bindO_some hE
  refine s0 (callP rfl rfl (fun H => Z50_walk gx14 H)) rfl ?_
  refine s0 assignA rfl ?_
  refine nil ?_
  refine hK13 _ ?_
  clear hK13 K13
  refine block ?_
  refine loopH (KeepsT.A (k := 0) KeepsT.nil) (fun (z : Nat × (Sl Token_Token) × Int) => [(5, .a (.d (Sl.d 3 Token_Token.c (some tk1) z.2.1))), (6, .a (.d (.int .i64 z.2.2)))]) (fun z => (H.set tk1 (some (.tok 3 z.2.1.l.length)))) (fun z => z.1) (fun z => Z46_l15 a0 z.1 z.2.1 z.2.2 = some r) (F0, (Sl.nil : Sl Token_Token), x14) hE Weak.toA ?_
  rintro ⟨n15, s5_16, s6_17⟩ hE K15 hK15
  try dsimp only at hE
  cases n15 with
  | zero => cases hE
  | succ n15 =>
    rw [Z46_l15] at hE
    refine seqK fun K18 hK18 => ?_
    refine seqK fun K19 hK19 => ?_
    refine region ?_
    refine s0 moveA rfl ?_
    refine s0 moveA rfl ?_
    refine sLenS (TK rfl) rfl rfl rfl rfl fun hL20 => ?_
    refine s0 (binI rfl rfl rfl) rfl ?_
    refine nil ?_
    refine hK19 _ ?_
    clear hK19 K19
    refine condE hE rfl (fun hc21 hE => ?_) (fun hc21 hE => ?_)
    ·refine AWp.skip ?_
     refine hK18 _ ?_
     clear hK18 K18
     refine seqK fun K22 hK22 => ?_
     refine block ?_
     refine seqK fun K23 hK23 => ?_
     refine region ?_
     refine s0 moveA rfl ?_
     refine s0 moveA rfl ?_
     obtain ⟨x24, gx24, hE⟩ := bindO_some hE
     refine s0 (callR rfl rfl (Z49_walk (gE := gE) (oE := oE) gx24 _ hpG (by assumption))) rfl ?_
     refine s0 moveA rfl ?_
     refine s0 (extract rfl rfl) rfl ?_
     refine s0 (extract rfl rfl) rfl ?_
     refine s0 (extract rfl rfl) rfl ?_
     refine sL (allocLA (TK rfl) rfl) rfl ?_
     refine sLn (storeLFA (TK rfl) rfl rfl rfl rfl rfl) ?_
     refine s0 assignA rfl ?_
     refine s0 assignA rfl ?_
     refine nil ?_
     refine hK23 _ ?_
     clear hK23 K23
     refine freezeA 7 _ rfl (Keeps.c (k := 0) (by conv => lhs; whnf) (by rfl) (Keeps.c (k := 5) (by conv => lhs; whnf) (by rfl) (Keeps.c (k := 6) (by conv => lhs; whnf) (by rfl) (Keeps.c (k := 8) (by conv => lhs; whnf) (by rfl) (Keeps.c (k := 9) (by conv => lhs; whnf) (by rfl) Keeps.nil))))) ?_
     refine seqK fun K25 hK25 => ?_
     refine seqK fun K26 hK26 => ?_
     refine region ?_
     refine s0 moveA rfl ?_
     refine s0 (binI rfl rfl rfl) rfl ?_
     refine nil ?_
     refine hK26 _ ?_
     clear hK26 K26
     refine condE hE rfl (fun hc27 hE => ?_) (fun hc27 hE => ?_)
     ·refine seqK fun K28 hK28 => ?_
      refine region ?_
      refine s0 moveA rfl ?_
      refine s0 moveA rfl ?_
      refine s0 (assignNil (k' := 3) rfl) rfl ?_
      refine s0 assignA rfl ?_
      refine s0 assignA rfl ?_
      refine nil ?_
      refine hK28 _ ?_
      clear hK28 K28
      refine AWp.ret ?_
      repeat (first | refine xBlock_ret ?_ | refine xThen_ret ?_)
      obtain rfl := Option.some.inj hE
      refine retQ.retF H rfl ⟨rfl, rfl⟩ ?_
      first | exact Heap.sub_set htk1 | (simp only [Heap.set_set]; exact Heap.sub_set htk1)
     refine AWp.skip ?_
     refine hK25 _ ?_
     clear hK25 K25
     refine seqK fun K29 hK29 => ?_
     refine region ?_
     refine s0 moveA rfl ?_
     refine s0 (loadV (TK rfl) rfl rfl rfl) rfl ?_
     refine s0 (buildSlice (TK rfl) rfl (TK rfl) rfl rfl rfl rfl rfl rfl) rfl ?_
     obtain ⟨x30, gx30, hE⟩ := bindO_some hE
     refine sH (appM (f := Token_Token.c) (TK rfl) rfl (TK rfl) (TK rfl) ⟨_, rfl⟩ rfl rfl (by decide) rfl rfl rfl rfl hpG rfl gx30) rfl ?_
     refine AOps.heq (h' := (H.set tk1 (some (.tok 3 x30.l.length)))) (by first | rfl | (rw [Heap.set_set]; rfl) | (funext n_; simp only [Heap.set]; (repeat' split) <;> first | rfl | (exfalso; simp_all; done) | (simp_all; done))) ?_
     refine s0 assignA rfl ?_
     refine nil ?_
     refine hK29 _ ?_
     clear hK29 K29
     refine region ?_
     refine s0 moveA rfl ?_
     refine s0 assignA rfl ?_
     refine nil ?_
     refine hK22 _ ?_
     clear hK22 K22
     refine region ?_
     refine s0 moveA rfl ?_
     refine s0 moveA rfl ?_
     obtain ⟨x31, gx31, hE⟩ := bindO_some hE
     refine s0 (callP rfl rfl (fun H => Z50_walk gx31 H)) rfl ?_
     refine s0 assignA rfl ?_
     refine nil ?_
     exact hK15 _ (n15, x30, x31) Weak.toA hE (Nat.lt_succ_self _)
    refine AWp.exit ?_
    exact hK8 _ s5_16 Weak.toA hE
 rintro s5_9 hE
 try dsimp only at hE
 unfold Z46_j8 at hE
 refine seqK fun K10 hK10 => ?_
 refine region ?_
 refine s0 moveA rfl ?_
 refine s0 moveA rfl ?_
 refine sLenS (TK rfl) rfl rfl rfl rfl fun hL11 => ?_
 refine s0 (build Tryz.tab_ok rfl rfl rfl rfl rfl rfl) rfl ?_
 refine s0 (buildSlice (TK rfl) rfl (TK rfl) rfl rfl rfl rfl rfl rfl) rfl ?_
 obtain ⟨x12, gx12, hE⟩ := bindO_some hE
 refine sH (appM (f := Token_Token.c) (TK rfl) rfl (TK rfl) (TK rfl) ⟨_, rfl⟩ rfl rfl (by decide) rfl rfl rfl rfl hpG rfl gx12) rfl ?_
 refine AOps.heq (h' := (H.set tk1 (some (.tok 3 x12.l.length)))) (by first | rfl | (rw [Heap.set_set]; rfl) | (funext n_; simp only [Heap.set]; (repeat' split) <;> first | rfl | (exfalso; simp_all; done) | (simp_all; done))) ?_
 refine s0 assignA rfl ?_
 refine s0 assignA rfl ?_
 refine s0 assignA rfl ?_
 refine nil ?_
 refine hK10 _ ?_
 clear hK10 K10
 refine AWp.dropTok 2 rfl ?_
 refine AWp.ret ?_
 repeat (first | refine xBlock_ret ?_ | refine xThen_ret ?_)
 obtain rfl := Option.some.inj hE
 refine retQ.retF H rfl ⟨rfl, rfl⟩ ?_
 first | exact Heap.sub_set htk1 | (simp only [Heap.set_set]; exact Heap.sub_set htk1)
end
def Tryz.lay45_ren : Go.Shelf.Ren := ⟨fun | 35 => 45 | n => n, fun | 22 => 22 | 23 => 3 | 3 => 3 | 4 => 4 | 0 => 0 | n => n, fun | n => n⟩
theorem Tryz.lay45 : Go.Proofs.SlLaysE.n35 Tryz.prog Tryz.lay45_ren := {
 mixed := by kernel_rfl
 f35 := ⟨Tryz.f45.name, by decide, Tryz.func45.trans (congrArg some (by kernel_rfl))⟩
 t0 := Tryz.underlying0
 a0 := Tryz.isAgg0
 z0 := Tryz.sizeOf0
 v0 := Tryz.zeroValue0
 t3 := Tryz.underlying3
 a3 := Tryz.isAgg3
 z3 := Tryz.sizeOf3
 v3 := Tryz.zeroValue3
 t4 := Tryz.underlying4
 a4 := Tryz.isAgg4
 z4 := Tryz.sizeOf4
 v4 := Tryz.zeroValue4
 t22 := Tryz.underlying22
 a22 := Tryz.isAgg22
 z22 := Tryz.sizeOf22
 v22 := Tryz.zeroValue22
 a23 := Tryz.isAgg3
 z23 := Tryz.sizeOf3 }
theorem Z31_walk {s : Sl Int} {H : Heap} {id m : Nat} {nl : Bool} (hH : H id = some (.arr 1 (s.l.map (intE .i64)))) (hm : m = s.l.length) : ACalls Tryz.prog 45 [.d (.arr 1 id nl m)] H fun r h' => r = .tup [] ∧ h' = H.set id (some (.arr 1 ((Sl.rev s).l.map (intE .i64)))) :=
 revI_calls Tryz.lay45 hH hm rfl
section
variable [IsLoud lou]
def Z60_j22  (s4_23 : (Sl Token_Token)) (y24_l0 : TRef) (y25_l1 : TRef) : Option (TRef × Int) := (s4_23.l[0]?).bind fun x28 => bif (!decide (x28.FKind = (5 : Int))) then (some ((TRef.mk ([] : Bs) (Sl.nil : Sl Int)), (3 : Int))) else (bif (decide ((24 : Int) < ((y25_l1.FWraps.l.length : Nat) : Int))) then (some ((TRef.mk ([] : Bs) (Sl.nil : Sl Int)), (5 : Int))) else ((some (Sl.rev y25_l1.FWraps)).bind fun x37 => some ((TRef.mk y25_l1.FName x37), (0 : Int))))
def Z60_j44 (s8_41 : Int) (y42_l0 : TRef) (k_next_39 : (Sl Token_Token) → Int → TRef → TRef → Option (TRef × Int)) (s4_45 : (Sl Token_Token)) (y46_l1 : TRef) : Option (TRef × Int) := bif (decide (s8_41 = (0 : Int))) then (Z60_j22   s4_45 y42_l0 y46_l1) else ((s4_45.l[0]?).bind fun x52 => guardO (!(!decide (x52.FKind = (1 : Int)))) (s4_45.l[0]?) Token_Token.zero fun x53 => bif ((!decide (x52.FKind = (1 : Int))) || (!(x53.FText == ([93] : Bs)))) then (some ((TRef.mk ([] : Bs) (Sl.nil : Sl Int)), (3 : Int))) else ((appC 8 y46_l1.FWraps (⟨false, [(2 : Int)]⟩ : Sl Int)).bind fun x56 => (partC s4_45 (some (1 : Int)) none).bind fun x57 => (subC s8_41 (1 : Int)).bind fun x58 => k_next_39 x57 x58 y42_l0 (TRef.mk y46_l1.FName x56)))
def Z60_l39  : Nat → (Sl Token_Token) → Int → TRef → TRef → Option (TRef × Int)
 | 0, _, _, _, _ => none
 | n39 + 1, s4_40, s8_41, y42_l0, y43_l1 => (s4_40.l[0]?).bind fun x60 => guardO ((decide (x60.FKind = (1 : Int)))) (s4_40.l[0]?) Token_Token.zero fun x61 => bif ((decide (x60.FKind = (1 : Int))) && ((x61.FText == ([33] : Bs)))) then ((appC 8 y43_l1.FWraps (⟨false, [(1 : Int)]⟩ : Sl Int)).bind fun x63 => (partC s4_40 (some (1 : Int)) none).bind fun x64 => Z60_j44 s8_41 y42_l0 ((Z60_l39  n39)) x64 (TRef.mk y43_l1.FName x63)) else (Z60_j44 s8_41 y42_l0 ((Z60_l39  n39)) s4_40 y43_l1)
def Z60_j11  (s4_12 : (Sl Token_Token)) (s8_13 : Int) : Option (TRef × Int) := (s4_12.l[0]?).bind fun x16 => bif (!decide (x16.FKind = (2 : Int))) then (some ((TRef.mk ([] : Bs) (Sl.nil : Sl Int)), (3 : Int))) else ((s4_12.l[0]?).bind fun x20 => (partC s4_12 (some (1 : Int)) none).bind fun x21 => Z60_l39 F0 x21 s8_13 TRef.zero (TRef.mk x20.FText TRef.zero.FWraps))
def Z60_l65  : Nat → (Sl Token_Token) → Int → Option (TRef × Int)
 | 0, _, _ => none
 | n65 + 1, s4_66, s8_67 => (s4_66.l[0]?).bind fun x70 => guardO ((decide (x70.FKind = (1 : Int)))) (s4_66.l[0]?) Token_Token.zero fun x71 => bif ((decide (x70.FKind = (1 : Int))) && ((x71.FText == ([91] : Bs)))) then ((addC s8_67 (1 : Int)).bind fun x73 => (partC s4_66 (some (1 : Int)) none).bind fun x74 => (Z60_l65  n65) x74 x73) else (Z60_j11   s4_66 s8_67)
def Z60 (a0 : Bs) : Option (TRef × Int) := (Z46 a0).bind fun x3 => bif (!decide (x3.2.2 = (0 : Int))) then (some ((TRef.mk ([] : Bs) (Sl.nil : Sl Int)), x3.2.2)) else (Z60_l65 F0 x3.1 (0 : Int))
theorem Z60_walk {a0 : Bs} {oE : Ab.Obj} {gE : Nat} {r : (TRef × Int)} (hE : Z60 a0 = some r) (H : Heap) (hgE : H gE = some oE) (hoE : IsErr Tryz.prog oE) : ACalls Tryz.prog 32 [.d (.str a0)] H fun v h' => v = .tup [.agg (TRef.c r.1), .d (.int .i64 r.2)] ∧ h' = H := by
 unfold Z60 at hE
 refine ACalls.of_wp (fn := Tryz.f32) (c := _) Tryz.tab_ok (fun _ _ => Tryz.call32 _ _) Tryz.func32 rfl (n := 106) rfl (rs := [.cell 2 24, .tmp 3]) rfl rfl ?_
 refine seqK fun K1 hK1 => ?_
 refine region ?_
 refine sL (allocLA (TK rfl) rfl) rfl ?_
 refine s0 assignA rfl ?_
 refine nil ?_
 refine hK1 _ ?_
 clear hK1 K1
 refine seqK fun K2 hK2 => ?_
 refine region ?_
 refine s0 moveA rfl ?_
 obtain ⟨x3, gx3, hE⟩ := bindO_some hE
 refine s0 (callR rfl rfl (Z46_walk (gE := gE) (oE := oE) gx3 _ hpG (by assumption))) rfl ?_
 refine s0 moveA rfl ?_
 refine s0 (extract rfl rfl) rfl ?_
 refine s0 (extract rfl rfl) rfl ?_
 refine s0 (extract rfl rfl) rfl ?_
 refine s0 assignA rfl ?_
 refine s0 assignA rfl ?_
 refine s0 assignA rfl ?_
 refine nil ?_
 refine hK2 _ ?_
 clear hK2 K2
 refine seqK fun K4 hK4 => ?_
 refine seqK fun K5 hK5 => ?_
 refine region ?_
 refine s0 moveA rfl ?_
 refine s0 (binI rfl rfl rfl) rfl ?_
 refine nil ?_
 refine hK5 _ ?_
 clear hK5 K5
 refine condE hE rfl (fun hc6 hE => ?_) (fun hc6 hE => ?_)
 ·refine seqK fun K7 hK7 => ?_
  refine region ?_
  refine s0 (build Tryz.tab_ok rfl rfl rfl rfl rfl rfl) rfl ?_
  refine s0 moveA rfl ?_
  refine sLn (storeLFA (TK rfl) rfl rfl rfl rfl rfl) ?_
  refine s0 assignA rfl ?_
  refine nil ?_
  refine hK7 _ ?_
  clear hK7 K7
  refine AWp.ret ?_
  repeat (first | refine xBlock_ret ?_ | refine xThen_ret ?_)
  obtain rfl := Option.some.inj hE
  refine retQ.retF H rfl ⟨rfl, rfl⟩ ?_
  exact (fun _ _ h => h)
 refine AWp.skip ?_
 refine hK4 _ ?_
 clear hK4 K4
 refine seqK fun K8 hK8 => ?_
 refine region ?_
 refine sL (allocLA (TK rfl) rfl) rfl ?_
 refine AOps.arrO 1 fun tk7_9 htk7_9 => ?_
 have ne_tk7_9_gE : tk7_9 ≠ gE := fun e_ => by subst e_; simp_all
 refine AOps.relocal 1 _ rfl (fun j w cs hh hx => arr_cell 1 1 1 hh (t := tk7_9) hpG hx rfl) ?_
 refine nil ?_
 refine hK8 _ ?_
 clear hK8 K8
 refine seqK fun K10 hK10 => ?_
 refine region ?_
 refine s0 assignA rfl ?_
 refine nil ?_
 refine hK10 _ ?_
 clear hK10 K10
 refine seqJH (KeepsT.A (k := 2) (KeepsT.A (k := 7) KeepsT.nil)) (fun (z : (Sl Token_Token) × Int) => [(4, .a (.d (Sl.d 3 Token_Token.c none z.1))), (8, .a (.d (.int .i64 z.2)))]) (fun z => (H.set tk7_9 (some (.arr 1 [])))) (fun z => Z60_j11 z.1 z.2 = some r) ?_ ?_
 ·intro K11 hK11
  refine block ?_
  refine loopH (KeepsT.A (k := 2) (KeepsT.A (k := 7) KeepsT.nil)) (fun (z : Nat × (Sl Token_Token) × Int) => [(4, .a (.d (Sl.d 3 Token_Token.c none z.2.1))), (8, .a (.d (.int .i64 z.2.2)))]) (fun z => (H.set tk7_9 (some (.arr 1 [])))) (fun z => z.1) (fun z => Z60_l65 z.1 z.2.1 z.2.2 = some r) (F0, x3.1, (0 : Int)) hE Weak.toA ?_
  rintro ⟨n65, s4_66, s8_67⟩ hE K65 hK65
  try dsimp only at hE
  cases n65 with
  | zero => cases hE
  | succ n65 =>
    rw [Z60_l65] at hE
    refine seqK fun K68 hK68 => ?_
    refine seqK fun K69 hK69 => ?_
    refine region ?_
    refine s0 moveA rfl ?_
    obtain ⟨x70, gx70, hE⟩ := bindO_some hE
    refine s0 (idxMn (f := Token_Token.c) (n := 0) (TK rfl) rfl (TK rfl) rfl rfl rfl gx70) rfl ?_
    refine s0 (fieldVA (TK rfl) rfl rfl (TK rfl) rfl rfl) rfl ?_
    refine s0 (loadV (TK rfl) rfl rfl rfl) rfl ?_
    refine s0 (binI rfl rfl rfl) rfl ?_
    refine s0 moveA rfl ?_
    refine gC rfl rfl (fun hC => moveA) rfl ?_
    obtain ⟨x71, gx71, hE⟩ := guardO_some hE
    refine gC rfl rfl (fun hC => ungdA (k := 25) rfl (idxMn (f := Token_Token.c) (n := 0) (TK rfl) rfl (TK rfl) rfl rfl rfl (gx71 hC))) rfl ?_
    refine gC rfl rfl (fun hC => ungdA (k := 26) rfl (fieldVA (TK rfl) rfl rfl (TK rfl) rfl rfl)) rfl ?_
    refine gC rfl rfl (fun hC => ungdA (k := 27) rfl (loadV (TK rfl) rfl rfl rfl)) rfl ?_
    refine gC rfl rfl (fun hC => ungdA (k := 28) rfl (binS rfl rfl rfl)) rfl ?_
    refine s0 (pickAndA rfl rfl rfl) rfl ?_
    refine nil ?_
    refine hK69 _ ?_
    clear hK69 K69
    refine condE hE rfl (fun hc72 hE => ?_) (fun hc72 hE => ?_)
    ·refine AWp.skip ?_
     refine hK68 _ ?_
     clear hK68 K68
     refine block ?_
     refine AWp.draw rfl ?_
     refine DOps.s0 moveA rfl ?_
     obtain ⟨x73, gx73, hE⟩ := bindO_some hE
     refine DOps.s0 (addM rfl rfl gx73) rfl ?_
     refine DOps.s0 moveA rfl ?_
     obtain ⟨x74, gx74, hE⟩ := bindO_some hE
     refine DOps.s0 (partM (f := Token_Token.c) (l := (some (1 : Int))) (r := none) (TK rfl) rfl (TK rfl) rfl rfl rfl trivial gx74) rfl ?_
     refine DOps.s0 assignA rfl ?_
     refine DOps.s0 assignA rfl ?_
     refine DOps.nil (by decide +kernel) ?_
     exact hK65 _ (n65, x74, x73) Weak.toA hE (Nat.lt_succ_self _)
    refine AWp.exit ?_
    exact hK11 _ (s4_66, s8_67) Weak.toA hE
 rintro ⟨s4_12, s8_13⟩ hE
 try dsimp only at hE
 unfold Z60_j11 at hE
 refine seqK fun K14 hK14 => ?_
 refine seqK fun K15 hK15 => ?_
 refine region ?_
 refine s0 moveA rfl ?_
 obtain ⟨x16, gx16, hE⟩ := bindO_some hE
 refine s0 (idxMn (f := Token_Token.c) (n := 0) (TK rfl) rfl (TK rfl) rfl rfl rfl gx16) rfl ?_
 refine s0 (fieldVA (TK rfl) rfl rfl (TK rfl) rfl rfl) rfl ?_
 refine s0 (loadV (TK rfl) rfl rfl rfl) rfl ?_
 refine s0 (binI rfl rfl rfl) rfl ?_
 refine nil ?_
 refine hK15 _ ?_
 clear hK15 K15
 refine condE hE rfl (fun hc17 hE => ?_) (fun hc17 hE => ?_)
 ·refine seqK fun K18 hK18 => ?_
  refine region ?_
  refine s0 (build Tryz.tab_ok rfl rfl rfl rfl rfl rfl) rfl ?_
  refine sLn (storeLFA (TK rfl) rfl rfl rfl rfl rfl) ?_
  refine s0 assignA rfl ?_
  refine nil ?_
  refine hK18 _ ?_
  clear hK18 K18
  refine AWp.ret ?_
  repeat (first | refine xBlock_ret ?_ | refine xThen_ret ?_)
  obtain rfl := Option.some.inj hE
  refine retQ.retF H rfl ⟨rfl, rfl⟩ ?_
  first | exact Heap.sub_set htk7_9 | (simp only [Heap.set_set]; exact Heap.sub_set htk7_9)
 refine AWp.skip ?_
 refine hK14 _ ?_
 clear hK14 K14
 refine seqK fun K19 hK19 => ?_
 refine AWp.draw rfl ?_
 refine DOps.s0 moveA rfl ?_
 obtain ⟨x20, gx20, hE⟩ := bindO_some hE
 refine DOps.s0 (idxMn (f := Token_Token.c) (n := 0) (TK rfl) rfl (TK rfl) rfl rfl rfl gx20) rfl ?_
 refine DOps.s0 (fieldVA (TK rfl) rfl rfl (TK rfl) rfl rfl) rfl ?_
 refine DOps.s0 (loadV (TK rfl) rfl rfl rfl) rfl ?_
 refine DOps.s0 moveA rfl ?_
 obtain ⟨x21, gx21, hE⟩ := bindO_some hE
 refine DOps.s0 (partM (f := Token_Token.c) (l := (some (1 : Int))) (r := none) (TK rfl) rfl (TK rfl) rfl rfl rfl trivial gx21) rfl ?_
 refine DOps.s0 (fieldL (TK rfl) rfl rfl (TK rfl) rfl rfl) rfl ?_
 refine DOps.sLn (storeL1 (TK rfl) rfl rfl rfl rfl (by repeat (first | exact SetAt.zero | apply SetAt.succ)) (by repeat (first | exact SetAt.zero | apply SetAt.succ))) ?_
 refine DOps.s0 assignA rfl ?_
 refine DOps.nil (by decide +kernel) ?_
 refine hK19 _ ?_
 clear hK19 K19
 refine seqJ (KeepsT.A (k := 2) (KeepsT.A (k := 7) KeepsT.nil)) (fun (z : (Sl Token_Token) × TRef × TRef) => [(4, .a (.d (Sl.d 3 Token_Token.c none z.1)))]) (fun z => [TRef.c z.2.1, (strE z.2.2.FName ++ [.arr 1 tk7_9 z.2.2.FWraps.nl z.2.2.FWraps.l.length])]) (fun z => (H.set tk7_9 (some (.arr 1 (z.2.2.FWraps.l.map (intE .i64)))))) (fun z => Z60_j22 z.1 z.2.1 z.2.2 = some r) ?_ ?_
 ·intro K22 hK22
  refine block ?_
  refine loopO (KeepsT.A (k := 2) (KeepsT.A (k := 7) KeepsT.nil)) (fun (z : Nat × (Sl Token_Token) × Int × TRef × TRef) => [(4, .a (.d (Sl.d 3 Token_Token.c none z.2.1))), (8, .a (.d (.int .i64 z.2.2.1)))]) (fun z => [TRef.c z.2.2.2.1, (strE z.2.2.2.2.FName ++ [.arr 1 tk7_9 z.2.2.2.2.FWraps.nl z.2.2.2.2.FWraps.l.length])]) (fun z => (H.set tk7_9 (some (.arr 1 (z.2.2.2.2.FWraps.l.map (intE .i64)))))) (fun z => z.1) (fun z => Z60_l39 z.1 z.2.1 z.2.2.1 z.2.2.2.1 z.2.2.2.2 = some r) (F0, x21, s8_13, TRef.zero, (TRef.mk x20.FText TRef.zero.FWraps)) hE Weak.toA ?_
  rintro ⟨n39, s4_40, s8_41, y42_l0, y43_l1⟩ hE K39 hK39
  try dsimp only at hE
  cases n39 with
  | zero => cases hE
  | succ n39 =>
    rw [Z60_l39] at hE
    refine block ?_
    refine seqJ (KeepsT.A (k := 2) (KeepsT.A (k := 7) (KeepsT.A (k := 8) KeepsT.nil))) (fun (z : (Sl Token_Token) × TRef) => [(4, .a (.d (Sl.d 3 Token_Token.c none z.1)))]) (fun z => [TRef.c y42_l0, (strE z.2.FName ++ [.arr 1 tk7_9 z.2.FWraps.nl z.2.FWraps.l.length])]) (fun z => (H.set tk7_9 (some (.arr 1 (z.2.FWraps.l.map (intE .i64)))))) (fun z => Z60_j44 s8_41 y42_l0 ((Z60_l39 n39)) z.1 z.2 = some r) ?_ ?_
    ·intro K44 hK44
     refine seqK fun K59 hK59 => ?_
     refine region ?_
     refine s0 moveA rfl ?_
     obtain ⟨x60, gx60, hE⟩ := bindO_some hE
     refine s0 (idxMn (f := Token_Token.c) (n := 0) (TK rfl) rfl (TK rfl) rfl rfl rfl gx60) rfl ?_
     refine s0 (fieldVA (TK rfl) rfl rfl (TK rfl) rfl rfl) rfl ?_
     refine s0 (loadV (TK rfl) rfl rfl rfl) rfl ?_
     refine s0 (binI rfl rfl rfl) rfl ?_
     refine s0 moveA rfl ?_
     refine gC rfl rfl (fun hC => moveA) rfl ?_
     obtain ⟨x61, gx61, hE⟩ := guardO_some hE
     refine gC rfl rfl (fun hC => ungdA (k := 54) rfl (idxMn (f := Token_Token.c) (n := 0) (TK rfl) rfl (TK rfl) rfl rfl rfl (gx61 hC))) rfl ?_
     refine gC rfl rfl (fun hC => ungdA (k := 55) rfl (fieldVA (TK rfl) rfl rfl (TK rfl) rfl rfl)) rfl ?_
     refine gC rfl rfl (fun hC => ungdA (k := 56) rfl (loadV (TK rfl) rfl rfl rfl)) rfl ?_
     refine gC rfl rfl (fun hC => ungdA (k := 57) rfl (binS rfl rfl rfl)) rfl ?_
     refine s0 (pickAndA rfl rfl rfl) rfl ?_
     refine nil ?_
     refine hK59 _ ?_
     clear hK59 K59
     refine condE hE rfl (fun hc62 hE => ?_) (fun hc62 hE => ?_)
     ·refine AWp.draw rfl ?_
      refine DOps.s0 (fieldL (TK rfl) rfl rfl (TK rfl) rfl rfl) rfl ?_
      refine DOps.s0 (loadL (TK rfl) rfl rfl rfl rfl) rfl ?_
      refine DOps.s0 (buildSlice (TK rfl) rfl (TK rfl) rfl rfl rfl rfl rfl rfl) rfl ?_
      obtain ⟨x63, gx63, hE⟩ := bindO_some hE
      refine DOps.sH (appR (f := (intE .i64)) (s := y43_l1.FWraps) (TK rfl) rfl (TK rfl) (TK rfl) ⟨_, rfl⟩ rfl rfl rfl rfl rfl rfl hpG (by first | rfl | simp [Sl.setL, Sl.nil, sortL_len]) rfl gx63) rfl ?_
      refine DOps.heq (h' := (H.set tk7_9 (some (.arr 1 (x63.l.map (intE .i64)))))) (by first | rfl | (rw [Heap.set_set]; rfl) | (funext n_; simp only [Heap.set]; (repeat' split) <;> first | rfl | (exfalso; simp_all; done) | (simp_all; done))) ?_
      refine DOps.s0 moveA rfl ?_
      obtain ⟨x64, gx64, hE⟩ := bindO_some hE
      refine DOps.s0 (partM (f := Token_Token.c) (l := (some (1 : Int))) (r := none) (TK rfl) rfl (TK rfl) rfl rfl rfl trivial gx64) rfl ?_
      refine DOps.s0 (fieldL (TK rfl) rfl rfl (TK rfl) rfl rfl) rfl ?_
      refine DOps.sLn (storeL1 (TK rfl) rfl rfl rfl rfl (by repeat (first | exact SetAt.zero | apply SetAt.succ)) (by repeat (first | exact SetAt.zero | apply SetAt.succ))) ?_
      refine DOps.s0 assignA rfl ?_
      refine DOps.nil (by decide +kernel) ?_
      exact hK44 _ (x64, (TRef.mk y43_l1.FName x63)) Weak.toA hE
     refine AWp.skip ?_
     exact hK44 _ (s4_40, y43_l1) Weak.toA hE
    rintro ⟨s4_45, y46_l1⟩ hE
    try dsimp only at hE
    unfold Z60_j44 at hE
    refine seqK fun K47 hK47 => ?_
    refine seqK fun K48 hK48 => ?_
    refine region ?_
    refine s0 moveA rfl ?_
    refine s0 (binI rfl rfl rfl) rfl ?_
    refine nil ?_
    refine hK48 _ ?_
    clear hK48 K48
    refine condE hE rfl (fun hc49 hE => ?_) (fun hc49 hE => ?_)
    ·refine AWp.exit ?_
     exact hK22 _ (s4_45, y42_l0, y46_l1) Weak.toA hE
    refine AWp.skip ?_
    refine hK47 _ ?_
    clear hK47 K47
    refine seqK fun K50 hK50 => ?_
    refine seqK fun K51 hK51 => ?_
    refine region ?_
    refine s0 moveA rfl ?_
    obtain ⟨x52, gx52, hE⟩ := bindO_some hE
    refine s0 (idxMn (f := Token_Token.c) (n := 0) (TK rfl) rfl (TK rfl) rfl rfl rfl gx52) rfl ?_
    refine s0 (fieldVA (TK rfl) rfl rfl (TK rfl) rfl rfl) rfl ?_
    refine s0 (loadV (TK rfl) rfl rfl rfl) rfl ?_
    refine s0 (binI rfl rfl rfl) rfl ?_
    refine s0 moveA rfl ?_
    refine gC rfl rfl (fun hC => moveA) rfl ?_
    obtain ⟨x53, gx53, hE⟩ := guardO_some hE
    refine gC rfl rfl (fun hC => ungdA (k := 75) rfl (idxMn (f := Token_Token.c) (n := 0) (TK rfl) rfl (TK rfl) rfl rfl rfl (gx53 hC))) rfl ?_
    refine gC rfl rfl (fun hC => ungdA (k := 76) rfl (fieldVA (TK rfl) rfl rfl (TK rfl) rfl rfl)) rfl ?_
    refine gC rfl rfl (fun hC => ungdA (k := 77) rfl (loadV (TK rfl) rfl rfl rfl)) rfl ?_
    refine gC rfl rfl (fun hC => ungdA (k := 78) rfl (binS rfl rfl rfl)) rfl ?_
    refine s0 (pickOrA rfl rfl rfl) rfl ?_
    refine nil ?_
    refine hK51 _ ?_
    clear hK51 K51
    refine condE hE rfl (fun hc54 hE => ?_) (fun hc54 hE => ?_)
    ·refine seqK fun K55 hK55 => ?_
     refine region ?_
     refine s0 (build Tryz.tab_ok rfl rfl rfl rfl rfl rfl) rfl ?_
     refine sLn (storeLFA (TK rfl) rfl rfl rfl rfl rfl) ?_
     refine s0 assignA rfl ?_
     refine nil ?_
     refine hK55 _ ?_
     clear hK55 K55
     refine AWp.ret ?_
     repeat (first | refine xBlock_ret ?_ | refine xThen_ret ?_)
     obtain rfl := Option.some.inj hE
     refine retQ.retF H rfl ⟨rfl, rfl⟩ ?_
     first | exact Heap.sub_set htk7_9 | (simp only [Heap.set_set]; exact Heap.sub_set htk7_9)
    refine AWp.skip ?_
    refine hK50 _ ?_
    clear hK50 K50
    refine AWp.draw rfl ?_
    refine DOps.s0 (fieldL (TK rfl) rfl rfl (TK rfl) rfl rfl) rfl ?_
    refine DOps.s0 (loadL (TK rfl) rfl rfl rfl rfl) rfl ?_
    refine DOps.s0 (buildSlice (TK rfl) rfl (TK rfl) rfl rfl rfl rfl rfl rfl) rfl ?_
    obtain ⟨x56, gx56, hE⟩ := bindO_some hE
    refine DOps.sH (appR (f := (intE .i64)) (s := y46_l1.FWraps) (TK rfl) rfl (TK rfl) (TK rfl) ⟨_, rfl⟩ rfl rfl rfl rfl rfl rfl hpG (by first | rfl | simp [Sl.setL, Sl.nil, sortL_len]) rfl gx56) rfl ?_
    refine DOps.heq (h' := (H.set tk7_9 (some (.arr 1 (x56.l.map (intE .i64)))))) (by first | rfl | (rw [Heap.set_set]; rfl) | (funext n_; simp only [Heap.set]; (repeat' split) <;> first | rfl | (exfalso; simp_all; done) | (simp_all; done))) ?_
    refine DOps.s0 moveA rfl ?_
    obtain ⟨x57, gx57, hE⟩ := bindO_some hE
    refine DOps.s0 (partM (f := Token_Token.c) (l := (some (1 : Int))) (r := none) (TK rfl) rfl (TK rfl) rfl rfl rfl trivial gx57) rfl ?_
    refine DOps.s0 moveA rfl ?_
    obtain ⟨x58, gx58, hE⟩ := bindO_some hE
    refine DOps.s0 (subM rfl rfl gx58) rfl ?_
    refine DOps.s0 (fieldL (TK rfl) rfl rfl (TK rfl) rfl rfl) rfl ?_
    refine DOps.sLn (storeL1 (TK rfl) rfl rfl rfl rfl (by repeat (first | exact SetAt.zero | apply SetAt.succ)) (by repeat (first | exact SetAt.zero | apply SetAt.succ))) ?_
    refine DOps.s0 assignA rfl ?_
    refine DOps.s0 assignA rfl ?_
    refine DOps.nil (by decide +kernel) ?_
    exact hK39 _ (n39, x57, x58, y42_l0, (TRef.mk y46_l1.FName x56)) Weak.toA hE (Nat.lt_succ_self _)
 rintro ⟨s4_23, y24_l0, y25_l1⟩ hE
 try dsimp only at hE
 unfold Z60_j22 at hE
 refine seqK fun K26 hK26 => ?_
 refine seqK fun K27 hK27 => ?_
 refine region ?_
 refine s0 moveA rfl ?_
 obtain ⟨x28, gx28, hE⟩ := bindO_some hE
 refine s0 (idxMn (f := Token_Token.c) (n := 0) (TK rfl) rfl (TK rfl) rfl rfl rfl gx28) rfl ?_
 refine s0 (fieldVA (TK rfl) rfl rfl (TK rfl) rfl rfl) rfl ?_
 refine s0 (loadV (TK rfl) rfl rfl rfl) rfl ?_
 refine s0 (binI rfl rfl rfl) rfl ?_
 refine nil ?_
 refine hK27 _ ?_
 clear hK27 K27
 refine condE hE rfl (fun hc29 hE => ?_) (fun hc29 hE => ?_)
 ·refine seqK fun K30 hK30 => ?_
  refine region ?_
  refine s0 (build Tryz.tab_ok rfl rfl rfl rfl rfl rfl) rfl ?_
  refine sLn (storeLFA (TK rfl) rfl rfl rfl rfl rfl) ?_
  refine s0 assignA rfl ?_
  refine nil ?_
  refine hK30 _ ?_
  clear hK30 K30
  refine AWp.ret ?_
  repeat (first | refine xBlock_ret ?_ | refine xThen_ret ?_)
  obtain rfl := Option.some.inj hE
  refine retQ.retF H rfl ⟨rfl, rfl⟩ ?_
  first | exact Heap.sub_set htk7_9 | (simp only [Heap.set_set]; exact Heap.sub_set htk7_9)
 refine AWp.skip ?_
 refine hK26 _ ?_
 clear hK26 K26
 refine seqK fun K31 hK31 => ?_
 refine seqK fun K32 hK32 => ?_
 refine region ?_
 refine s0 (fieldL (TK rfl) rfl rfl (TK rfl) rfl rfl) rfl ?_
 refine s0 (loadL (TK rfl) rfl rfl rfl rfl) rfl ?_
 refine AOps.sLenR (f := (intE .i64)) (l := y25_l1.FWraps.l) (TK rfl) rfl rfl rfl hpG (by first | rfl | simp [Sl.setL, Sl.nil, sortL_len]) rfl fun hL33 => ?_
 refine s0 (binI rfl rfl rfl) rfl ?_
 refine nil ?_
 refine hK32 _ ?_
 clear hK32 K32
 refine condE hE rfl (fun hc34 hE => ?_) (fun hc34 hE => ?_)
 ·refine seqK fun K35 hK35 => ?_
  refine region ?_
  refine s0 (build Tryz.tab_ok rfl rfl rfl rfl rfl rfl) rfl ?_
  refine sLn (storeLFA (TK rfl) rfl rfl rfl rfl rfl) ?_
  refine s0 assignA rfl ?_
  refine nil ?_
  refine hK35 _ ?_
  clear hK35 K35
  refine AWp.ret ?_
  repeat (first | refine xBlock_ret ?_ | refine xThen_ret ?_)
  obtain rfl := Option.some.inj hE
  refine retQ.retF H rfl ⟨rfl, rfl⟩ ?_
  first | exact Heap.sub_set htk7_9 | (simp only [Heap.set_set]; exact Heap.sub_set htk7_9)
 refine AWp.skip ?_
 refine hK31 _ ?_
 clear hK31 K31
 refine seqK fun K36 hK36 => ?_
 refine region ?_
 refine s0 (fieldL (TK rfl) rfl rfl (TK rfl) rfl rfl) rfl ?_
 refine s0 (loadL (TK rfl) rfl rfl rfl rfl) rfl ?_
 obtain ⟨x37, gx37, hE⟩ := bindO_some hE
 have ex37 := Option.some.inj gx37
 refine sH (callH rfl rfl (Z31_walk (s := y25_l1.FWraps) hpG (by first | rfl | simp [Sl.setL, Sl.nil, sortL_len]))) rfl ?_
 refine AOps.heq (h' := (H.set tk7_9 (some (.arr 1 (x37.l.map (intE .i64)))))) (by subst ex37; exact (by first | rfl | (rw [Heap.set_set]; rfl) | (funext n_; simp only [Heap.set]; (repeat' split) <;> first | rfl | (exfalso; simp_all; done) | (simp_all; done)))) ?_
 refine AOps.relocal 1 (strE (TRef.mk y25_l1.FName x37).FName ++ [.arr 1 tk7_9 (TRef.mk y25_l1.FName x37).FWraps.nl (TRef.mk y25_l1.FName x37).FWraps.l.length]) rfl (fun j w cs hh hx => by subst ex37; first | exact hx | simpa [Sl.rev] using hx) ?_
 refine nil ?_
 refine hK36 _ ?_
 clear hK36 K36
 refine seqK fun K38 hK38 => ?_
 refine AWp.frzL 1 1 tk7_9 rfl rfl hpG (by first | rfl | (simp [Sl.setL, Sl.nil, sortL_len]; done) | (subst_vars; first | rfl | (simp [Sl.setL, Sl.nil, sortL_len]; done))) ?_
 refine AWp.heqA (h' := H) (by first | rfl | (rw [Heap.set_set]; rfl) | (funext n_; simp only [Heap.set]; (repeat' split) <;> first | rfl | (exfalso; simp_all; done) | (simp_all; done))) ?_
 refine region ?_
 refine s0 (loadL (TK rfl) rfl rfl rfl rfl) rfl ?_
 refine sLn (storeLFA (TK rfl) rfl rfl rfl rfl rfl) ?_
 refine s0 assignA rfl ?_
 refine nil ?_
 refine hK38 _ ?_
 clear hK38 K38
 refine AWp.ret ?_
 repeat (first | refine xBlock_ret ?_ | refine xThen_ret ?_)
 obtain rfl := Option.some.inj hE
 refine retQ.retF H rfl ⟨rfl, rfl⟩ ?_
 exact (fun _ _ h => h)
end
def Z61_j7 (a0 : TRef)  (y8_id3_3 : Strings_Builder) (y9_id4_5 : Strings_Builder) : Option Bs := (Z33 y8_id3_3).bind fun x11 => (catC x11 a0.FName).bind fun x12 => (Z33 y9_id4_5).bind fun x13 => (catC x12 x13).bind fun x14 => some x14
def Z61_j25 (s5_19 : Int) (k_next_18 : Int → Strings_Builder → Strings_Builder → Option Bs) (y26_id3_3 : Strings_Builder) (y27_id4_5 : Strings_Builder) : Option Bs := (subC s5_19 (1 : Int)).bind fun x28 => k_next_18 x28 y26_id3_3 y27_id4_5
def Z61_l18 (a0 : TRef)  : Nat → Int → Strings_Builder → Strings_Builder → Option Bs
 | 0, _, _, _ => none
 | n18 + 1, s5_19, y20_id3_3, y21_id4_5 => bif (decide ((0 : Int) ≤ s5_19)) then ((idxC a0.FWraps.l s5_19).bind fun x30 => bif (decide (x30 = (1 : Int))) then ((Z34 y21_id4_5 (33 : Int)).bind fun x32 => Z61_j25 s5_19 ((Z61_l18 a0 n18)) y20_id3_3 x32.2) else ((Z34 y20_id3_3 (91 : Int)).bind fun x34 => (Z34 y21_id4_5 (93 : Int)).bind fun x35 => Z61_j25 s5_19 ((Z61_l18 a0 n18)) x34.2 x35.2)) else (Z61_j7 a0  y20_id3_3 y21_id4_5)
def Z61 (a0 : TRef) : Option Bs := (subC ((a0.FWraps.l.length : Nat) : Int) (1 : Int)).bind fun x17 => Z61_l18 a0 F0 x17 Strings_Builder.zero Strings_Builder.zero
theorem Z61_walk {a0 : TRef}   {r : Bs} (hE : Z61 a0 = some r) (H : Heap)  : ACalls Tryz.prog 34 [.agg (TRef.c a0)] H fun v h' => v = .a (.d (.str r)) ∧ h' = H := by
 unfold Z61 at hE
 refine ACalls.of_wp (fn := Tryz.f34) (c := _) Tryz.tab_ok (fun _ _ => Tryz.call34 _ _) Tryz.func34 rfl (n := 29) rfl (rs := [.tmp 2]) rfl rfl ?_
 refine seqK fun K1 hK1 => ?_
 refine region ?_
 refine s0 (boxV rfl) rfl ?_
 refine s0 assignA rfl ?_
 refine nil ?_
 refine hK1 _ ?_
 clear hK1 K1
 refine seqK fun K2 hK2 => ?_
 refine region ?_
 refine AOps.tokE 1 5 fun tk3_4 htk3_4 => ?_
 refine sE (StepE.allocT (TK rfl) rfl) rfl (fun _ _ _ ⟨id3_3, hid3_3, e1, e2, e3⟩ => ?_); subst e1 e2 e3
 obtain ⟨ne_id3_3_tk3_4, hid3_3⟩ := Heap.set_fresh hid3_3
 refine AOps.recellT id3_3 _ hpG (fun j w cs hh hx => tok_cell 1 1 1 hh (t := tk3_4) hpG hx rfl) ?_
 refine AOps.heq (h' := ((H.set tk3_4 (some (.tok 1 0 (some 5)))).set id3_3 (some (.tcells 57 (Strings_Builder.cg id3_3 (some tk3_4) Strings_Builder.zero))))) (by first | rfl | (rw [Heap.set_set]; rfl) | (funext n_; simp only [Heap.set]; (repeat' split) <;> first | rfl | (exfalso; simp_all; done) | (simp_all; done))) ?_
 refine AOps.tokE 1 5 fun tk4_6 htk4_6 => ?_
 obtain ⟨ne_tk4_6_id3_3, htk4_6⟩ := Heap.set_fresh htk4_6
 obtain ⟨ne_tk4_6_tk3_4, htk4_6⟩ := Heap.set_fresh htk4_6
 refine sE (StepE.allocT (TK rfl) rfl) rfl (fun _ _ _ ⟨id4_5, hid4_5, e1, e2, e3⟩ => ?_); subst e1 e2 e3
 obtain ⟨ne_id4_5_tk4_6, hid4_5⟩ := Heap.set_fresh hid4_5
 obtain ⟨ne_id4_5_id3_3, hid4_5⟩ := Heap.set_fresh hid4_5
 obtain ⟨ne_id4_5_tk3_4, hid4_5⟩ := Heap.set_fresh hid4_5
 refine AOps.recellT id4_5 _ hpG (fun j w cs hh hx => tok_cell 1 1 1 hh (t := tk4_6) hpG hx rfl) ?_
 refine AOps.heq (h' := ((((H.set tk3_4 (some (.tok 1 0 (some 5)))).set id3_3 (some (.tcells 57 (Strings_Builder.cg id3_3 (some tk3_4) Strings_Builder.zero)))).set tk4_6 (some (.tok 1 0 (some 5)))).set id4_5 (some (.tcells 57 (Strings_Builder.cg id4_5 (some tk4_6) Strings_Builder.zero))))) (by first | rfl | (rw [Heap.set_set]; rfl) | (funext n_; simp only [Heap.set]; (repeat' split) <;> first | rfl | (exfalso; simp_all; done) | (simp_all; done))) ?_
 refine nil ?_
 refine hK2 _ ?_
 clear hK2 K2
 refine seqJH (KeepsT.A (k := 1) (KeepsT.A (k := 3) (KeepsT.A (k := 4) KeepsT.nil))) (fun (z : Strings_Builder × Strings_Builder) => []) (fun z => ((((H.set tk3_4 (some (.tok 1 z.1.Fbuf.l.length (some 5)))).set id3_3 (some (.tcells 57 (Strings_Builder.cg id3_3 (some tk3_4) z.1)))).set tk4_6 (some (.tok 1 z.2.Fbuf.l.length (some 5)))).set id4_5 (some (.tcells 57 (Strings_Builder.cg id4_5 (some tk4_6) z.2))))) (fun z => Z61_j7 a0 z.1 z.2 = some r) ?_ ?_
 ·intro K7 hK7
  refine seqK fun K15 hK15 => ?_
  refine region ?_
  refine s0 (fieldVA (TK rfl) rfl rfl (TK rfl) rfl rfl) rfl ?_
  refine s0 (loadV (TK rfl) rfl rfl rfl) rfl ?_
  refine sLen (f := (intE .i64)) (s := a0.FWraps) (TK rfl) rfl rfl rfl rfl fun hL16 => ?_
  obtain ⟨x17, gx17, hE⟩ := bindO_some hE
  refine s0 (subM rfl rfl gx17) rfl ?_
  refine s0 assignA rfl ?_
  refine nil ?_
  refine hK15 _ ?_
  clear hK15 K15
  refine block ?_
  refine loopH (KeepsT.A (k := 1) (KeepsT.A (k := 3) (KeepsT.A (k := 4) KeepsT.nil))) (fun (z : Nat × Int × Strings_Builder × Strings_Builder) => [(5, .a (.d (.int .i64 z.2.1)))]) (fun z => ((((H.set tk3_4 (some (.tok 1 z.2.2.1.Fbuf.l.length (some 5)))).set id3_3 (some (.tcells 57 (Strings_Builder.cg id3_3 (some tk3_4) z.2.2.1)))).set tk4_6 (some (.tok 1 z.2.2.2.Fbuf.l.length (some 5)))).set id4_5 (some (.tcells 57 (Strings_Builder.cg id4_5 (some tk4_6) z.2.2.2))))) (fun z => z.1) (fun z => Z61_l18 a0 z.1 z.2.1 z.2.2.1 z.2.2.2 = some r) (F0, x17, Strings_Builder.zero, Strings_Builder.zero) hE Weak.toA ?_
  rintro ⟨n18, s5_19, y20_id3_3, y21_id4_5⟩ hE K18 hK18
  try dsimp only at hE
  cases n18 with
  | zero => cases hE
  | succ n18 =>
    rw [Z61_l18] at hE
    refine seqK fun K22 hK22 => ?_
    refine seqK fun K23 hK23 => ?_
    refine region ?_
    refine s0 moveA rfl ?_
    refine s0 (binI rfl rfl rfl) rfl ?_
    refine nil ?_
    refine hK23 _ ?_
    clear hK23 K23
    refine condE hE rfl (fun hc24 hE => ?_) (fun hc24 hE => ?_)
    ·refine AWp.skip ?_
     refine hK22 _ ?_
     clear hK22 K22
     refine seqJH (KeepsT.A (k := 1) (KeepsT.A (k := 3) (KeepsT.A (k := 4) (KeepsT.A (k := 5) KeepsT.nil)))) (fun (z : Strings_Builder × Strings_Builder) => []) (fun z => ((((H.set tk3_4 (some (.tok 1 z.1.Fbuf.l.length (some 5)))).set id3_3 (some (.tcells 57 (Strings_Builder.cg id3_3 (some tk3_4) z.1)))).set tk4_6 (some (.tok 1 z.2.Fbuf.l.length (some 5)))).set id4_5 (some (.tcells 57 (Strings_Builder.cg id4_5 (some tk4_6) z.2))))) (fun z => Z61_j25 s5_19 ((Z61_l18 a0 n18)) z.1 z.2 = some r) ?_ ?_
     ·intro K25 hK25
      refine block ?_
      refine seqK fun K29 hK29 => ?_
      refine region ?_
      refine s0 (fieldVA (TK rfl) rfl rfl (TK rfl) rfl rfl) rfl ?_
      refine s0 (loadV (TK rfl) rfl rfl rfl) rfl ?_
      refine s0 moveA rfl ?_
      obtain ⟨x30, gx30, hE⟩ := bindO_some hE
      refine s0 (idxM (f := (intE .i64)) (TK rfl) rfl (TK rfl) rfl rfl rfl gx30) rfl ?_
      refine s0 (loadV (TK rfl) rfl rfl rfl) rfl ?_
      refine s0 (binI rfl rfl rfl) rfl ?_
      refine nil ?_
      refine hK29 _ ?_
      clear hK29 K29
      refine condE hE rfl (fun hc31 hE => ?_) (fun hc31 hE => ?_)
      ·refine region ?_
       obtain ⟨x32, gx32, hE⟩ := bindO_some hE
       refine sH (callH rfl rfl (Z34_walk gx32 _ hpG hpG)) rfl ?_
       refine AOps.heq (h' := ((((H.set tk3_4 (some (.tok 1 y20_id3_3.Fbuf.l.length (some 5)))).set id3_3 (some (.tcells 57 (Strings_Builder.cg id3_3 (some tk3_4) y20_id3_3)))).set tk4_6 (some (.tok 1 x32.2.Fbuf.l.length (some 5)))).set id4_5 (some (.tcells 57 (Strings_Builder.cg id4_5 (some tk4_6) x32.2))))) (by first | rfl | (rw [Heap.set_set]; rfl) | (funext n_; simp only [Heap.set]; (repeat' split) <;> first | rfl | (exfalso; simp_all; done) | (simp_all; done))) ?_
       refine nil ?_
       exact hK25 _ (y20_id3_3, x32.2) Weak.toA hE
      refine seqK fun K33 hK33 => ?_
      refine region ?_
      obtain ⟨x34, gx34, hE⟩ := bindO_some hE
      refine sH (callH rfl rfl (Z34_walk gx34 _ hpG hpG)) rfl ?_
      refine AOps.heq (h' := ((((H.set tk3_4 (some (.tok 1 x34.2.Fbuf.l.length (some 5)))).set id3_3 (some (.tcells 57 (Strings_Builder.cg id3_3 (some tk3_4) x34.2)))).set tk4_6 (some (.tok 1 y21_id4_5.Fbuf.l.length (some 5)))).set id4_5 (some (.tcells 57 (Strings_Builder.cg id4_5 (some tk4_6) y21_id4_5))))) (by first | rfl | (rw [Heap.set_set]; rfl) | (funext n_; simp only [Heap.set]; (repeat' split) <;> first | rfl | (exfalso; simp_all; done) | (simp_all; done))) ?_
      refine nil ?_
      refine hK33 _ ?_
      clear hK33 K33
      refine region ?_
      obtain ⟨x35, gx35, hE⟩ := bindO_some hE
      refine sH (callH rfl rfl (Z34_walk gx35 _ hpG hpG)) rfl ?_
      refine AOps.heq (h' := ((((H.set tk3_4 (some (.tok 1 x34.2.Fbuf.l.length (some 5)))).set id3_3 (some (.tcells 57 (Strings_Builder.cg id3_3 (some tk3_4) x34.2)))).set tk4_6 (some (.tok 1 x35.2.Fbuf.l.length (some 5)))).set id4_5 (some (.tcells 57 (Strings_Builder.cg id4_5 (some tk4_6) x35.2))))) (by first | rfl | (rw [Heap.set_set]; rfl) | (funext n_; simp only [Heap.set]; (repeat' split) <;> first | rfl | (exfalso; simp_all; done) | (simp_all; done))) ?_
      refine nil ?_
      exact hK25 _ (x34.2, x35.2) Weak.toA hE
     rintro ⟨y26_id3_3, y27_id4_5⟩ hE
     try dsimp only at hE
     unfold Z61_j25 at hE
     refine region ?_
     refine s0 moveA rfl ?_
     obtain ⟨x28, gx28, hE⟩ := bindO_some hE
     refine s0 (subM rfl rfl gx28) rfl ?_
     refine s0 assignA rfl ?_
     refine nil ?_
     exact hK18 _ (n18, x28, y26_id3_3, y27_id4_5) Weak.toA hE (Nat.lt_succ_self _)
    refine AWp.exit ?_
    exact hK7 _ (y20_id3_3, y21_id4_5) Weak.toA hE
 rintro ⟨y8_id3_3, y9_id4_5⟩ hE
 try dsimp only at hE
 unfold Z61_j7 at hE
 refine seqK fun K10 hK10 => ?_
 refine AWp.draw rfl ?_
 obtain ⟨x11, gx11, hE⟩ := bindO_some hE
 refine DOps.sH (callH rfl rfl (Z33_walk gx11 _ hpG hpG)) rfl ?_
 refine DOps.heq (h' := ((H.set tk4_6 (some (.tok 1 y9_id4_5.Fbuf.l.length (some 5)))).set id4_5 (some (.tcells 57 (Strings_Builder.cg id4_5 (some tk4_6) y9_id4_5))))) (by first | rfl | (rw [Heap.set_set]; rfl) | (funext n_; simp only [Heap.set]; (repeat' split) <;> first | rfl | (exfalso; simp_all; done) | (simp_all; done))) ?_
 refine DOps.s0 (fieldVA (TK rfl) rfl rfl (TK rfl) rfl rfl) rfl ?_
 refine DOps.s0 (loadV (TK rfl) rfl rfl rfl) rfl ?_
 obtain ⟨x12, gx12, hE⟩ := bindO_some hE
 refine DOps.s0 (catM rfl rfl gx12) rfl ?_
 obtain ⟨x13, gx13, hE⟩ := bindO_some hE
 refine DOps.sH (callH rfl rfl (Z33_walk gx13 _ hpG hpG)) rfl ?_
 refine DOps.heq (h' := H) (by first | rfl | (rw [Heap.set_set]; rfl) | (funext n_; simp only [Heap.set]; (repeat' split) <;> first | rfl | (exfalso; simp_all; done) | (simp_all; done))) ?_
 obtain ⟨x14, gx14, hE⟩ := bindO_some hE
 refine DOps.s0 (catM rfl rfl gx14) rfl ?_
 refine DOps.s0 assignA rfl ?_
 refine DOps.nil (by decide +kernel) ?_
 refine hK10 _ ?_
 clear hK10 K10
 refine AWp.ret ?_
 repeat (first | refine xBlock_ret ?_ | refine xThen_ret ?_)
 obtain rfl := Option.some.inj hE
 refine retQ.retF H rfl ⟨rfl, rfl⟩ ?_
 exact (fun _ _ h => h)
end Go.Proofs

namespace Go.Proofs
open Go Go.Ab
open AOps Cert AWp
variable {lou : Lou}
section
variable [IsLoud lou]
def Z3  : Option Bool := (Z57 ([85, 115, 101, 114] : Bs)).bind fun x3 => (Z58 x3).bind fun x5 => (Z56 x5).bind fun x6 => (Z58 x6).bind fun x7 => (Z58 x3).bind fun x9 => (Z56 x9).bind fun x10 => (Z65 x7 x10).bind fun x12 => (Z53 x7).bind fun x14 => (Z60 ([91, 32, 85, 115, 101, 114, 32, 33, 32, 93] : Bs)).bind fun x16 => (Z60 ([85, 115, 101, 114, 33, 33] : Bs)).bind fun x18 => guardO (!((((!x12.2) || (!x14.2)) || (!decide (x16.2 = (0 : Int)))) || (!decide (x18.2 = (3 : Int))))) (Z23 x12.1 x10) false fun x21 => guardO (!(((((!x12.2) || (!x14.2)) || (!decide (x16.2 = (0 : Int)))) || (!decide (x18.2 = (3 : Int)))) || (!x21))) (Z58 x3) TRef.zero fun x22 => guardO (!(((((!x12.2) || (!x14.2)) || (!decide (x16.2 = (0 : Int)))) || (!decide (x18.2 = (3 : Int)))) || (!x21))) (Z23 x14.1 x22) false fun x23 => guardO (!((((((!x12.2) || (!x14.2)) || (!decide (x16.2 = (0 : Int)))) || (!decide (x18.2 = (3 : Int)))) || (!x21)) || (!x23))) (Z23 x16.1 x10) false fun x24 => bif (((((((!x12.2) || (!x14.2)) || (!decide (x16.2 = (0 : Int)))) || (!decide (x18.2 = (3 : Int)))) || (!x21)) || (!x23)) || (!x24)) then (some false) else ((Z61 x7).bind fun x28 => guardO (((x28 == ([91, 85, 115, 101, 114, 33, 93, 33] : Bs)))) (Z56 x3) TRef.zero fun x29 => guardO (((x28 == ([91, 85, 115, 101, 114, 33, 93, 33] : Bs)))) (Z52 x7 x29) false fun x30 => guardO ((((x28 == ([91, 85, 115, 101, 114, 33, 93, 33] : Bs))) && x30)) (Z58 x3) TRef.zero fun x31 => guardO ((((x28 == ([91, 85, 115, 101, 114, 33, 93, 33] : Bs))) && x30)) (Z52 x3 x31) false fun x32 => guardO (((((x28 == ([91, 85, 115, 101, 114, 33, 93, 33] : Bs))) && x30) && (!x32))) (Z56 x3) TRef.zero fun x33 => guardO (((((x28 == ([91, 85, 115, 101, 114, 33, 93, 33] : Bs))) && x30) && (!x32))) (Z52 x3 x33) false fun x34 => guardO ((((((x28 == ([91, 85, 115, 101, 114, 33, 93, 33] : Bs))) && x30) && (!x32)) && (!x34))) (Z62 x7) false fun x35 => guardO (((((((x28 == ([91, 85, 115, 101, 114, 33, 93, 33] : Bs))) && x30) && (!x32)) && (!x34)) && x35)) (Z62 (TRef.mk ([85, 115, 101, 114] : Bs) (⟨false, [(1 : Int), (1 : Int)]⟩ : Sl Int))) false fun x36 => some (((((((x28 == ([91, 85, 115, 101, 114, 33, 93, 33] : Bs))) && x30) && (!x32)) && (!x34)) && x35) && (!x36)))
theorem Z3_walk  {oE : Ab.Obj} {gE : Nat} {r : Bool} (hE : Z3  = some r) (H : Heap) (hgE : H gE = some oE) (hoE : IsErr Tryz.prog oE) : ACalls Tryz.prog 7 [] H fun v h' => v = .a (.d (.bool r)) ∧ h' = H := by
 unfold Z3 at hE
 refine ACalls.of_wp (fn := Tryz.f7) (c := _) Tryz.tab_ok (fun _ _ => Tryz.call7 _ _) Tryz.func7 rfl (n := 105) rfl (rs := [.tmp 0]) rfl rfl ?_
 refine seqK fun K1 hK1 => ?_
 refine region ?_
 refine s0 assignA rfl ?_
 refine nil ?_
 refine hK1 _ ?_
 clear hK1 K1
 refine seqK fun K2 hK2 => ?_
 refine region ?_
 obtain ⟨x3, gx3, hE⟩ := bindO_some hE
 refine s0 (callP rfl rfl (fun H => Z57_walk gx3 H)) rfl ?_
 refine sL (allocLA (TK rfl) rfl) rfl ?_
 refine sLn (storeLFA (TK rfl) rfl rfl rfl rfl rfl) ?_
 refine nil ?_
 refine hK2 _ ?_
 clear hK2 K2
 refine freezeA 1 _ rfl Keeps.nil ?_
 refine seqK fun K4 hK4 => ?_
 refine region ?_
 refine s0 (loadV (TK rfl) rfl rfl rfl) rfl ?_
 obtain ⟨x5, gx5, hE⟩ := bindO_some hE
 refine s0 (callP rfl rfl (fun H => Z58_walk gx5 H)) rfl ?_
 obtain ⟨x6, gx6, hE⟩ := bindO_some hE
 refine s0 (callP rfl rfl (fun H => Z56_walk gx6 H)) rfl ?_
 obtain ⟨x7, gx7, hE⟩ := bindO_some hE
 refine s0 (callP rfl rfl (fun H => Z58_walk gx7 H)) rfl ?_
 refine sL (allocLA (TK rfl) rfl) rfl ?_
 refine sLn (storeLFA (TK rfl) rfl rfl rfl rfl rfl) ?_
 refine nil ?_
 refine hK4 _ ?_
 clear hK4 K4
 refine freezeA 2 _ rfl (Keeps.c (k := 1) (by conv => lhs; whnf) (by rfl) Keeps.nil) ?_
 refine seqK fun K8 hK8 => ?_
 refine region ?_
 refine s0 (loadV (TK rfl) rfl rfl rfl) rfl ?_
 obtain ⟨x9, gx9, hE⟩ := bindO_some hE
 refine s0 (callP rfl rfl (fun H => Z58_walk gx9 H)) rfl ?_
 obtain ⟨x10, gx10, hE⟩ := bindO_some hE
 refine s0 (callP rfl rfl (fun H => Z56_walk gx10 H)) rfl ?_
 refine sL (allocLA (TK rfl) rfl) rfl ?_
 refine sLn (storeLFA (TK rfl) rfl rfl rfl rfl rfl) ?_
 refine nil ?_
 refine hK8 _ ?_
 clear hK8 K8
 refine freezeA 3 _ rfl (Keeps.c (k := 1) (by conv => lhs; whnf) (by rfl) (Keeps.c (k := 2) (by conv => lhs; whnf) (by rfl) Keeps.nil)) ?_
 refine seqK fun K11 hK11 => ?_
 refine region ?_
 refine s0 (loadV (TK rfl) rfl rfl rfl) rfl ?_
 refine s0 (loadV (TK rfl) rfl rfl rfl) rfl ?_
 obtain ⟨x12, gx12, hE⟩ := bindO_some hE
 refine s0 (callP rfl rfl (fun H => Z65_walk gx12 H)) rfl ?_
 refine s0 moveA rfl ?_
 refine s0 (extract rfl rfl) rfl ?_
 refine s0 (extract rfl rfl) rfl ?_
 refine sL (allocLA (TK rfl) rfl) rfl ?_
 refine sLn (storeLFA (TK rfl) rfl rfl rfl rfl rfl) ?_
 refine s0 assignA rfl ?_
 refine nil ?_
 refine hK11 _ ?_
 clear hK11 K11
 refine freezeA 4 _ rfl (Keeps.c (k := 1) (by conv => lhs; whnf) (by rfl) (Keeps.c (k := 2) (by conv => lhs; whnf) (by rfl) (Keeps.c (k := 3) (by conv => lhs; whnf) (by rfl) (Keeps.c (k := 5) (by conv => lhs; whnf) (by rfl) Keeps.nil)))) ?_
 refine seqK fun K13 hK13 => ?_
 refine region ?_
 refine s0 (loadV (TK rfl) rfl rfl rfl) rfl ?_
 obtain ⟨x14, gx14, hE⟩ := bindO_some hE
 refine s0 (callP rfl rfl (fun H => Z53_walk gx14 H)) rfl ?_
 refine s0 moveA rfl ?_
 refine s0 (extract rfl rfl) rfl ?_
 refine s0 (extract rfl rfl) rfl ?_
 refine sL (allocLA (TK rfl) rfl) rfl ?_
 refine sLn (storeLFA (TK rfl) rfl rfl rfl rfl rfl) ?_
 refine s0 assignA rfl ?_
 refine nil ?_
 refine hK13 _ ?_
 clear hK13 K13
 refine freezeA 6 _ rfl (Keeps.c (k := 1) (by conv => lhs; whnf) (by rfl) (Keeps.c (k := 2) (by conv => lhs; whnf) (by rfl) (Keeps.c (k := 3) (by conv => lhs; whnf) (by rfl) (Keeps.c (k := 4) (by conv => lhs; whnf) (by rfl) (Keeps.c (k := 5) (by conv => lhs; whnf) (by rfl) (Keeps.c (k := 7) (by conv => lhs; whnf) (by rfl) Keeps.nil)))))) ?_
 refine seqK fun K15 hK15 => ?_
 refine region ?_
 obtain ⟨x16, gx16, hE⟩ := bindO_some hE
 refine s0 (callR rfl rfl (Z60_walk (gE := gE) (oE := oE) gx16 _ hpG (by assumption))) rfl ?_
 refine s0 moveA rfl ?_
 refine s0 (extract rfl rfl) rfl ?_
 refine s0 (extract rfl rfl) rfl ?_
 refine sL (allocLA (TK rfl) rfl) rfl ?_
 refine sLn (storeLFA (TK rfl) rfl rfl rfl rfl rfl) ?_
 refine s0 assignA rfl ?_
 refine nil ?_
 refine hK15 _ ?_
 clear hK15 K15
 refine freezeA 8 _ rfl (Keeps.c (k := 1) (by conv => lhs; whnf) (by rfl) (Keeps.c (k := 2) (by conv => lhs; whnf) (by rfl) (Keeps.c (k := 3) (by conv => lhs; whnf) (by rfl) (Keeps.c (k := 4) (by conv => lhs; whnf) (by rfl) (Keeps.c (k := 5) (by conv => lhs; whnf) (by rfl) (Keeps.c (k := 6) (by conv => lhs; whnf) (by rfl) (Keeps.c (k := 7) (by conv => lhs; whnf) (by rfl) (Keeps.c (k := 9) (by conv => lhs; whnf) (by rfl) Keeps.nil)))))))) ?_
 refine seqK fun K17 hK17 => ?_
 refine region ?_
 obtain ⟨x18, gx18, hE⟩ := bindO_some hE
 refine s0 (callR rfl rfl (Z60_walk (gE := gE) (oE := oE) gx18 _ hpG (by assumption))) rfl ?_
 refine s0 moveA rfl ?_
 refine s0 (extract rfl rfl) rfl ?_
 refine s0 (extract rfl rfl) rfl ?_
 refine sL (allocLA (TK rfl) rfl) rfl ?_
 refine sLn (storeLFA (TK rfl) rfl rfl rfl rfl rfl) ?_
 refine s0 assignA rfl ?_
 refine nil ?_
 refine hK17 _ ?_
 clear hK17 K17
 refine freezeA 10 _ rfl (Keeps.c (k := 1) (by conv => lhs; whnf) (by rfl) (Keeps.c (k := 2) (by conv => lhs; whnf) (by rfl) (Keeps.c (k := 3) (by conv => lhs; whnf) (by rfl) (Keeps.c (k := 4) (by conv => lhs; whnf) (by rfl) (Keeps.c (k := 5) (by conv => lhs; whnf) (by rfl) (Keeps.c (k := 6) (by conv => lhs; whnf) (by rfl) (Keeps.c (k := 7) (by conv => lhs; whnf) (by rfl) (Keeps.c (k := 8) (by conv => lhs; whnf) (by rfl) (Keeps.c (k := 9) (by conv => lhs; whnf) (by rfl) (Keeps.c (k := 11) (by conv => lhs; whnf) (by rfl) Keeps.nil)))))))))) ?_
 refine seqK fun K19 hK19 => ?_
 refine seqK fun K20 hK20 => ?_
 refine AWp.draw rfl ?_
 refine DOps.s0 moveA rfl ?_
 refine DOps.s0 (notB rfl) rfl ?_
 refine DOps.s0 moveA rfl ?_
 refine DOps.gC rfl rfl (fun hC => moveA) rfl ?_
 refine DOps.gC rfl rfl (fun hC => ungdA (k := 42) rfl (notB rfl)) rfl ?_
 refine DOps.s0 (pickOrA rfl rfl rfl) rfl ?_
 refine DOps.s0 moveA rfl ?_
 refine DOps.gC rfl rfl (fun hC => moveA) rfl ?_
 refine DOps.gC rfl rfl (fun hC => ungdA (k := 46) rfl (binI rfl rfl rfl)) rfl ?_
 refine DOps.s0 (pickOrA rfl rfl rfl) rfl ?_
 refine DOps.s0 moveA rfl ?_
 refine DOps.gC rfl rfl (fun hC => moveA) rfl ?_
 refine DOps.gC rfl rfl (fun hC => ungdA (k := 50) rfl (binI rfl rfl rfl)) rfl ?_
 refine DOps.s0 (pickOrA rfl rfl rfl) rfl ?_
 refine DOps.s0 moveA rfl ?_
 refine DOps.gC rfl rfl (fun hC => loadV (TK rfl) rfl rfl rfl) rfl ?_
 refine DOps.gC rfl rfl (fun hC => loadV (TK rfl) rfl rfl rfl) rfl ?_
 obtain ⟨x21, gx21, hE⟩ := guardO_some hE
 refine DOps.gC rfl rfl (fun hC => ungdA (k := 54) rfl (ungdA (k := 55) rfl (callP rfl rfl (fun H => Z23_walk (gx21 hC) H)))) rfl ?_
 refine DOps.gC rfl rfl (fun hC => ungdA (k := 56) rfl (notB rfl)) rfl ?_
 refine DOps.s0 (pickOrA rfl rfl rfl) rfl ?_
 refine DOps.s0 moveA rfl ?_
 refine DOps.gC rfl rfl (fun hC => loadV (TK rfl) rfl rfl rfl) rfl ?_
 refine DOps.gC rfl rfl (fun hC => loadV (TK rfl) rfl rfl rfl) rfl ?_
 obtain ⟨x22, gx22, hE⟩ := guardO_some hE
 refine DOps.gC rfl rfl (fun hC => ungdA (k := 61) rfl (callP rfl rfl (fun H => Z58_walk (gx22 hC) H))) rfl ?_
 obtain ⟨x23, gx23, hE⟩ := guardO_some hE
 refine DOps.gC rfl rfl (fun hC => ungdA (k := 60) rfl (ungdA (k := 62) rfl (callP rfl rfl (fun H => Z23_walk (gx23 hC) H)))) rfl ?_
 refine DOps.gC rfl rfl (fun hC => ungdA (k := 63) rfl (notB rfl)) rfl ?_
 refine DOps.s0 (pickOrA rfl rfl rfl) rfl ?_
 refine DOps.s0 moveA rfl ?_
 refine DOps.gC rfl rfl (fun hC => loadV (TK rfl) rfl rfl rfl) rfl ?_
 refine DOps.gC rfl rfl (fun hC => loadV (TK rfl) rfl rfl rfl) rfl ?_
 obtain ⟨x24, gx24, hE⟩ := guardO_some hE
 refine DOps.gC rfl rfl (fun hC => ungdA (k := 67) rfl (ungdA (k := 68) rfl (callP rfl rfl (fun H => Z23_walk (gx24 hC) H)))) rfl ?_
 refine DOps.gC rfl rfl (fun hC => ungdA (k := 69) rfl (notB rfl)) rfl ?_
 refine DOps.s0 (pickOrA rfl rfl rfl) rfl ?_
 refine DOps.nil (by decide +kernel) ?_
 refine hK20 _ ?_
 clear hK20 K20
 refine condE hE rfl (fun hc25 hE => ?_) (fun hc25 hE => ?_)
 ·refine seqK fun K26 hK26 => ?_
  refine region ?_
  refine s0 assignA rfl ?_
  refine nil ?_
  refine hK26 _ ?_
  clear hK26 K26
  refine AWp.ret ?_
  repeat (first | refine xBlock_ret ?_ | refine xThen_ret ?_)
  obtain rfl := Option.some.inj hE
  refine retQ.retF H rfl ⟨rfl, rfl⟩ ?_
  exact (fun _ _ h => h)
 refine AWp.skip ?_
 refine hK19 _ ?_
 clear hK19 K19
 refine seqK fun K27 hK27 => ?_
 refine AWp.draw rfl ?_
 refine DOps.s0 (loadV (TK rfl) rfl rfl rfl) rfl ?_
 obtain ⟨x28, gx28, hE⟩ := bindO_some hE
 refine DOps.s0 (callP rfl rfl (fun H => Z61_walk gx28 H)) rfl ?_
 refine DOps.s0 (binS rfl rfl rfl) rfl ?_
 refine DOps.s0 moveA rfl ?_
 refine DOps.gC rfl rfl (fun hC => loadV (TK rfl) rfl rfl rfl) rfl ?_
 refine DOps.gC rfl rfl (fun hC => loadV (TK rfl) rfl rfl rfl) rfl ?_
 obtain ⟨x29, gx29, hE⟩ := guardO_some hE
 refine DOps.gC rfl rfl (fun hC => ungdA (k := 77) rfl (callP rfl rfl (fun H => Z56_walk (gx29 hC) H))) rfl ?_
 obtain ⟨x30, gx30, hE⟩ := guardO_some hE
 refine DOps.gC rfl rfl (fun hC => ungdA (k := 76) rfl (ungdA (k := 78) rfl (callP rfl rfl (fun H => Z52_walk (gx30 hC) H)))) rfl ?_
 refine DOps.s0 (pickAndA rfl rfl rfl) rfl ?_
 refine DOps.s0 moveA rfl ?_
 refine DOps.gC rfl rfl (fun hC => loadV (TK rfl) rfl rfl rfl) rfl ?_
 refine DOps.gC rfl rfl (fun hC => loadV (TK rfl) rfl rfl rfl) rfl ?_
 obtain ⟨x31, gx31, hE⟩ := guardO_some hE
 refine DOps.gC rfl rfl (fun hC => ungdA (k := 83) rfl (callP rfl rfl (fun H => Z58_walk (gx31 hC) H))) rfl ?_
 obtain ⟨x32, gx32, hE⟩ := guardO_some hE
 refine DOps.gC rfl rfl (fun hC => ungdA (k := 82) rfl (ungdA (k := 84) rfl (callP rfl rfl (fun H => Z52_walk (gx32 hC) H)))) rfl ?_
 refine DOps.gC rfl rfl (fun hC => ungdA (k := 85) rfl (notB rfl)) rfl ?_
 refine DOps.s0 (pickAndA rfl rfl rfl) rfl ?_
 refine DOps.s0 moveA rfl ?_
 refine DOps.gC rfl rfl (fun hC => loadV (TK rfl) rfl rfl rfl) rfl ?_
 refine DOps.gC rfl rfl (fun hC => loadV (TK rfl) rfl rfl rfl) rfl ?_
 obtain ⟨x33, gx33, hE⟩ := guardO_some hE
 refine DOps.gC rfl rfl (fun hC => ungdA (k := 90) rfl (callP rfl rfl (fun H => Z56_walk (gx33 hC) H))) rfl ?_
 obtain ⟨x34, gx34, hE⟩ := guardO_some hE
 refine DOps.gC rfl rfl (fun hC => ungdA (k := 89) rfl (ungdA (k := 91) rfl (callP rfl rfl (fun H => Z52_walk (gx34 hC) H)))) rfl ?_
 refine DOps.gC rfl rfl (fun hC => ungdA (k := 92) rfl (notB rfl)) rfl ?_
 refine DOps.s0 (pickAndA rfl rfl rfl) rfl ?_
 refine DOps.s0 moveA rfl ?_
 refine DOps.gC rfl rfl (fun hC => loadV (TK rfl) rfl rfl rfl) rfl ?_
 obtain ⟨x35, gx35, hE⟩ := guardO_some hE
 refine DOps.gC rfl rfl (fun hC => ungdA (k := 96) rfl (callP rfl rfl (fun H => Z62_walk (gx35 hC) H))) rfl ?_
 refine DOps.s0 (pickAndA rfl rfl rfl) rfl ?_
 refine DOps.s0 moveA rfl ?_
 refine DOps.gC rfl rfl (fun hC => buildSlice (TK rfl) rfl (TK rfl) rfl rfl rfl rfl rfl rfl) rfl ?_
 refine DOps.gC rfl rfl (fun hC => ungdA (k := 100) rfl (build Tryz.tab_ok rfl rfl rfl rfl rfl rfl)) rfl ?_
 obtain ⟨x36, gx36, hE⟩ := guardO_some hE
 refine DOps.gC rfl rfl (fun hC => ungdA (k := 101) rfl (callP rfl rfl (fun H => Z62_walk (gx36 hC) H))) rfl ?_
 refine DOps.gC rfl rfl (fun hC => ungdA (k := 102) rfl (notB rfl)) rfl ?_
 refine DOps.s0 (pickAndA rfl rfl rfl) rfl ?_
 refine DOps.s0 assignA rfl ?_
 refine DOps.nil (by decide +kernel) ?_
 refine hK27 _ ?_
 clear hK27 K27
 refine AWp.ret ?_
 repeat (first | refine xBlock_ret ?_ | refine xThen_ret ?_)
 obtain rfl := Option.some.inj hE
 refine retQ.retF H rfl ⟨rfl, rfl⟩ ?_
 exact (fun _ _ h => h)
end
def Z17 (a0 : Int) : Option Bool := some (((((decide (a0 = (32 : Int))) || (decide (a0 = (9 : Int)))) || (decide (a0 = (10 : Int)))) || (decide (a0 = (13 : Int)))) || (decide (a0 = (44 : Int))))
theorem Z17_walk {a0 : Int}   {r : Bool} (hE : Z17 a0 = some r) (H : Heap)  : ACalls Tryz.prog 69 [.d (.int .u8 a0)] H fun v h' => v = .a (.d (.bool r)) ∧ h' = H := by
 unfold Z17 at hE
 refine ACalls.of_wp (fn := Tryz.f69) (c := _) Tryz.tab_ok (fun _ _ => Tryz.call69 _ _) Tryz.func69 rfl (n := 21) rfl (rs := [.tmp 2]) rfl rfl ?_
 refine seqK fun K1 hK1 => ?_
 refine region ?_
 refine s0 assignA rfl ?_
 refine nil ?_
 refine hK1 _ ?_
 clear hK1 K1
 refine seqK fun K2 hK2 => ?_
 refine region ?_
 refine s0 moveA rfl ?_
 refine s0 (binI rfl rfl rfl) rfl ?_
 refine s0 moveA rfl ?_
 refine gC rfl rfl (fun hC => moveA) rfl ?_
 refine gC rfl rfl (fun hC => ungdA (k := 6) rfl (binI rfl rfl rfl)) rfl ?_
 refine s0 (pickOrA rfl rfl rfl) rfl ?_
 refine s0 moveA rfl ?_
 refine gC rfl rfl (fun hC => moveA) rfl ?_
 refine gC rfl rfl (fun hC => ungdA (k := 10) rfl (binI rfl rfl rfl)) rfl ?_
 refine s0 (pickOrA rfl rfl rfl) rfl ?_
 refine s0 moveA rfl ?_
 refine gC rfl rfl (fun hC => moveA) rfl ?_
 refine gC rfl rfl (fun hC => ungdA (k := 14) rfl (binI rfl rfl rfl)) rfl ?_
 refine s0 (pickOrA rfl rfl rfl) rfl ?_
 refine s0 moveA rfl ?_
 refine gC rfl rfl (fun hC => moveA) rfl ?_
 refine gC rfl rfl (fun hC => ungdA (k := 18) rfl (binI rfl rfl rfl)) rfl ?_
 refine s0 (pickOrA rfl rfl rfl) rfl ?_
 refine s0 assignA rfl ?_
 refine nil ?_
 refine hK2 _ ?_
 clear hK2 K2
 refine AWp.ret ?_
 repeat (first | refine xBlock_ret ?_ | refine xThen_ret ?_)
 obtain rfl := Option.some.inj hE
 refine retQ.retF H rfl ⟨rfl, rfl⟩ ?_
 exact (fun _ _ h => h)
def Z16_j2  (s1_3 : Int) : Option Int := some s1_3
def Z16_l23 (a0 : Bs) (k_next_5 : Int → Option Int) : Nat → Int → Option Int
 | 0, _ => none
 | n23 + 1, s1_24 => guardO ((decide (s1_24 < ((a0.length : Nat) : Int)))) (idxC a0 s1_24) (0 : UInt8) fun x28 => guardO (((decide (s1_24 < ((a0.length : Nat) : Int))) && (!decide (((x28.toNat : Nat) : Int) = (10 : Int))))) (idxC a0 s1_24) (0 : UInt8) fun x29 => bif (((decide (s1_24 < ((a0.length : Nat) : Int))) && (!decide (((x28.toNat : Nat) : Int) = (10 : Int)))) && (!decide (((x29.toNat : Nat) : Int) = (13 : Int)))) then ((addC s1_24 (1 : Int)).bind fun x31 => (Z16_l23 a0 k_next_5 n23) x31) else (k_next_5 s1_24)
def Z16_l5 (a0 : Bs)  : Nat → Int → Option Int
 | 0, _ => none
 | n5 + 1, s1_6 => bif (decide (s1_6 < ((a0.length : Nat) : Int))) then ((idxC a0 s1_6).bind fun x13 => (Z17 ((x13.toNat : Nat) : Int)).bind fun x14 => bif x14 then ((addC s1_6 (1 : Int)).bind fun x17 => (Z16_l5 a0 n5) x17) else ((idxC a0 s1_6).bind fun x20 => bif (!decide (((x20.toNat : Nat) : Int) = (35 : Int))) then (some s1_6) else (Z16_l23 a0 ((Z16_l5 a0 n5)) F0 s1_6))) else (Z16_j2   s1_6)
def Z16 (a0 : Bs) (a1 : Int) : Option Int := Z16_l5 a0 F0 a1
theorem Z16_walk {a0 : Bs} {a1 : Int}   {r : Int} (hE : Z16 a0 a1 = some r) (H : Heap)  : ACalls Tryz.prog 56 [.d (.str a0), .d (.int .i64 a1)] H fun v h' => v = .a (.d (.int .i64 r)) ∧ h' = H := by
 unfold Z16 at hE
 refine ACalls.of_wp (fn := Tryz.f56) (c := _) Tryz.tab_ok (fun _ _ => Tryz.call56 _ _) Tryz.func56 rfl (n := 39) rfl (rs := [.tmp 4]) rfl rfl ?_
 refine seqK fun K1 hK1 => ?_
 refine region ?_
 refine s0 assignA rfl ?_
 refine nil ?_
 refine hK1 _ ?_
 clear hK1 K1
 refine seqJH KeepsT.nil (fun (z : Int) => [(1, .a (.d (.int .i64 z)))]) (fun z => H) (fun z => Z16_j2 z = some r) ?_ ?_
 ·intro K2 hK2
  refine block ?_
  refine loopH (KeepsT.A (k := 0) KeepsT.nil) (fun (z : Nat × Int) => [(1, .a (.d (.int .i64 z.2)))]) (fun z => H) (fun z => z.1) (fun z => Z16_l5 a0 z.1 z.2 = some r) (F0, a1) hE Weak.toA ?_
  rintro ⟨n5, s1_6⟩ hE K5 hK5
  try dsimp only at hE
  cases n5 with
  | zero => cases hE
  | succ n5 =>
    rw [Z16_l5] at hE
    refine seqK fun K7 hK7 => ?_
    refine seqK fun K8 hK8 => ?_
    refine region ?_
    refine s0 moveA rfl ?_
    refine s0 moveA rfl ?_
    refine sLenS (TK rfl) rfl rfl rfl rfl fun hL9 => ?_
    refine s0 (binI rfl rfl rfl) rfl ?_
    refine nil ?_
    refine hK8 _ ?_
    clear hK8 K8
    refine condE hE rfl (fun hc10 hE => ?_) (fun hc10 hE => ?_)
    ·refine AWp.skip ?_
     refine hK7 _ ?_
     clear hK7 K7
     refine block ?_
     refine seqK fun K11 hK11 => ?_
     refine seqK fun K12 hK12 => ?_
     refine region ?_
     refine s0 moveA rfl ?_
     refine s0 moveA rfl ?_
     obtain ⟨x13, gx13, hE⟩ := bindO_some hE
     refine s0 (idxS (TK rfl) rfl rfl rfl gx13) rfl ?_
     obtain ⟨x14, gx14, hE⟩ := bindO_some hE
     refine s0 (callP rfl rfl (fun H => Z17_walk gx14 H)) rfl ?_
     refine nil ?_
     refine hK12 _ ?_
     clear hK12 K12
     refine condE hE rfl (fun hc15 hE => ?_) (fun hc15 hE => ?_)
     ·refine seqK fun K16 hK16 => ?_
      refine region ?_
      refine s0 moveA rfl ?_
      obtain ⟨x17, gx17, hE⟩ := bindO_some hE
      refine s0 (addM rfl rfl gx17) rfl ?_
      refine s0 assignA rfl ?_
      refine nil ?_
      refine hK16 _ ?_
      clear hK16 K16
      refine AWp.exit ?_
      exact hK5 _ (n5, x17) Weak.toA hE (Nat.lt_succ_self _)
     refine AWp.skip ?_
     refine hK11 _ ?_
     clear hK11 K11
     refine seqK fun K18 hK18 => ?_
     refine seqK fun K19 hK19 => ?_
     refine region ?_
     refine s0 moveA rfl ?_
     refine s0 moveA rfl ?_
     obtain ⟨x20, gx20, hE⟩ := bindO_some hE
     refine s0 (idxS (TK rfl) rfl rfl rfl gx20) rfl ?_
     refine s0 (binI rfl rfl rfl) rfl ?_
     refine nil ?_
     refine hK19 _ ?_
     clear hK19 K19
     refine condE hE rfl (fun hc21 hE => ?_) (fun hc21 hE => ?_)
     ·refine seqK fun K22 hK22 => ?_
      refine region ?_
      refine s0 moveA rfl ?_
      refine s0 assignA rfl ?_
      refine nil ?_
      refine hK22 _ ?_
      clear hK22 K22
      refine AWp.ret ?_
      repeat (first | refine xBlock_ret ?_ | refine xThen_ret ?_)
      obtain rfl := Option.some.inj hE
      refine retQ.retF H rfl ⟨rfl, rfl⟩ ?_
      exact (fun _ _ h => h)
     refine AWp.skip ?_
     refine hK18 _ ?_
     clear hK18 K18
     refine block ?_
     refine loopH (KeepsT.A (k := 0) KeepsT.nil) (fun (z : Nat × Int) => [(1, .a (.d (.int .i64 z.2)))]) (fun z => H) (fun z => z.1) (fun z => Z16_l23 a0 ((Z16_l5 a0 n5)) z.1 z.2 = some r) (F0, s1_6) hE Weak.toA ?_
     rintro ⟨n23, s1_24⟩ hE K23 hK23
     try dsimp only at hE
     cases n23 with
     | zero => cases hE
     | succ n23 =>
       rw [Z16_l23] at hE
       refine seqK fun K25 hK25 => ?_
       refine seqK fun K26 hK26 => ?_
       refine region ?_
       refine s0 moveA rfl ?_
       refine s0 moveA rfl ?_
       refine sLenS (TK rfl) rfl rfl rfl rfl fun hL27 => ?_
       refine s0 (binI rfl rfl rfl) rfl ?_
       refine s0 moveA rfl ?_
       refine gC rfl rfl (fun hC => moveA) rfl ?_
       refine gC rfl rfl (fun hC => moveA) rfl ?_
       obtain ⟨x28, gx28, hE⟩ := guardO_some hE
       refine gC rfl rfl (fun hC => ungdA (k := 25) rfl (ungdA (k := 26) rfl (idxS (TK rfl) rfl rfl rfl (gx28 hC)))) rfl ?_
       refine gC rfl rfl (fun hC => ungdA (k := 27) rfl (binI rfl rfl rfl)) rfl ?_
       refine s0 (pickAndA rfl rfl rfl) rfl ?_
       refine s0 moveA rfl ?_
       refine gC rfl rfl (fun hC => moveA) rfl ?_
       refine gC rfl rfl (fun hC => moveA) rfl ?_
       obtain ⟨x29, gx29, hE⟩ := guardO_some hE
       refine gC rfl rfl (fun hC => ungdA (k := 31) rfl (ungdA (k := 32) rfl (idxS (TK rfl) rfl rfl rfl (gx29 hC)))) rfl ?_
       refine gC rfl rfl (fun hC => ungdA (k := 33) rfl (binI rfl rfl rfl)) rfl ?_
       refine s0 (pickAndA rfl rfl rfl) rfl ?_
       refine nil ?_
       refine hK26 _ ?_
       clear hK26 K26
       refine condE hE rfl (fun hc30 hE => ?_) (fun hc30 hE => ?_)
       ·refine AWp.skip ?_
        refine hK25 _ ?_
        clear hK25 K25
        refine block ?_
        refine region ?_
        refine s0 moveA rfl ?_
        obtain ⟨x31, gx31, hE⟩ := bindO_some hE
        refine s0 (addM rfl rfl gx31) rfl ?_
        refine s0 assignA rfl ?_
        refine nil ?_
        exact hK23 _ (n23, x31) Weak.toA hE (Nat.lt_succ_self _)
       refine AWp.exit ?_
       exact hK5 _ (n5, s1_24) Weak.toA hE (Nat.lt_succ_self _)
    refine AWp.exit ?_
    exact hK2 _ s1_6 Weak.toA hE
 rintro s1_3 hE
 try dsimp only at hE
 unfold Z16_j2 at hE
 refine seqK fun K4 hK4 => ?_
 refine region ?_
 refine s0 moveA rfl ?_
 refine s0 assignA rfl ?_
 refine nil ?_
 refine hK4 _ ?_
 clear hK4 K4
 refine AWp.ret ?_
 repeat (first | refine xBlock_ret ?_ | refine xThen_ret ?_)
 obtain rfl := Option.some.inj hE
 refine retQ.retF H rfl ⟨rfl, rfl⟩ ?_
 exact (fun _ _ h => h)
def Z15_j3   : Option Bool := some false
def Z15_l6 (a0 : Int)  : Nat → Nat → Option Bool
 | 0, _ => none
 | n6 + 1, s4_7 => bif (decide (((s4_7 : Nat) : Int) < ((([33, 36, 38, 40, 41, 58, 61, 64, 91, 93, 123, 124, 125] : Bs).length : Nat) : Int))) then ((([33, 36, 38, 40, 41, 58, 61, 64, 91, 93, 123, 124, 125] : Bs)[s4_7]?).bind fun x14 => bif (decide (((x14.toNat : Nat) : Int) = a0)) then (some true) else ((Z15_l6 a0 n6) (s4_7 + 1))) else (Z15_j3   )
def Z15 (a0 : Int) : Option Bool := Z15_l6 a0 ((Int.toNat ((([33, 36, 38, 40, 41, 58, 61, 64, 91, 93, 123, 124, 125] : Bs).length : Nat) : Int)) + 1) 0
theorem Z15_walk {a0 : Int}   {r : Bool} (hE : Z15 a0 = some r) (H : Heap)  : ACalls Tryz.prog 70 [.d (.int .u8 a0)] H fun v h' => v = .a (.d (.bool r)) ∧ h' = H := by
 unfold Z15 at hE
 refine ACalls.of_wp (fn := Tryz.f70) (c := _) Tryz.tab_ok (fun _ _ => Tryz.call70 _ _) Tryz.func70 rfl (n := 16) rfl (rs := [.tmp 2]) rfl rfl ?_
 refine seqK fun K1 hK1 => ?_
 refine region ?_
 refine s0 assignA rfl ?_
 refine nil ?_
 refine hK1 _ ?_
 clear hK1 K1
 refine seqK fun K2 hK2 => ?_
 refine region ?_
 refine s0 assignA rfl ?_
 refine nil ?_
 refine hK2 _ ?_
 clear hK2 K2
 refine seqJH KeepsT.nil (fun (z : Unit) => []) (fun z => H) (fun z => Z15_j3  = some r) ?_ ?_
 ·intro K3 hK3
  refine seqK fun K5 hK5 => ?_
  refine region ?_
  refine s0 assignA rfl ?_
  refine nil ?_
  refine hK5 _ ?_
  clear hK5 K5
  refine block ?_
  refine loopH (KeepsT.A (k := 0) (KeepsT.A (k := 3) KeepsT.nil)) (fun (z : Nat × Nat) => [(4, .a (.d (.int .i64 ((z.2 : Nat) : Int))))]) (fun z => H) (fun z => z.1) (fun z => Z15_l6 a0 z.1 z.2 = some r) (((Int.toNat ((([33, 36, 38, 40, 41, 58, 61, 64, 91, 93, 123, 124, 125] : Bs).length : Nat) : Int)) + 1), 0) hE Weak.toA ?_
  rintro ⟨n6, s4_7⟩ hE K6 hK6
  try dsimp only at hE
  cases n6 with
  | zero => cases hE
  | succ n6 =>
    rw [Z15_l6] at hE
    refine seqK fun K8 hK8 => ?_
    refine seqK fun K9 hK9 => ?_
    refine region ?_
    refine s0 moveA rfl ?_
    refine s0 moveA rfl ?_
    refine sLenS (TK rfl) rfl rfl rfl rfl fun hL10 => ?_
    refine s0 (binI rfl rfl rfl) rfl ?_
    refine nil ?_
    refine hK9 _ ?_
    clear hK9 K9
    refine condE hE rfl (fun hc11 hE => ?_) (fun hc11 hE => ?_)
    ·try dsimp only at hc11
     have hf11 := of_decide_eq_true hc11
     refine AWp.skip ?_
     refine hK8 _ ?_
     clear hK8 K8
     refine seqK fun K12 hK12 => ?_
     refine block ?_
     refine seqK fun K13 hK13 => ?_
     refine region ?_
     refine s0 moveA rfl ?_
     refine s0 moveA rfl ?_
     obtain ⟨x14, gx14, hE⟩ := bindO_some hE
     refine s0 (idxSn (n := s4_7) (TK rfl) rfl rfl rfl gx14) rfl ?_
     refine s0 moveA rfl ?_
     refine s0 (binI rfl rfl rfl) rfl ?_
     refine nil ?_
     refine hK13 _ ?_
     clear hK13 K13
     refine condE hE rfl (fun hc15 hE => ?_) (fun hc15 hE => ?_)
     ·refine seqK fun K16 hK16 => ?_
      refine region ?_
      refine s0 assignA rfl ?_
      refine nil ?_
      refine hK16 _ ?_
      clear hK16 K16
      refine AWp.ret ?_
      repeat (first | refine xBlock_ret ?_ | refine xThen_ret ?_)
      obtain rfl := Option.some.inj hE
      refine retQ.retF H rfl ⟨rfl, rfl⟩ ?_
      exact (fun _ _ h => h)
     refine AWp.skip ?_
     refine hK12 _ ?_
     clear hK12 K12
     refine region ?_
     refine s0 moveA rfl ?_
     refine s0 (addI rfl rfl (by first | omega | (dsimp only; omega) | (simp at *; omega)) (by first | omega | (dsimp only; omega) | (simp at *; omega))) rfl ?_
     refine s0 assignA rfl ?_
     refine nil ?_
     exact hK6 _ (n6, (s4_7 + 1)) Weak.toA hE (Nat.lt_succ_self _)
    refine AWp.exit ?_
    exact hK3 _ () Weak.toA hE
 rintro _ hE
 try dsimp only at hE
 unfold Z15_j3 at hE
 refine seqK fun K4 hK4 => ?_
 refine region ?_
 refine s0 assignA rfl ?_
 refine nil ?_
 refine hK4 _ ?_
 clear hK4 K4
 refine AWp.ret ?_
 repeat (first | refine xBlock_ret ?_ | refine xThen_ret ?_)
 obtain rfl := Option.some.inj hE
 refine retQ.retF H rfl ⟨rfl, rfl⟩ ?_
 exact (fun _ _ h => h)
def Z13 (a0 : Int) : Option Bool := some ((((decide ((65 : Int) ≤ a0)) && (decide (a0 ≤ (90 : Int)))) || ((decide ((97 : Int) ≤ a0)) && (decide (a0 ≤ (122 : Int))))) || (decide (a0 = (95 : Int))))
theorem Z13_walk {a0 : Int}   {r : Bool} (hE : Z13 a0 = some r) (H : Heap)  : ACalls Tryz.prog 71 [.d (.int .u8 a0)] H fun v h' => v = .a (.d (.bool r)) ∧ h' = H := by
 unfold Z13 at hE
 refine ACalls.of_wp (fn := Tryz.f71) (c := _) Tryz.tab_ok (fun _ _ => Tryz.call71 _ _) Tryz.func71 rfl (n := 21) rfl (rs := [.tmp 2]) rfl rfl ?_
 refine seqK fun K1 hK1 => ?_
 refine region ?_
 refine s0 assignA rfl ?_
 refine nil ?_
 refine hK1 _ ?_
 clear hK1 K1
 refine seqK fun K2 hK2 => ?_
 refine region ?_
 refine s0 moveA rfl ?_
 refine s0 (binI rfl rfl rfl) rfl ?_
 refine s0 moveA rfl ?_
 refine gC rfl rfl (fun hC => moveA) rfl ?_
 refine gC rfl rfl (fun hC => ungdA (k := 6) rfl (binI rfl rfl rfl)) rfl ?_
 refine s0 (pickAndA rfl rfl rfl) rfl ?_
 refine s0 moveA rfl ?_
 refine gC rfl rfl (fun hC => moveA) rfl ?_
 refine gC rfl rfl (fun hC => ungdA (k := 10) rfl (binI rfl rfl rfl)) rfl ?_
 refine gC rfl rfl (fun hC => ungdA (k := 11) rfl moveA) rfl ?_
 refine gC rfl rfl (fun hC => moveA) rfl ?_
 refine gC rfl rfl (fun hC => ungdA (k := 13) rfl (binI rfl rfl rfl)) rfl ?_
 refine gC rfl rfl (fun hC => ungdA (k := 12) rfl (pickAndA rfl rfl rfl)) rfl ?_
 refine s0 (pickOrA rfl rfl rfl) rfl ?_
 refine s0 moveA rfl ?_
 refine gC rfl rfl (fun hC => moveA) rfl ?_
 refine gC rfl rfl (fun hC => ungdA (k := 18) rfl (binI rfl rfl rfl)) rfl ?_
 refine s0 (pickOrA rfl rfl rfl) rfl ?_
 refine s0 assignA rfl ?_
 refine nil ?_
 refine hK2 _ ?_
 clear hK2 K2
 refine AWp.ret ?_
 repeat (first | refine xBlock_ret ?_ | refine xThen_ret ?_)
 obtain rfl := Option.some.inj hE
 refine retQ.retF H rfl ⟨rfl, rfl⟩ ?_
 exact (fun _ _ h => h)
def Z12 (a0 : Int) : Option Bool := some ((decide ((48 : Int) ≤ a0)) && (decide (a0 ≤ (57 : Int))))
theorem Z12_walk {a0 : Int}   {r : Bool} (hE : Z12 a0 = some r) (H : Heap)  : ACalls Tryz.prog 73 [.d (.int .u8 a0)] H fun v h' => v = .a (.d (.bool r)) ∧ h' = H := by
 unfold Z12 at hE
 refine ACalls.of_wp (fn := Tryz.f73) (c := _) Tryz.tab_ok (fun _ _ => Tryz.call73 _ _) Tryz.func73 rfl (n := 9) rfl (rs := [.tmp 2]) rfl rfl ?_
 refine seqK fun K1 hK1 => ?_
 refine region ?_
 refine s0 assignA rfl ?_
 refine nil ?_
 refine hK1 _ ?_
 clear hK1 K1
 refine seqK fun K2 hK2 => ?_
 refine region ?_
 refine s0 moveA rfl ?_
 refine s0 (binI rfl rfl rfl) rfl ?_
 refine s0 moveA rfl ?_
 refine gC rfl rfl (fun hC => moveA) rfl ?_
 refine gC rfl rfl (fun hC => ungdA (k := 6) rfl (binI rfl rfl rfl)) rfl ?_
 refine s0 (pickAndA rfl rfl rfl) rfl ?_
 refine s0 assignA rfl ?_
 refine nil ?_
 refine hK2 _ ?_
 clear hK2 K2
 refine AWp.ret ?_
 repeat (first | refine xBlock_ret ?_ | refine xThen_ret ?_)
 obtain rfl := Option.some.inj hE
 refine retQ.retF H rfl ⟨rfl, rfl⟩ ?_
 exact (fun _ _ h => h)
def Z18_j2  (s1_3 : Int) : Option Int := some s1_3
def Z18_l5 (a0 : Bs)  : Nat → Int → Option Int
 | 0, _ => none
 | n5 + 1, s1_6 => guardO ((decide (s1_6 < ((a0.length : Nat) : Int)))) (idxC a0 s1_6) (0 : UInt8) fun x10 => guardO ((decide (s1_6 < ((a0.length : Nat) : Int)))) (Z13 ((x10.toNat : Nat) : Int)) false fun x11 => guardO (((decide (s1_6 < ((a0.length : Nat) : Int))) && !x11)) (idxC a0 s1_6) (0 : UInt8) fun x12 => guardO (((decide (s1_6 < ((a0.length : Nat) : Int))) && !x11)) (Z12 ((x12.toNat : Nat) : Int)) false fun x13 => bif ((decide (s1_6 < ((a0.length : Nat) : Int))) && (x11 || x13)) then ((addC s1_6 (1 : Int)).bind fun x15 => (Z18_l5 a0 n5) x15) else (Z18_j2   s1_6)
def Z18 (a0 : Bs) (a1 : Int) : Option Int := Z18_l5 a0 F0 a1
theorem Z18_walk {a0 : Bs} {a1 : Int}   {r : Int} (hE : Z18 a0 a1 = some r) (H : Heap)  : ACalls Tryz.prog 72 [.d (.str a0), .d (.int .i64 a1)] H fun v h' => v = .a (.d (.int .i64 r)) ∧ h' = H := by
 unfold Z18 at hE
 refine ACalls.of_wp (fn := Tryz.f72) (c := _) Tryz.tab_ok (fun _ _ => Tryz.call72 _ _) Tryz.func72 rfl (n := 24) rfl (rs := [.tmp 4]) rfl rfl ?_
 refine seqK fun K1 hK1 => ?_
 refine region ?_
 refine s0 assignA rfl ?_
 refine nil ?_
 refine hK1 _ ?_
 clear hK1 K1
 refine seqJH KeepsT.nil (fun (z : Int) => [(1, .a (.d (.int .i64 z)))]) (fun z => H) (fun z => Z18_j2 z = some r) ?_ ?_
 ·intro K2 hK2
  refine block ?_
  refine loopH (KeepsT.A (k := 0) KeepsT.nil) (fun (z : Nat × Int) => [(1, .a (.d (.int .i64 z.2)))]) (fun z => H) (fun z => z.1) (fun z => Z18_l5 a0 z.1 z.2 = some r) (F0, a1) hE Weak.toA ?_
  rintro ⟨n5, s1_6⟩ hE K5 hK5
  try dsimp only at hE
  cases n5 with
  | zero => cases hE
  | succ n5 =>
    rw [Z18_l5] at hE
    refine seqK fun K7 hK7 => ?_
    refine seqK fun K8 hK8 => ?_
    refine region ?_
    refine s0 moveA rfl ?_
    refine s0 moveA rfl ?_
    refine sLenS (TK rfl) rfl rfl rfl rfl fun hL9 => ?_
    refine s0 (binI rfl rfl rfl) rfl ?_
    refine s0 moveA rfl ?_
    refine gC rfl rfl (fun hC => moveA) rfl ?_
    refine gC rfl rfl (fun hC => moveA) rfl ?_
    obtain ⟨x10, gx10, hE⟩ := guardO_some hE
    refine gC rfl rfl (fun hC => ungdA (k := 10) rfl (ungdA (k := 11) rfl (idxS (TK rfl) rfl rfl rfl (gx10 hC)))) rfl ?_
    obtain ⟨x11, gx11, hE⟩ := guardO_some hE
    refine gC rfl rfl (fun hC => ungdA (k := 12) rfl (callP rfl rfl (fun H => Z13_walk (gx11 hC) H))) rfl ?_
    refine gC rfl rfl (fun hC => ungdA (k := 13) rfl moveA) rfl ?_
    refine gC rfl rfl (fun hC => moveA) rfl ?_
    refine gC rfl rfl (fun hC => moveA) rfl ?_
    obtain ⟨x12, gx12, hE⟩ := guardO_some hE
    refine gC rfl rfl (fun hC => ungdA (k := 15) rfl (ungdA (k := 16) rfl (idxS (TK rfl) rfl rfl rfl (gx12 hC)))) rfl ?_
    obtain ⟨x13, gx13, hE⟩ := guardO_some hE
    refine gC rfl rfl (fun hC => ungdA (k := 17) rfl (callP rfl rfl (fun H => Z12_walk (gx13 hC) H))) rfl ?_
    refine gC rfl rfl (fun hC => ungdA (k := 14) rfl (pickOrA rfl rfl rfl)) rfl ?_
    refine s0 (pickAndA rfl rfl rfl) rfl ?_
    refine nil ?_
    refine hK8 _ ?_
    clear hK8 K8
    refine condE hE rfl (fun hc14 hE => ?_) (fun hc14 hE => ?_)
    ·refine AWp.skip ?_
     refine hK7 _ ?_
     clear hK7 K7
     refine block ?_
     refine region ?_
     refine s0 moveA rfl ?_
     obtain ⟨x15, gx15, hE⟩ := bindO_some hE
     refine s0 (addM rfl rfl gx15) rfl ?_
     refine s0 assignA rfl ?_
     refine nil ?_
     exact hK5 _ (n5, x15) Weak.toA hE (Nat.lt_succ_self _)
    refine AWp.exit ?_
    exact hK2 _ s1_6 Weak.toA hE
 rintro s1_3 hE
 try dsimp only at hE
 unfold Z18_j2 at hE
 refine seqK fun K4 hK4 => ?_
 refine region ?_
 refine s0 moveA rfl ?_
 refine s0 assignA rfl ?_
 refine nil ?_
 refine hK4 _ ?_
 clear hK4 K4
 refine AWp.ret ?_
 repeat (first | refine xBlock_ret ?_ | refine xThen_ret ?_)
 obtain rfl := Option.some.inj hE
 refine retQ.retF H rfl ⟨rfl, rfl⟩ ?_
 exact (fun _ _ h => h)
def Z7 (a0 : Int) : Option Bool := some ((decide ((48 : Int) ≤ a0)) && (decide (a0 ≤ (57 : Int))))
theorem Z7_walk {a0 : Int}   {r : Bool} (hE : Z7 a0 = some r) (H : Heap)  : ACalls Tryz.prog 51 [.d (.int .u8 a0)] H fun v h' => v = .a (.d (.bool r)) ∧ h' = H := by
 unfold Z7 at hE
 refine ACalls.of_wp (fn := Tryz.f51) (c := _) Tryz.tab_ok (fun _ _ => Tryz.call51 _ _) Tryz.func51 rfl (n := 9) rfl (rs := [.tmp 2]) rfl rfl ?_
 refine seqK fun K1 hK1 => ?_
 refine region ?_
 refine s0 assignA rfl ?_
 refine nil ?_
 refine hK1 _ ?_
 clear hK1 K1
 refine seqK fun K2 hK2 => ?_
 refine region ?_
 refine s0 moveA rfl ?_
 refine s0 (binI rfl rfl rfl) rfl ?_
 refine s0 moveA rfl ?_
 refine gC rfl rfl (fun hC => moveA) rfl ?_
 refine gC rfl rfl (fun hC => ungdA (k := 6) rfl (binI rfl rfl rfl)) rfl ?_
 refine s0 (pickAndA rfl rfl rfl) rfl ?_
 refine s0 assignA rfl ?_
 refine nil ?_
 refine hK2 _ ?_
 clear hK2 K2
 refine AWp.ret ?_
 repeat (first | refine xBlock_ret ?_ | refine xThen_ret ?_)
 obtain rfl := Option.some.inj hE
 refine retQ.retF H rfl ⟨rfl, rfl⟩ ?_
 exact (fun _ _ h => h)
end Go.Proofs
