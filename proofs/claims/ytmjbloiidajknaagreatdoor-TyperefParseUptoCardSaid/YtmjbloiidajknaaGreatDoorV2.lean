import Derived.Test.YtmjbloiidajknaaGreatDoorV1
set_option maxRecDepth 100000
set_option maxHeartbeats 2000000
set_option linter.unusedVariables false
set_option linter.unusedSimpArgs false
namespace Go.Proofs
open Go Go.Ab
open AOps Cert AWp
variable {lou : Lou}
section
variable [IsLoud lou]
def Z43_j9 (a0 : Bs)   : Option (Int × Int) := (Z32 a0).bind fun x11 => bif x11.2 then (some ((0 : Int), (4 : Int))) else (some (x11.1, (0 : Int)))
def Z43_l19 (a0 : Bs) (x3 : Bs)  : Nat → Nat → Option (Int × Int)
 | 0, _ => none
 | n19 + 1, s29_20 => bif (decide (((s29_20 : Nat) : Int) < ((x3.length : Nat) : Int))) then ((x3[s29_20]?).bind fun x27 => guardO (!(decide (((x27.toNat : Nat) : Int) < (48 : Int)))) (x3[s29_20]?) (0 : UInt8) fun x28 => bif ((decide (((x27.toNat : Nat) : Int) < (48 : Int))) || (decide ((57 : Int) < ((x28.toNat : Nat) : Int)))) then (some ((0 : Int), (3 : Int))) else ((Z43_l19 a0 x3 n19) (s29_20 + 1))) else (Z43_j9 a0  )
def Z43 (a0 : Bs) : Option (Int × Int) := (Z41 a0 ([45] : Bs)).bind fun x3 => guardO (!((x3 == ([] : Bs)))) (x3[0]?) (0 : UInt8) fun x6 => bif (((x3 == ([] : Bs))) || ((decide (((x6.toNat : Nat) : Int) = (48 : Int))) && ((decide ((1 : Int) < ((x3.length : Nat) : Int))) || (decide ((1 : Int) < ((a0.length : Nat) : Int)))))) then (some ((0 : Int), (3 : Int))) else (Z43_l19 a0 x3 (x3.length + 1) 0)
theorem Z43_walk {a0 : Bs} {oE : Ab.Obj} {gE : Nat} {r : (Int × Int)} (hE : Z43 a0 = some r) (H : Heap) (hgE : H gE = some oE) (hoE : IsErr Tryz.prog oE) : ACalls Tryz.prog 66 [.d (.str a0)] H fun v h' => v = .tup [.d (.int .i64 r.1), .d (.int .i64 r.2)] ∧ h' = H := by
 unfold Z43 at hE
 refine ACalls.of_wp (fn := Tryz.f66) (c := _) Tryz.tab_ok (fun _ _ => Tryz.call66 _ _) Tryz.func66 rfl (n := 51) rfl (rs := [.tmp 2, .tmp 3]) rfl rfl ?_
 refine seqK fun K1 hK1 => ?_
 refine region ?_
 refine s0 assignA rfl ?_
 refine s0 assignA rfl ?_
 refine nil ?_
 refine hK1 _ ?_
 clear hK1 K1
 refine seqK fun K2 hK2 => ?_
 refine region ?_
 refine s0 moveA rfl ?_
 obtain ⟨x3, gx3, hE⟩ := bindO_some hE
 refine s0 (callP rfl rfl (fun H => Z41_walk gx3 H)) rfl ?_
 refine s0 assignA rfl ?_
 refine nil ?_
 refine hK2 _ ?_
 clear hK2 K2
 refine seqK fun K4 hK4 => ?_
 refine seqK fun K5 hK5 => ?_
 refine region ?_
 refine s0 moveA rfl ?_
 refine s0 (binS rfl rfl rfl) rfl ?_
 refine s0 moveA rfl ?_
 refine gC rfl rfl (fun hC => moveA) rfl ?_
 obtain ⟨x6, gx6, hE⟩ := guardO_some hE
 refine gC rfl rfl (fun hC => ungdA (k := 13) rfl (idxSn (n := 0) (TK rfl) rfl rfl rfl (gx6 hC))) rfl ?_
 refine gC rfl rfl (fun hC => ungdA (k := 14) rfl (binI rfl rfl rfl)) rfl ?_
 refine gC rfl rfl (fun hC => ungdA (k := 15) rfl moveA) rfl ?_
 refine gC rfl rfl (fun hC => moveA) rfl ?_
 refine gC rfl rfl (fun hC => ungdA (k := 17) rfl (lenS (TK rfl) rfl rfl rfl)) rfl ?_
 refine gC rfl rfl (fun hC => ungdA (k := 18) rfl (binI rfl rfl rfl)) rfl ?_
 refine gC rfl rfl (fun hC => ungdA (k := 19) rfl moveA) rfl ?_
 refine gC rfl rfl (fun hC => moveA) rfl ?_
 refine gC rfl rfl (fun hC => ungdA (k := 21) rfl (lenS (TK rfl) rfl rfl rfl)) rfl ?_
 refine gC rfl rfl (fun hC => ungdA (k := 22) rfl (binI rfl rfl rfl)) rfl ?_
 refine gC rfl rfl (fun hC => ungdA (k := 20) rfl (pickOrA rfl rfl rfl)) rfl ?_
 refine gC rfl rfl (fun hC => ungdA (k := 16) rfl (pickAndA rfl rfl rfl)) rfl ?_
 refine s0 (pickOrA rfl rfl rfl) rfl ?_
 refine nil ?_
 refine hK5 _ ?_
 clear hK5 K5
 refine condE hE rfl (fun hc7 hE => ?_) (fun hc7 hE => ?_)
 ·refine seqK fun K8 hK8 => ?_
  refine region ?_
  refine s0 assignA rfl ?_
  refine s0 assignA rfl ?_
  refine nil ?_
  refine hK8 _ ?_
  clear hK8 K8
  refine AWp.ret ?_
  repeat (first | refine xBlock_ret ?_ | refine xThen_ret ?_)
  obtain rfl := Option.some.inj hE
  refine retQ.retF H rfl ⟨rfl, rfl⟩ ?_
  exact (fun _ _ h => h)
 refine AWp.skip ?_
 refine hK4 _ ?_
 clear hK4 K4
 refine seqJH (KeepsT.A (k := 0) KeepsT.nil) (fun (z : Unit) => []) (fun z => H) (fun z => Z43_j9 a0  = some r) ?_ ?_
 ·intro K9 hK9
  refine seqK fun K17 hK17 => ?_
  refine region ?_
  refine s0 moveA rfl ?_
  refine sLenS (TK rfl) rfl rfl rfl rfl fun hL18 => ?_
  refine s0 moveA rfl ?_
  refine nil ?_
  refine hK17 _ ?_
  clear hK17 K17
  refine block ?_
  refine loopH (KeepsT.A (k := 0) (KeepsT.A (k := 4) (KeepsT.A (k := 28) KeepsT.nil))) (fun (z : Nat × Nat) => [(29, .a (.d (.int .i64 ((z.2 : Nat) : Int))))]) (fun z => H) (fun z => z.1) (fun z => Z43_l19 a0 x3 z.1 z.2 = some r) ((x3.length + 1), 0) hE Weak.toA ?_
  rintro ⟨n19, s29_20⟩ hE K19 hK19
  try dsimp only at hE
  cases n19 with
  | zero => cases hE
  | succ n19 =>
    rw [Z43_l19] at hE
    refine seqK fun K21 hK21 => ?_
    refine region ?_
    refine s0 (binI rfl rfl rfl) rfl ?_
    refine nil ?_
    refine hK21 _ ?_
    clear hK21 K21
    refine seqK fun K22 hK22 => ?_
    refine condE hE rfl (fun hc23 hE => ?_) (fun hc23 hE => ?_)
    ·try dsimp only at hc23
     have hf23 := of_decide_eq_true hc23
     refine AWp.skip ?_
     refine hK22 _ ?_
     clear hK22 K22
     refine seqK fun K24 hK24 => ?_
     refine block ?_
     refine seqK fun K25 hK25 => ?_
     refine region ?_
     refine s0 moveA rfl ?_
     refine s0 assignA rfl ?_
     refine nil ?_
     refine hK25 _ ?_
     clear hK25 K25
     refine seqK fun K26 hK26 => ?_
     refine region ?_
     refine s0 moveA rfl ?_
     refine s0 moveA rfl ?_
     obtain ⟨x27, gx27, hE⟩ := bindO_some hE
     refine s0 (idxSn (n := s29_20) (TK rfl) rfl rfl rfl gx27) rfl ?_
     refine s0 (binI rfl rfl rfl) rfl ?_
     refine s0 moveA rfl ?_
     refine gC rfl rfl (fun hC => moveA) rfl ?_
     refine gC rfl rfl (fun hC => moveA) rfl ?_
     obtain ⟨x28, gx28, hE⟩ := guardO_some hE
     refine gC rfl rfl (fun hC => ungdA (k := 37) rfl (ungdA (k := 38) rfl (idxSn (n := s29_20) (TK rfl) rfl rfl rfl (gx28 hC)))) rfl ?_
     refine gC rfl rfl (fun hC => ungdA (k := 39) rfl (binI rfl rfl rfl)) rfl ?_
     refine s0 (pickOrA rfl rfl rfl) rfl ?_
     refine nil ?_
     refine hK26 _ ?_
     clear hK26 K26
     refine condE hE rfl (fun hc29 hE => ?_) (fun hc29 hE => ?_)
     ·refine seqK fun K30 hK30 => ?_
      refine region ?_
      refine s0 assignA rfl ?_
      refine s0 assignA rfl ?_
      refine nil ?_
      refine hK30 _ ?_
      clear hK30 K30
      refine AWp.ret ?_
      repeat (first | refine xBlock_ret ?_ | refine xThen_ret ?_)
      obtain rfl := Option.some.inj hE
      refine retQ.retF H rfl ⟨rfl, rfl⟩ ?_
      exact (fun _ _ h => h)
     refine AWp.skip ?_
     refine hK24 _ ?_
     clear hK24 K24
     refine region ?_
     refine s0 (addI rfl rfl (by first | omega | (dsimp only; omega) | (simp at *; omega)) (by first | omega | (dsimp only; omega) | (simp at *; omega))) rfl ?_
     refine s0 moveA rfl ?_
     refine nil ?_
     exact hK19 _ (n19, (s29_20 + 1)) Weak.toA hE (Nat.lt_succ_self _)
    refine AWp.exit ?_
    exact hK9 _ () Weak.toA hE
 rintro _ hE
 try dsimp only at hE
 unfold Z43_j9 at hE
 refine seqK fun K10 hK10 => ?_
 refine region ?_
 refine s0 moveA rfl ?_
 obtain ⟨x11, gx11, hE⟩ := bindO_some hE
 refine s0 (callR rfl rfl (Z32_walk (gE := gE) (oE := oE) gx11 _ hpG (by assumption))) rfl ?_
 refine s0 moveA rfl ?_
 refine s0 (extract rfl rfl) rfl ?_
 refine s0 (extract rfl rfl) rfl ?_
 refine s0 assignA rfl ?_
 refine s0 assignA rfl ?_
 refine nil ?_
 refine hK10 _ ?_
 clear hK10 K10
 refine seqK fun K12 hK12 => ?_
 refine seqK fun K13 hK13 => ?_
 refine region ?_
 refine s0 moveA rfl ?_
 refine s0 (neErr (TK rfl) rfl rfl) rfl ?_
 refine nil ?_
 refine hK13 _ ?_
 clear hK13 K13
 refine condE hE rfl (fun hc14 hE => ?_) (fun hc14 hE => ?_)
 ·refine seqK fun K15 hK15 => ?_
  refine region ?_
  refine s0 assignA rfl ?_
  refine s0 assignA rfl ?_
  refine nil ?_
  refine hK15 _ ?_
  clear hK15 K15
  refine AWp.ret ?_
  repeat (first | refine xBlock_ret ?_ | refine xThen_ret ?_)
  obtain rfl := Option.some.inj hE
  refine retQ.retF H rfl ⟨rfl, rfl⟩ ?_
  exact (fun _ _ h => h)
 refine AWp.skip ?_
 refine hK12 _ ?_
 clear hK12 K12
 refine seqK fun K16 hK16 => ?_
 refine region ?_
 refine s0 moveA rfl ?_
 refine s0 assignA rfl ?_
 refine s0 assignA rfl ?_
 refine nil ?_
 refine hK16 _ ?_
 clear hK16 K16
 refine AWp.ret ?_
 repeat (first | refine xBlock_ret ?_ | refine xThen_ret ?_)
 obtain rfl := Option.some.inj hE
 refine retQ.retF H rfl ⟨rfl, rfl⟩ ?_
 exact (fun _ _ h => h)
end
/-- A step of the scan for a literal's end: whether it goes on, and whether the next byte is skipped. -/
def token_litStep (sk : Bool) (c : Int) : Bool × Bool := bif sk then (true, false) else (!decide (c = (34 : Int)), decide (c = (92 : Int)))
def token_litSpan (s : Bs) : Nat → Int → Bool → Option (Int × Bool)
 | 0, _, _ => none
 | n + 1, i, sk => bif decide (i < ((s.length : Nat) : Int)) then ((idxC s i).bind fun x => bif (token_litStep sk (IntKind.wrap .i32 ((x.toNat : Nat) : Int))).1 then ((addC i (1 : Int)).bind fun i2 => token_litSpan s n i2 (token_litStep sk (IntKind.wrap .i32 ((x.toNat : Nat) : Int))).2) else some (i, (token_litStep sk (IntKind.wrap .i32 ((x.toNat : Nat) : Int))).2)) else some (i, sk)
def Z48 (a0 : Bs) (a1 : Int) : Option Int := (addC a1 (1 : Int)).bind fun x9 => (token_litSpan a0 F0 x9 false).bind fun x11 => bif decide (((a0.length : Nat) : Int) ≤ x11.1) then some (-1 : Int) else (addC x11.1 (1 : Int)).bind fun x17 => some x17
theorem gH_ {P : Program} {ops : Array Oper} {rest : List Oper} {Q : St → Prop} {n d gi dg : Nat} {op : Op} {ty : TypeId} {pos : String} {aft : Array Edge} {b want : Bool} {ts : Ts} {ls : List (List D)} {h h' : Heap} {v : V} (hg : (ops[gi]?).bind (·.dst) = some dg) (hb : get ts dg = .a (.d (.bool b))) (hw : b = want)
  (hs : Cert P ⟨some d, op, ty, pos, aft, some (gi, want)⟩ ts ls h { rh := true, wh := true } v ls h') (hd : Nat.blt d n = true) (hr : AOps P ops rest Q ⟨n, (d, v) :: ts, ls, h'⟩) : AOps P ops (⟨some d, op, ty, pos, aft, some (gi, want)⟩ :: rest) Q ⟨n, ts, ls, h⟩ :=
 AOps.stepW hs (guardOf_mk hg) hb hw hd hr
theorem token_lit1_walk {a0 : Int} {sk : Bool} {c1 : Nat} (H : Heap) (hc1 : H c1 = some (.cells [.bool sk])) : ACalls Tryz.prog 85 [.d (.int .i32 a0), .d (.ptr c1 0)] H fun v h' => v = .a (.d (.bool (token_litStep sk a0).1)) ∧ h' = H.set c1 (some (.cells [.bool (token_litStep sk a0).2])) := by
 refine ACalls.of_wp (fn := Tryz.f85) (c := _) Tryz.tab_ok (fun _ _ => Tryz.call85 _ _) Tryz.func85 rfl (n := 9) rfl (rs := [.tmp 3]) rfl rfl ?_
 refine seqK fun K1 hK1 => ?_
 refine region ?_
 refine s0 assignA rfl ?_
 refine nil ?_
 refine hK1 _ ?_
 clear hK1 K1
 cases sk with
 | true =>
  refine seqK fun K2 hK2 => ?_
  refine seqK fun K3 hK3 => ?_
  refine region ?_
  refine s0 (loadP (TK rfl) rfl rfl hc1 rfl) rfl ?_
  refine nil ?_
  refine hK3 _ ?_
  clear hK3 K3
  refine AWp.condT rfl rfl ?_
  refine seqK fun K4 hK4 => ?_
  refine region ?_
  refine sHn (storeP1 (TK rfl) rfl rfl hc1 rfl SetAt.zero) rfl rfl ?_
  refine nil ?_
  refine hK4 _ ?_
  clear hK4 K4
  refine seqK fun K5 hK5 => ?_
  refine region ?_
  refine s0 assignA rfl ?_
  refine nil ?_
  refine hK5 _ ?_
  clear hK5 K5
  refine AWp.ret ?_
  repeat (first | refine xBlock_ret ?_ | refine xThen_ret ?_)
  refine retQ.retF _ rfl ⟨rfl, rfl⟩ ?_
  exact (fun _ _ h => h)
 | false =>
  refine seqK fun K2 hK2 => ?_
  refine seqK fun K3 hK3 => ?_
  refine region ?_
  refine s0 (loadP (TK rfl) rfl rfl hc1 rfl) rfl ?_
  refine nil ?_
  refine hK3 _ ?_
  clear hK3 K3
  refine AWp.condF rfl rfl ?_
  refine AWp.skip ?_
  refine hK2 _ ?_
  clear hK2 K2
  refine seqK fun K4 hK4 => ?_
  refine region ?_
  refine s0 moveA rfl ?_
  refine s0 (binI rfl rfl rfl) rfl ?_
  refine sHn (storeP1 (TK rfl) rfl rfl hc1 rfl SetAt.zero) rfl rfl ?_
  refine nil ?_
  refine hK4 _ ?_
  clear hK4 K4
  refine seqK fun K5 hK5 => ?_
  refine region ?_
  refine s0 moveA rfl ?_
  refine s0 (binI rfl rfl rfl) rfl ?_
  refine s0 assignA rfl ?_
  refine nil ?_
  refine hK5 _ ?_
  clear hK5 K5
  refine AWp.ret ?_
  repeat (first | refine xBlock_ret ?_ | refine xThen_ret ?_)
  refine retQ.retF _ rfl ⟨rfl, rfl⟩ ?_
  exact (fun _ _ h => h)
theorem token_litSpan_walk {a0 : Bs} {a1 : Int} {sk : Bool} {c2 : Nat} {r : Int × Bool} (hE : token_litSpan a0 F0 a1 sk = some r) (H : Heap) (hc2 : H c2 = some (.cells [.bool sk])) :
  ACalls Tryz.prog 64 [.d (.str a0), .d (.int .i64 a1), .d (.func 85 [.ptr c2 0])] H fun v h' => v = .a (.d (.int .i64 r.1)) ∧ h' = H.set c2 (some (.cells [.bool r.2])) := by
 refine ACalls.of_wp (fn := Tryz.f64) (c := _) Tryz.tab_ok (fun _ _ => Tryz.call64 _ _) Tryz.func64 rfl (n := 22) rfl (rs := [.tmp 6]) rfl rfl ?_
 refine AWp.heqA (h' := H.set c2 (some (.cells [.bool sk]))) (Heap.set_self H c2 _ hc2).symm ?_
 refine seqK fun K1 hK1 => ?_
 refine region ?_
 refine s0 assignA rfl ?_
 refine nil ?_
 refine hK1 _ ?_
 clear hK1 K1
 refine seqJH KeepsT.nil (fun (z : Int × Bool) => [(1, .a (.d (.int .i64 z.1)))]) (fun z => H.set c2 (some (.cells [.bool z.2]))) (fun z => some z = some r) ?_ ?_
 ·intro K2 hK2
  refine block ?_
  refine loopH (KeepsT.A (k := 0) (KeepsT.A (k := 2) KeepsT.nil)) (fun (z : Nat × Int × Bool) => [(1, .a (.d (.int .i64 z.2.1)))]) (fun z => H.set c2 (some (.cells [.bool z.2.2]))) (fun z => z.1) (fun z => token_litSpan a0 z.1 z.2.1 z.2.2 = some r) (F0, a1, sk) hE Weak.toA ?_
  rintro ⟨n5, s1, sk1⟩ hE K5 hK5
  try dsimp only at hE
  cases n5 with
  | zero => cases hE
  | succ n5 =>
    rw [token_litSpan] at hE
    refine seqK fun K7 hK7 => ?_
    refine seqK fun K8 hK8 => ?_
    refine region ?_
    refine s0 moveA rfl ?_
    refine s0 moveA rfl ?_
    refine sLenS (TK rfl) rfl rfl rfl rfl fun hL9 => ?_
    refine s0 (binI rfl rfl rfl) rfl ?_
    refine s0 moveA rfl ?_
    cases hC : decide (s1 < ((a0.length : Nat) : Int)) with
    | false =>
     rw [hC] at hE
     have e9 : r = (s1, sk1) := (Option.some.inj hE).symm
     subst e9
     refine AOps.gS rfl rfl rfl rfl ?_
     refine AOps.gS rfl rfl rfl rfl ?_
     refine AOps.gS rfl rfl rfl rfl ?_
     refine AOps.gS rfl rfl rfl rfl ?_
     refine AOps.gS rfl rfl rfl rfl ?_
     refine AOps.gS rfl rfl rfl rfl ?_
     refine s0 (pickF rfl rfl (by conv => lhs; whnf)) rfl ?_
     refine nil ?_
     refine hK8 _ ?_
     clear hK8 K8
     refine AWp.condF rfl rfl ?_
     refine AWp.exit ?_
     exact hK2 _ (s1, sk1) Weak.toA rfl
    | true =>
     rw [hC] at hE
     refine AOps.g0 rfl rfl rfl moveA rfl ?_
     refine AOps.g0 rfl rfl rfl moveA rfl ?_
     refine AOps.g0 rfl rfl rfl moveA rfl ?_
     obtain ⟨x10, gx10, hE⟩ := bindO_some hE
     refine AOps.g0 rfl rfl rfl (idxS (TK rfl) rfl rfl rfl gx10) rfl ?_
     refine AOps.g0 rfl rfl rfl (convI (TK rfl) (TK rfl) rfl rfl) rfl ?_
     refine gH_ rfl rfl rfl (callH rfl rfl (token_lit1_walk _ (Heap.set_same ..))) rfl ?_
     rw [Heap.set_set]
     cases hR : (token_litStep sk1 (IntKind.wrap .i32 ((x10.toNat : Nat) : Int))).1 with
     | false =>
      rw [hR] at hE
      have e9 : r = _ := (Option.some.inj hE).symm
      subst e9
      refine s0 (pickT rfl rfl (by conv => lhs; whnf)) rfl ?_
      refine nil ?_
      refine hK8 _ ?_
      clear hK8 K8
      refine AWp.condF rfl rfl ?_
      refine AWp.exit ?_
      exact hK2 _ (s1, _) Weak.toA rfl
     | true =>
      rw [hR] at hE
      obtain ⟨x13, gx13, hE⟩ := bindO_some hE
      refine s0 (pickT rfl rfl (by conv => lhs; whnf)) rfl ?_
      refine nil ?_
      refine hK8 _ ?_
      clear hK8 K8
      refine AWp.condT rfl rfl ?_
      refine AWp.skip ?_
      refine hK7 _ ?_
      clear hK7 K7
      refine block ?_
      refine region ?_
      refine s0 moveA rfl ?_
      refine s0 (addM rfl rfl gx13) rfl ?_
      refine s0 assignA rfl ?_
      refine nil ?_
      exact hK5 _ (n5, x13, _) Weak.toA hE (Nat.lt_succ_self _)
 rintro ⟨s1, sk1⟩ hE
 have e9 : r = (s1, sk1) := (Option.some.inj hE).symm
 subst e9
 refine seqK fun K4 hK4 => ?_
 refine region ?_
 refine s0 moveA rfl ?_
 refine s0 assignA rfl ?_
 refine nil ?_
 refine hK4 _ ?_
 clear hK4 K4
 refine AWp.ret ?_
 repeat (first | refine xBlock_ret ?_ | refine xThen_ret ?_)
 refine retQ.retF _ rfl ⟨rfl, rfl⟩ ?_
 exact (fun _ _ h => h)
theorem Z48_walk {a0 : Bs} {a1 : Int} {r : Int} (hE : Z48 a0 a1 = some r) (H : Heap) : ACalls Tryz.prog 67 [.d (.str a0), .d (.int .i64 a1)] H fun v h' => v = .a (.d (.int .i64 r)) ∧ h' = H := by
 unfold Z48 at hE
 refine ACalls.of_wp (fn := Tryz.f67) (c := _) Tryz.tab_ok (fun _ _ => Tryz.call67 _ _) Tryz.func67 rfl (n := 18) rfl (rs := [.tmp 4]) rfl rfl ?_
 refine seqK fun K1 hK1 => ?_
 refine region ?_
 refine s0 assignA rfl ?_
 refine nil ?_
 refine hK1 _ ?_
 clear hK1 K1
 refine seqK fun K2 hK2 => ?_
 refine region ?_
 refine sE (StepE.allocO (TK rfl) rfl) rfl (fun _ _ _ ⟨id5, hid5, e1, e2, e3⟩ => ?_); subst e1 e2 e3
 refine sHn (storeP1 (TK rfl) rfl rfl (Heap.set_same ..) rfl SetAt.zero) rfl rfl ?_
 refine AOps.heq (h' := H.set id5 (some (.cells [.bool false]))) (by rw [Heap.set_set]) ?_
 refine nil ?_
 refine hK2 _ ?_
 clear hK2 K2
 refine seqK fun K3 hK3 => ?_
 refine region ?_
 refine s0 moveA rfl ?_
 refine s0 moveA rfl ?_
 obtain ⟨x9, gx9, hE⟩ := bindO_some hE
 refine s0 (addM rfl rfl gx9) rfl ?_
 refine s0 (makeFunc rfl) rfl ?_
 obtain ⟨x11, gx11, hE⟩ := bindO_some hE
 refine sH (callH rfl rfl (token_litSpan_walk gx11 _ (Heap.set_same ..))) rfl ?_
 refine AOps.heq (h' := H.set id5 (some (.cells [.bool x11.2]))) (by rw [Heap.set_set]) ?_
 refine s0 assignA rfl ?_
 refine nil ?_
 refine hK3 _ ?_
 clear hK3 K3
 refine seqK fun K4 hK4 => ?_
 refine seqK fun K5 hK5 => ?_
 refine region ?_
 refine s0 moveA rfl ?_
 refine s0 moveA rfl ?_
 refine sLenS (TK rfl) rfl rfl rfl rfl fun hL9 => ?_
 refine s0 (binI rfl rfl rfl) rfl ?_
 refine nil ?_
 refine hK5 _ ?_
 clear hK5 K5
 refine condE hE rfl (fun hc6 hE => ?_) (fun hc6 hE => ?_)
 ·obtain rfl := Option.some.inj hE
  refine seqK fun K6 hK6 => ?_
  refine region ?_
  refine s0 assignA rfl ?_
  refine nil ?_
  refine hK6 _ ?_
  clear hK6 K6
  refine AWp.ret ?_
  repeat (first | refine xBlock_ret ?_ | refine xThen_ret ?_)
  refine retQ.retF H rfl ⟨rfl, rfl⟩ ?_
  exact Heap.sub_set hid5
 refine AWp.skip ?_
 refine hK4 _ ?_
 clear hK4 K4
 refine seqK fun K6 hK6 => ?_
 refine region ?_
 refine s0 moveA rfl ?_
 obtain ⟨x17, gx17, hE⟩ := bindO_some hE
 obtain rfl := Option.some.inj hE
 refine s0 (addM rfl rfl gx17) rfl ?_
 refine s0 assignA rfl ?_
 refine nil ?_
 refine hK6 _ ?_
 clear hK6 K6
 refine AWp.ret ?_
 repeat (first | refine xBlock_ret ?_ | refine xThen_ret ?_)
 refine retQ.retF H rfl ⟨rfl, rfl⟩ ?_
 exact Heap.sub_set hid5
def Tryz.lay59_ren : Go.Shelf.Ren := ⟨fun | 240 => 59 | 276 => 77 | n => n, fun | 0 => 0 | 4 => 4 | 9 => 9 | 20 => 20 | 70 => 54 | 72 => 57 | 164 => 83 | 37 => 55 | n => n, fun | n => n⟩
theorem Tryz.lay59 : Go.Proofs.Lays.n240 Tryz.prog Tryz.lay59_ren := {
 mixed := by kernel_rfl
 f240 := Tryz.func59.trans (congrArg some (by kernel_rfl))
 f276 := Tryz.func77.trans (congrArg some (by kernel_rfl))
 t0 := Tryz.underlying0
 a0 := Tryz.isAgg0
 z0 := Tryz.sizeOf0
 v0 := Tryz.zeroValue0
 t4 := Tryz.underlying4
 a4 := Tryz.isAgg4
 z4 := Tryz.sizeOf4
 v4 := Tryz.zeroValue4
 t9 := Tryz.underlying9
 a9 := Tryz.isAgg9
 z9 := Tryz.sizeOf9
 v9 := Tryz.zeroValue9
 t20 := Tryz.underlying20
 a20 := Tryz.isAgg20
 z20 := Tryz.sizeOf20
 v20 := Tryz.zeroValue20
 t70 := Tryz.underlying54
 a70 := Tryz.isAgg54
 z70 := Tryz.sizeOf54
 v70 := Tryz.zeroValue54
 t72 := Tryz.underlying57
 a72 := Tryz.isAgg57
 z72 := Tryz.sizeOf57
 v72 := Tryz.zeroValue57
 t164 := Tryz.underlying83
 a164 := Tryz.isAgg83
 z164 := Tryz.sizeOf83
 v164 := Tryz.zeroValue83 }
def Z35 (a0 : Strings_Builder) : Option Strings_Builder := some ⟨true, a0.Fbuf⟩
theorem Z35_walk {a0 : Strings_Builder} {c0 : Nat} {c0_1 : Nat} {r : Strings_Builder} (hE : Z35 a0 = some r) (H : Heap) (hc0 : H c0 = some (.tcells 57 (Strings_Builder.cg c0 (some c0_1) a0))) (ht0_1 : H c0_1 = some (.tok 1 a0.Fbuf.l.length (some 5))) : ACalls Tryz.prog 59 [.d (.ptr c0 0)] H fun v h' => v = .tup [] ∧ h' = ((H.set c0_1 (some (.tok 1 r.Fbuf.l.length (some 5)))).set c0 (some (.tcells 57 (Strings_Builder.cg c0 (some c0_1) r)))) := by
 obtain rfl := Option.some.inj hE
 refine (bld_check (T := 57) Tryz.lay59 ⟨by kernel_rfl, by kernel_rfl⟩ rfl rfl hc0).mono fun v h' e => ⟨e.1, ?_⟩
 rw [e.2]
 show _ = Heap.set (Heap.set H c0_1 _) _ _
 rw [Heap.set_self H c0_1 _ ht0_1]
def Z34 (a0 : Strings_Builder) (a1 : Int) : Option (Bool × Strings_Builder) := (Z35 a0).bind fun x3 => (appC 1 x3.Fbuf (⟨false, [a1]⟩ : Sl Int)).bind fun x5 => some (false, (Strings_Builder.mk x3.Faddr x5))
theorem Z34_walk {a0 : Strings_Builder} {a1 : Int}  {c0 : Nat} {c0_1 : Nat} {r : (Bool × Strings_Builder)} (hE : Z34 a0 a1 = some r) (H : Heap) (hc0 : H c0 = some (.tcells 57 (Strings_Builder.cg c0 (some c0_1) a0))) (ht0_1 : H c0_1 = some (.tok 1 a0.Fbuf.l.length (some 5))) : ACalls Tryz.prog 48 [.d (.ptr c0 0), .d (.int .u8 a1)] H fun v h' => v = .a (.d (errE 105 r.1)) ∧ h' = ((H.set c0_1 (some (.tok 1 r.2.Fbuf.l.length (some 5)))).set c0 (some (.tcells 57 (Strings_Builder.cg c0 (some c0_1) r.2)))) := by
 unfold Z34 at hE
 refine ACalls.of_wp (fn := Tryz.f48) (c := _) Tryz.tab_ok (fun _ _ => Tryz.call48 _ _) Tryz.func48 rfl (n := 17) rfl (rs := [.tmp 4]) rfl rfl ?_
 have ne_c0_c0_1 : c0 ≠ c0_1 := fun e_ => by subst e_; simp_all
 refine AWp.heqA (h' := ((H.set c0_1 (some (.tok 1 a0.Fbuf.l.length (some 5)))).set c0 (some (.tcells 57 (Strings_Builder.cg c0 (some c0_1) a0))))) (by funext n_; simp only [Heap.set]; (repeat' split) <;> simp_all) ?_
 refine seqK fun K1 hK1 => ?_
 refine region ?_
 refine s0 assignA rfl ?_
 refine nil ?_
 refine hK1 _ ?_
 clear hK1 K1
 refine seqK fun K2 hK2 => ?_
 refine region ?_
 refine s0 moveA rfl ?_
 obtain ⟨x3, gx3, hE⟩ := bindO_some hE
 refine sH (callH rfl rfl (Z35_walk gx3 _ hpG hpG)) rfl ?_
 refine AOps.heq (h' := ((H.set c0_1 (some (.tok 1 x3.Fbuf.l.length (some 5)))).set c0 (some (.tcells 57 (Strings_Builder.cg c0 (some c0_1) x3))))) (by first | rfl | (rw [Heap.set_set]; rfl) | (funext n_; simp only [Heap.set]; (repeat' split) <;> first | rfl | (exfalso; simp_all; done) | (simp_all; done))) ?_
 refine nil ?_
 refine hK2 _ ?_
 clear hK2 K2
 refine seqK fun K4 hK4 => ?_
 refine region ?_
 refine s0 moveA rfl ?_
 refine s0 moveA rfl ?_
 refine s0 (nilP rfl) rfl ?_
 refine s0 (fieldP (TK rfl) rfl rfl (TK rfl) rfl rfl) rfl ?_
 refine s0 (loadPT (TK rfl) rfl rfl hpG rfl) rfl ?_
 refine s0 moveA rfl ?_
 refine s0 (buildSlice (TK rfl) rfl (TK rfl) rfl rfl rfl rfl rfl rfl) rfl ?_
 obtain ⟨x5, gx5, hE⟩ := bindO_some hE
 refine sH (appMT (TK rfl) rfl (TK rfl) (TK rfl) ⟨_, rfl⟩ rfl rfl (by decide) rfl rfl rfl rfl hpG rfl rfl gx5) rfl ?_
 refine AOps.heq (h' := ((H.set c0_1 (some (.tok 1 x5.l.length (some 5)))).set c0 (some (.tcells 57 (Strings_Builder.cg c0 (some c0_1) x3))))) (by first | rfl | (rw [Heap.set_set]; rfl) | (funext n_; simp only [Heap.set]; (repeat' split) <;> first | rfl | (exfalso; simp_all; done) | (simp_all; done))) ?_
 refine s0 (nilP rfl) rfl ?_
 refine s0 (fieldP (TK rfl) rfl rfl (TK rfl) rfl rfl) rfl ?_
 refine sHn (storePT (TK rfl) rfl rfl hpG rfl (by repeat (first | exact SetAt.zero | apply SetAt.succ))) rfl rfl ?_
 refine AOps.heq (h' := ((H.set c0_1 (some (.tok 1 x5.l.length (some 5)))).set c0 (some (.tcells 57 (Strings_Builder.cg c0 (some c0_1) (Strings_Builder.mk x3.Faddr x5)))))) (by first | rfl | (rw [Heap.set_set]; rfl) | (funext n_; simp only [Heap.set]; (repeat' split) <;> first | rfl | (exfalso; simp_all; done) | (simp_all; done))) ?_
 refine nil ?_
 refine hK4 _ ?_
 clear hK4 K4
 refine seqK fun K6 hK6 => ?_
 refine region ?_
 refine s0 assignA rfl ?_
 refine nil ?_
 refine hK6 _ ?_
 clear hK6 K6
 refine AWp.ret ?_
 repeat (first | refine xBlock_ret ?_ | refine xThen_ret ?_)
 obtain rfl := Option.some.inj hE
 refine retQ.retF ((H.set c0_1 (some (.tok 1 x5.l.length (some 5)))).set c0 (some (.tcells 57 (Strings_Builder.cg c0 (some c0_1) (Strings_Builder.mk x3.Faddr x5))))) rfl ⟨rfl, rfl⟩ ?_
 exact (fun _ _ h => h)
def Tryz.lay49_ren : Go.Shelf.Ren := ⟨fun | 169 => 49 | n => n, fun | 70 => 54 | 9 => 9 | 0 => 0 | 72 => 57 | 37 => 55 | 127 => 72 | 3 => 3 | 5 => 5 | n => n, fun | n => n⟩
theorem Tryz.lay49 : Go.Proofs.Lays.n169 Tryz.prog Tryz.lay49_ren := {
 mixed := by kernel_rfl
 f169 := Tryz.func49.trans (congrArg some (by kernel_rfl))
 t0 := Tryz.underlying0
 a0 := Tryz.isAgg0
 z0 := Tryz.sizeOf0
 v0 := Tryz.zeroValue0
 t3 := Tryz.underlying3
 a3 := Tryz.isAgg3
 z3 := Tryz.sizeOf3
 v3 := Tryz.zeroValue3
 t9 := Tryz.underlying9
 a9 := Tryz.isAgg9
 z9 := Tryz.sizeOf9
 v9 := Tryz.zeroValue9
 t37 := Tryz.underlying55
 a37 := Tryz.isAgg55
 z37 := Tryz.sizeOf55
 v37 := Tryz.zeroValue55
 t70 := Tryz.underlying54
 a70 := Tryz.isAgg54
 z70 := Tryz.sizeOf54
 v70 := Tryz.zeroValue54
 t72 := Tryz.underlying57
 a72 := Tryz.isAgg57
 z72 := Tryz.sizeOf57
 v72 := Tryz.zeroValue57
 t127 := Tryz.underlying72
 a127 := Tryz.isAgg72
 z127 := Tryz.sizeOf72
 v127 := Tryz.zeroValue72 }
theorem Tryz.extra49 : Builder.Extra Tryz.prog Tryz.lay49_ren where
 sizeBuilder := by kernel_rfl
 liesBuilder := by kernel_rfl
 t5 := Tryz.underlying5
 a5 := Tryz.isAgg5
 z5 := Tryz.sizeOf5
 v5 := Tryz.zeroValue5
 infoByte := by kernel_rfl
 cellsByte := by kernel_rfl
 sizeByte := by kernel_rfl
 neB5 := by decide
def Z33 (a0 : Strings_Builder) : Option Bs := bldStr a0
theorem Z33_walk {a0 : Strings_Builder} {c0 t0 : Nat} {r : Bs} (hE : Z33 a0 = some r) (H : Heap) (hc0 : H c0 = some (.tcells 57 (Strings_Builder.cg c0 (some t0) a0))) (ht0 : H t0 = some (.tok 1 a0.Fbuf.l.length (some 5))) : ACalls Tryz.prog 49 [.d (.ptr c0 0)] H fun v h' => v = .a (.d (.str r)) ∧ h' = (H.set t0 none).set c0 none := bld_string Tryz.lay49 Tryz.extra49 rfl rfl rfl hE hc0 ht0
def Z45_j2   : Option (Int × Bool) := some ((0 : Int), false)
def Z45_j5 (a0 : Int)  (s5_6 : Bool) : Option (Int × Bool) := bif s5_6 then (some (a0, true)) else (bif (decide (a0 = (98 : Int))) then (some ((8 : Int), true)) else (bif (decide (a0 = (102 : Int))) then (some ((12 : Int), true)) else (bif (decide (a0 = (110 : Int))) then (some ((10 : Int), true)) else (bif (decide (a0 = (114 : Int))) then (some ((13 : Int), true)) else (bif (decide (a0 = (116 : Int))) then (some ((9 : Int), true)) else (Z45_j2   ))))))
def Z45 (a0 : Int) : Option (Int × Bool) := bif (decide (a0 = (34 : Int))) then (Z45_j5 a0  (decide (a0 = (34 : Int)))) else (bif (decide (a0 = (92 : Int))) then (Z45_j5 a0  (decide (a0 = (92 : Int)))) else (Z45_j5 a0  (decide (a0 = (47 : Int)))))
theorem Z45_walk {a0 : Int}   {r : (Int × Bool)} (hE : Z45 a0 = some r) (H : Heap)  : ACalls Tryz.prog 86 [.d (.int .u8 a0)] H fun v h' => v = .tup [.d (.int .u8 r.1), .d (.bool r.2)] ∧ h' = H := by
 unfold Z45 at hE
 refine ACalls.of_wp (fn := Tryz.f86) (c := _) Tryz.tab_ok (fun _ _ => Tryz.call86 _ _) Tryz.func86 rfl (n := 20) rfl (rs := [.tmp 2, .tmp 3]) rfl rfl ?_
 refine seqK fun K1 hK1 => ?_
 refine region ?_
 refine s0 assignA rfl ?_
 refine s0 assignA rfl ?_
 refine nil ?_
 refine hK1 _ ?_
 clear hK1 K1
 refine seqJH KeepsT.nil (fun (z : Unit) => []) (fun z => H) (fun z => Z45_j2  = some r) ?_ ?_
 ·intro K2 hK2
  refine seqK fun K4 hK4 => ?_
  refine region ?_
  refine s0 moveA rfl ?_
  refine nil ?_
  refine hK4 _ ?_
  clear hK4 K4
  refine block ?_
  refine seqJH (KeepsT.A (k := 0) (KeepsT.A (k := 4) KeepsT.nil)) (fun (z : Bool) => [(5, .a (.d (.bool z)))]) (fun z => H) (fun z => Z45_j5 a0 z = some r) ?_ ?_
  ·intro K5 hK5
   refine seqK fun K24 hK24 => ?_
   refine region ?_
   refine s0 (binI rfl rfl rfl) rfl ?_
   refine s0 assignA rfl ?_
   refine nil ?_
   refine hK24 _ ?_
   clear hK24 K24
   refine condE hE rfl (fun hc25 hE => ?_) (fun hc25 hE => ?_)
   ·refine AWp.skip ?_
    exact hK5 _ (decide (a0 = (34 : Int))) Weak.toA hE
   refine seqK fun K26 hK26 => ?_
   refine region ?_
   refine s0 (binI rfl rfl rfl) rfl ?_
   refine s0 assignA rfl ?_
   refine nil ?_
   refine hK26 _ ?_
   clear hK26 K26
   refine condE hE rfl (fun hc27 hE => ?_) (fun hc27 hE => ?_)
   ·refine AWp.skip ?_
    exact hK5 _ (decide (a0 = (92 : Int))) Weak.toA hE
   refine region ?_
   refine s0 (binI rfl rfl rfl) rfl ?_
   refine s0 assignA rfl ?_
   refine nil ?_
   exact hK5 _ (decide (a0 = (47 : Int))) Weak.toA hE
  rintro s5_6 hE
  try dsimp only at hE
  unfold Z45_j5 at hE
  refine condE hE rfl (fun hc7 hE => ?_) (fun hc7 hE => ?_)
  ·refine seqK fun K8 hK8 => ?_
   refine region ?_
   refine s0 moveA rfl ?_
   refine s0 assignA rfl ?_
   refine s0 assignA rfl ?_
   refine nil ?_
   refine hK8 _ ?_
   clear hK8 K8
   refine AWp.ret ?_
   repeat (first | refine xBlock_ret ?_ | refine xThen_ret ?_)
   obtain rfl := Option.some.inj hE
   refine retQ.retF H rfl ⟨rfl, rfl⟩ ?_
   exact (fun _ _ h => h)
  refine seqK fun K9 hK9 => ?_
  refine region ?_
  refine s0 (binI rfl rfl rfl) rfl ?_
  refine s0 assignA rfl ?_
  refine nil ?_
  refine hK9 _ ?_
  clear hK9 K9
  refine condE hE rfl (fun hc10 hE => ?_) (fun hc10 hE => ?_)
  ·refine seqK fun K11 hK11 => ?_
   refine region ?_
   refine s0 assignA rfl ?_
   refine s0 assignA rfl ?_
   refine nil ?_
   refine hK11 _ ?_
   clear hK11 K11
   refine AWp.ret ?_
   repeat (first | refine xBlock_ret ?_ | refine xThen_ret ?_)
   obtain rfl := Option.some.inj hE
   refine retQ.retF H rfl ⟨rfl, rfl⟩ ?_
   exact (fun _ _ h => h)
  refine seqK fun K12 hK12 => ?_
  refine region ?_
  refine s0 (binI rfl rfl rfl) rfl ?_
  refine s0 assignA rfl ?_
  refine nil ?_
  refine hK12 _ ?_
  clear hK12 K12
  refine condE hE rfl (fun hc13 hE => ?_) (fun hc13 hE => ?_)
  ·refine seqK fun K14 hK14 => ?_
   refine region ?_
   refine s0 assignA rfl ?_
   refine s0 assignA rfl ?_
   refine nil ?_
   refine hK14 _ ?_
   clear hK14 K14
   refine AWp.ret ?_
   repeat (first | refine xBlock_ret ?_ | refine xThen_ret ?_)
   obtain rfl := Option.some.inj hE
   refine retQ.retF H rfl ⟨rfl, rfl⟩ ?_
   exact (fun _ _ h => h)
  refine seqK fun K15 hK15 => ?_
  refine region ?_
  refine s0 (binI rfl rfl rfl) rfl ?_
  refine s0 assignA rfl ?_
  refine nil ?_
  refine hK15 _ ?_
  clear hK15 K15
  refine condE hE rfl (fun hc16 hE => ?_) (fun hc16 hE => ?_)
  ·refine seqK fun K17 hK17 => ?_
   refine region ?_
   refine s0 assignA rfl ?_
   refine s0 assignA rfl ?_
   refine nil ?_
   refine hK17 _ ?_
   clear hK17 K17
   refine AWp.ret ?_
   repeat (first | refine xBlock_ret ?_ | refine xThen_ret ?_)
   obtain rfl := Option.some.inj hE
   refine retQ.retF H rfl ⟨rfl, rfl⟩ ?_
   exact (fun _ _ h => h)
  refine seqK fun K18 hK18 => ?_
  refine region ?_
  refine s0 (binI rfl rfl rfl) rfl ?_
  refine s0 assignA rfl ?_
  refine nil ?_
  refine hK18 _ ?_
  clear hK18 K18
  refine condE hE rfl (fun hc19 hE => ?_) (fun hc19 hE => ?_)
  ·refine seqK fun K20 hK20 => ?_
   refine region ?_
   refine s0 assignA rfl ?_
   refine s0 assignA rfl ?_
   refine nil ?_
   refine hK20 _ ?_
   clear hK20 K20
   refine AWp.ret ?_
   repeat (first | refine xBlock_ret ?_ | refine xThen_ret ?_)
   obtain rfl := Option.some.inj hE
   refine retQ.retF H rfl ⟨rfl, rfl⟩ ?_
   exact (fun _ _ h => h)
  refine seqK fun K21 hK21 => ?_
  refine region ?_
  refine s0 (binI rfl rfl rfl) rfl ?_
  refine s0 assignA rfl ?_
  refine nil ?_
  refine hK21 _ ?_
  clear hK21 K21
  refine condE hE rfl (fun hc22 hE => ?_) (fun hc22 hE => ?_)
  ·refine seqK fun K23 hK23 => ?_
   refine region ?_
   refine s0 assignA rfl ?_
   refine s0 assignA rfl ?_
   refine nil ?_
   refine hK23 _ ?_
   clear hK23 K23
   refine AWp.ret ?_
   repeat (first | refine xBlock_ret ?_ | refine xThen_ret ?_)
   obtain rfl := Option.some.inj hE
   refine retQ.retF H rfl ⟨rfl, rfl⟩ ?_
   exact (fun _ _ h => h)
  refine AWp.skip ?_
  exact hK2 _ () Weak.toA hE
 rintro _ hE
 try dsimp only at hE
 unfold Z45_j2 at hE
 refine seqK fun K3 hK3 => ?_
 refine region ?_
 refine s0 assignA rfl ?_
 refine s0 assignA rfl ?_
 refine nil ?_
 refine hK3 _ ?_
 clear hK3 K3
 refine AWp.ret ?_
 repeat (first | refine xBlock_ret ?_ | refine xThen_ret ?_)
 obtain rfl := Option.some.inj hE
 refine retQ.retF H rfl ⟨rfl, rfl⟩ ?_
 exact (fun _ _ h => h)
def Tryz.lay87_ren : Go.Shelf.Ren := ⟨fun | 137 => 87 | 217 => 96 | 266 => 103 | n => n, fun | 9 => 9 | 5 => 5 | 3 => 3 | n => n, fun | n => n⟩
theorem Tryz.lay87 : Go.Proofs.Lays.n137 Tryz.prog Tryz.lay87_ren := {
 mixed := by kernel_rfl
 f137 := Tryz.func87.trans (congrArg some (by kernel_rfl))
 f217 := Tryz.func96.trans (congrArg some (by kernel_rfl))
 f266 := Tryz.func103.trans (congrArg some (by kernel_rfl))
 t3 := Tryz.underlying3
 a3 := Tryz.isAgg3
 z3 := Tryz.sizeOf3
 v3 := Tryz.zeroValue3
 t5 := Tryz.underlying5
 a5 := Tryz.isAgg5
 z5 := Tryz.sizeOf5
 v5 := Tryz.zeroValue5
 t9 := Tryz.underlying9
 a9 := Tryz.isAgg9
 z9 := Tryz.sizeOf9
 v9 := Tryz.zeroValue9 }
def Z39 (s : Bs) (c : Int) : Option Int := some (Lib.indexByte s c.toNat.toUInt8)
theorem Z39_walk {a0 : Bs} {a1 : Int} {r : Int} (hE : Z39 a0 a1 = some r) (H : Heap) : ACalls Tryz.prog 87 [.d (.str a0), .d (.int .u8 a1)] H fun v h' => v = .a (.d (.int .i64 r)) ∧ h' = H := by
 obtain rfl := Option.some.inj hE
 exact idxByte_calls Tryz.lay87 rfl
end Go.Proofs

namespace Go.Proofs
open Go Go.Ab
open AOps Cert AWp
variable {lou : Lou}
def Z44_j17  (y18_id4_15 : Strings_Builder) : Option (Bs × Int) := (Z33 y18_id4_15).bind fun x20 => some (x20, (0 : Int))
def Z44_j29 (k_next_22 : Int → Strings_Builder → Option (Bs × Int)) (s5_30 : Int) (y31_id4_15 : Strings_Builder) : Option (Bs × Int) := (addC s5_30 (1 : Int)).bind fun x32 => k_next_22 x32 y31_id4_15
def Z44_j66 (y24_id4_15 : Strings_Builder) (x45 : Int) (k_next_22 : Int → Strings_Builder → Option (Bs × Int)) (s9_67 : Int) : Option (Bs × Int) := bif (decide ((255 : Int) < s9_67)) then (some (([] : Bs), (3 : Int))) else ((Z34 y24_id4_15 (IntKind.wrap .u8 s9_67)).bind fun x73 => (addC x45 (4 : Int)).bind fun x74 => Z44_j29  k_next_22 x74 x73.2)
def Z44_l81 (y24_id4_15 : Strings_Builder) (x45 : Int) (x79 : Sl Int) (k_next_22 : Int → Strings_Builder → Option (Bs × Int)) : Nat → Int → Nat → Option (Bs × Int)
 | 0, _, _ => none
 | n81 + 1, s9_82, s92_83 => bif (decide (((s92_83 : Nat) : Int) < ((x79.l.length : Nat) : Int))) then ((x79.l[s92_83]?).bind fun x89 => (Z39 ([48, 49, 50, 51, 52, 53, 54, 55, 56, 57, 97, 98, 99, 100, 101, 102] : Bs) (IntKind.wrap .u8 ((BitVec.ofInt (IntKind.bits .u8) x89 ||| BitVec.ofInt (IntKind.bits .u8) (32 : Int)).toNat : Int))).bind fun x91 => bif (((decide (x91 < (0 : Int))) || (decide (x89 < (48 : Int)))) || ((decide ((57 : Int) < x89)) && (decide (x89 < (65 : Int))))) then (some (([] : Bs), (3 : Int))) else ((mulC s9_82 (16 : Int)).bind fun x96 => (addC x96 x91).bind fun x97 => (Z44_l81 y24_id4_15 x45 x79 k_next_22 n81) x97 (s92_83 + 1))) else (Z44_j66 y24_id4_15 x45 k_next_22 s9_82)
def Z44_l22 (x13 : Bs)  : Nat → Int → Strings_Builder → Option (Bs × Int)
 | 0, _, _ => none
 | n22 + 1, s5_23, y24_id4_15 => bif (decide (s5_23 < ((x13.length : Nat) : Int))) then ((idxC x13 s5_23).bind fun x34 => bif (((decide (((x34.toNat : Nat) : Int) < (32 : Int))) || (decide ((126 : Int) < ((x34.toNat : Nat) : Int)))) || (decide (((x34.toNat : Nat) : Int) = (34 : Int)))) then (some (([] : Bs), (3 : Int))) else (bif (!decide (((x34.toNat : Nat) : Int) = (92 : Int))) then ((Z34 y24_id4_15 ((x34.toNat : Nat) : Int)).bind fun x43 => Z44_j29  ((Z44_l22 x13 n22)) s5_23 x43.2) else ((addC s5_23 (1 : Int)).bind fun x45 => bif (decide (x45 = ((x13.length : Nat) : Int))) then (some (([] : Bs), (3 : Int))) else ((idxC x13 x45).bind fun x53 => (Z45 ((x53.toNat : Nat) : Int)).bind fun x54 => bif x54.2 then ((Z34 y24_id4_15 x54.1).bind fun x58 => Z44_j29  ((Z44_l22 x13 n22)) x45 x58.2) else ((idxC x13 x45).bind fun x61 => guardO (!(!decide (((x61.toNat : Nat) : Int) = (117 : Int)))) (addC x45 (4 : Int)) (0 : Int) fun x62 => bif ((!decide (((x61.toNat : Nat) : Int) = (117 : Int))) || (decide (((x13.length : Nat) : Int) ≤ x62))) then (some (([] : Bs), (3 : Int))) else ((addC x45 (1 : Int)).bind fun x76 => (addC x45 (5 : Int)).bind fun x77 => (cutC x13 (some x76) (some x77)).bind fun x78 => (bytesOf x78).bind fun x79 => Z44_l81 y24_id4_15 x45 x79 ((Z44_l22 x13 n22)) (x79.l.length + 1) (0 : Int) 0)))))) else (Z44_j17   y24_id4_15)
def Z44 (a0 : Bs) : Option (Bs × Int) := guardO (!(decide (((a0.length : Nat) : Int) < (2 : Int)))) (a0[0]?) (0 : UInt8) fun x5 => guardO (!((decide (((a0.length : Nat) : Int) < (2 : Int))) || (!decide (((x5.toNat : Nat) : Int) = (34 : Int))))) (subC ((a0.length : Nat) : Int) (1 : Int)) (0 : Int) fun x6 => guardO (!((decide (((a0.length : Nat) : Int) < (2 : Int))) || (!decide (((x5.toNat : Nat) : Int) = (34 : Int))))) (idxC a0 x6) (0 : UInt8) fun x7 => bif (((decide (((a0.length : Nat) : Int) < (2 : Int))) || (!decide (((x5.toNat : Nat) : Int) = (34 : Int)))) || (!decide (((x7.toNat : Nat) : Int) = (34 : Int)))) then (some (([] : Bs), (3 : Int))) else ((subC ((a0.length : Nat) : Int) (1 : Int)).bind fun x12 => (cutC a0 (some (1 : Int)) (some x12)).bind fun x13 => Z44_l22 x13 F0 (0 : Int) Strings_Builder.zero)
theorem Z44_walk {a0 : Bs}   {r : (Bs × Int)} (hE : Z44 a0 = some r) (H : Heap)  : ACalls Tryz.prog 68 [.d (.str a0)] H fun v h' => v = .tup [.d (.str r.1), .d (.int .i64 r.2)] ∧ h' = H := by
 unfold Z44 at hE
 refine ACalls.of_wp (fn := Tryz.f68) (c := _) Tryz.tab_ok (fun _ _ => Tryz.call68 _ _) Tryz.func68 rfl (n := 126) rfl (rs := [.tmp 2, .tmp 3]) rfl rfl ?_
 refine seqK fun K1 hK1 => ?_
 refine region ?_
 refine s0 assignA rfl ?_
 refine s0 assignA rfl ?_
 refine nil ?_
 refine hK1 _ ?_
 clear hK1 K1
 refine seqK fun K2 hK2 => ?_
 refine seqK fun K3 hK3 => ?_
 refine region ?_
 refine s0 moveA rfl ?_
 refine sLenS (TK rfl) rfl rfl rfl rfl fun hL4 => ?_
 refine s0 (binI rfl rfl rfl) rfl ?_
 refine s0 moveA rfl ?_
 refine gC rfl rfl (fun hC => moveA) rfl ?_
 obtain ⟨x5, gx5, hE⟩ := guardO_some hE
 refine gC rfl rfl (fun hC => ungdA (k := 17) rfl (idxSn (n := 0) (TK rfl) rfl rfl rfl (gx5 hC))) rfl ?_
 refine gC rfl rfl (fun hC => ungdA (k := 18) rfl (binI rfl rfl rfl)) rfl ?_
 refine s0 (pickOrA rfl rfl rfl) rfl ?_
 refine s0 moveA rfl ?_
 refine gC rfl rfl (fun hC => moveA) rfl ?_
 refine gC rfl rfl (fun hC => moveA) rfl ?_
 refine gC rfl rfl (fun hC => ungdA (k := 23) rfl (lenS (TK rfl) rfl rfl rfl)) rfl ?_
 obtain ⟨x6, gx6, hE⟩ := guardO_some hE
 refine gC rfl rfl (fun hC => ungdA (k := 24) rfl (subM rfl rfl (gx6 hC))) rfl ?_
 obtain ⟨x7, gx7, hE⟩ := guardO_some hE
 refine gC rfl rfl (fun hC => ungdA (k := 22) rfl (ungdA (k := 25) rfl (idxS (TK rfl) rfl rfl rfl (gx7 hC)))) rfl ?_
 refine gC rfl rfl (fun hC => ungdA (k := 26) rfl (binI rfl rfl rfl)) rfl ?_
 refine s0 (pickOrA rfl rfl rfl) rfl ?_
 refine nil ?_
 refine hK3 _ ?_
 clear hK3 K3
 refine condE hE rfl (fun hc8 hE => ?_) (fun hc8 hE => ?_)
 ·refine seqK fun K9 hK9 => ?_
  refine region ?_
  refine s0 assignA rfl ?_
  refine s0 assignA rfl ?_
  refine nil ?_
  refine hK9 _ ?_
  clear hK9 K9
  refine AWp.ret ?_
  repeat (first | refine xBlock_ret ?_ | refine xThen_ret ?_)
  obtain rfl := Option.some.inj hE
  refine retQ.retF H rfl ⟨rfl, rfl⟩ ?_
  exact (fun _ _ h => h)
 refine AWp.skip ?_
 refine hK2 _ ?_
 clear hK2 K2
 refine seqK fun K10 hK10 => ?_
 refine region ?_
 refine s0 moveA rfl ?_
 refine s0 moveA rfl ?_
 refine sLenS (TK rfl) rfl rfl rfl rfl fun hL11 => ?_
 obtain ⟨x12, gx12, hE⟩ := bindO_some hE
 refine s0 (subM rfl rfl gx12) rfl ?_
 obtain ⟨x13, gx13, hE⟩ := bindO_some hE
 refine s0 (cutM (l := (some (1 : Int))) (r := (some x12)) (TK rfl) rfl rfl rfl rfl (by simp) gx13) rfl ?_
 refine s0 assignA rfl ?_
 refine nil ?_
 refine hK10 _ ?_
 clear hK10 K10
 refine seqK fun K14 hK14 => ?_
 refine region ?_
 refine AOps.tokE 1 5 fun tk4_16 htk4_16 => ?_
 refine sE (StepE.allocT (TK rfl) rfl) rfl (fun _ _ _ ⟨id4_15, hid4_15, e1, e2, e3⟩ => ?_); subst e1 e2 e3
 obtain ⟨ne_id4_15_tk4_16, hid4_15⟩ := Heap.set_fresh hid4_15
 refine AOps.recellT id4_15 _ hpG (fun j w cs hh hx => tok_cell 1 1 1 hh (t := tk4_16) hpG hx rfl) ?_
 refine AOps.heq (h' := ((H.set tk4_16 (some (.tok 1 0 (some 5)))).set id4_15 (some (.tcells 57 (Strings_Builder.cg id4_15 (some tk4_16) Strings_Builder.zero))))) (by first | rfl | (rw [Heap.set_set]; rfl) | (funext n_; simp only [Heap.set]; (repeat' split) <;> first | rfl | (exfalso; simp_all; done) | (simp_all; done))) ?_
 refine nil ?_
 refine hK14 _ ?_
 clear hK14 K14
 refine seqJH (KeepsT.A (k := 4) KeepsT.nil) (fun (z : Strings_Builder) => []) (fun z => ((H.set tk4_16 (some (.tok 1 z.Fbuf.l.length (some 5)))).set id4_15 (some (.tcells 57 (Strings_Builder.cg id4_15 (some tk4_16) z))))) (fun z => Z44_j17 z = some r) ?_ ?_
 ·intro K17 hK17
  refine seqK fun K21 hK21 => ?_
  refine region ?_
  refine s0 assignA rfl ?_
  refine nil ?_
  refine hK21 _ ?_
  clear hK21 K21
  refine block ?_
  refine loopH (KeepsT.A (k := 0) (KeepsT.A (k := 4) KeepsT.nil)) (fun (z : Nat × Int × Strings_Builder) => [(5, .a (.d (.int .i64 z.2.1)))]) (fun z => ((H.set tk4_16 (some (.tok 1 z.2.2.Fbuf.l.length (some 5)))).set id4_15 (some (.tcells 57 (Strings_Builder.cg id4_15 (some tk4_16) z.2.2))))) (fun z => z.1) (fun z => Z44_l22 x13 z.1 z.2.1 z.2.2 = some r) (F0, (0 : Int), Strings_Builder.zero) hE Weak.toA ?_
  rintro ⟨n22, s5_23, y24_id4_15⟩ hE K22 hK22
  try dsimp only at hE
  cases n22 with
  | zero => cases hE
  | succ n22 =>
    rw [Z44_l22] at hE
    refine seqK fun K25 hK25 => ?_
    refine seqK fun K26 hK26 => ?_
    refine region ?_
    refine s0 moveA rfl ?_
    refine s0 moveA rfl ?_
    refine sLenS (TK rfl) rfl rfl rfl rfl fun hL27 => ?_
    refine s0 (binI rfl rfl rfl) rfl ?_
    refine nil ?_
    refine hK26 _ ?_
    clear hK26 K26
    refine condE hE rfl (fun hc28 hE => ?_) (fun hc28 hE => ?_)
    ·refine AWp.skip ?_
     refine hK25 _ ?_
     clear hK25 K25
     refine seqJH (KeepsT.A (k := 0) (KeepsT.A (k := 4) KeepsT.nil)) (fun (z : Int × Strings_Builder) => [(5, .a (.d (.int .i64 z.1)))]) (fun z => ((H.set tk4_16 (some (.tok 1 z.2.Fbuf.l.length (some 5)))).set id4_15 (some (.tcells 57 (Strings_Builder.cg id4_15 (some tk4_16) z.2))))) (fun z => Z44_j29  ((Z44_l22 x13 n22)) z.1 z.2 = some r) ?_ ?_
     ·intro K29 hK29
      refine block ?_
      refine seqK fun K33 hK33 => ?_
      refine region ?_
      refine s0 moveA rfl ?_
      refine s0 moveA rfl ?_
      obtain ⟨x34, gx34, hE⟩ := bindO_some hE
      refine s0 (idxS (TK rfl) rfl rfl rfl gx34) rfl ?_
      refine s0 assignA rfl ?_
      refine nil ?_
      refine hK33 _ ?_
      clear hK33 K33
      refine seqK fun K35 hK35 => ?_
      refine seqK fun K36 hK36 => ?_
      refine region ?_
      refine s0 moveA rfl ?_
      refine s0 (binI rfl rfl rfl) rfl ?_
      refine s0 moveA rfl ?_
      refine gC rfl rfl (fun hC => moveA) rfl ?_
      refine gC rfl rfl (fun hC => ungdA (k := 46) rfl (binI rfl rfl rfl)) rfl ?_
      refine s0 (pickOrA rfl rfl rfl) rfl ?_
      refine s0 moveA rfl ?_
      refine gC rfl rfl (fun hC => moveA) rfl ?_
      refine gC rfl rfl (fun hC => ungdA (k := 50) rfl (binI rfl rfl rfl)) rfl ?_
      refine s0 (pickOrA rfl rfl rfl) rfl ?_
      refine nil ?_
      refine hK36 _ ?_
      clear hK36 K36
      refine condE hE rfl (fun hc37 hE => ?_) (fun hc37 hE => ?_)
      ·refine seqK fun K38 hK38 => ?_
       refine region ?_
       refine s0 assignA rfl ?_
       refine s0 assignA rfl ?_
       refine nil ?_
       refine hK38 _ ?_
       clear hK38 K38
       refine AWp.ret ?_
       repeat (first | refine xBlock_ret ?_ | refine xThen_ret ?_)
       obtain rfl := Option.some.inj hE
       refine retQ.retF H rfl ⟨rfl, rfl⟩ ?_
       intro id_ o_ he_
       have e_tk4_16 : id_ ≠ tk4_16 := fun e_ => by subst e_; simp_all [Heap.set]
       have e_id4_15 : id_ ≠ id4_15 := fun e_ => by subst e_; simp_all [Heap.set]
       rw [← he_]
       simp only [Heap.set] at he_ ⊢
       (repeat' split) <;> simp_all
      refine AWp.skip ?_
      refine hK35 _ ?_
      clear hK35 K35
      refine seqK fun K39 hK39 => ?_
      refine seqK fun K40 hK40 => ?_
      refine region ?_
      refine s0 moveA rfl ?_
      refine s0 (binI rfl rfl rfl) rfl ?_
      refine nil ?_
      refine hK40 _ ?_
      clear hK40 K40
      refine condE hE rfl (fun hc41 hE => ?_) (fun hc41 hE => ?_)
      ·refine seqK fun K42 hK42 => ?_
       refine region ?_
       refine s0 moveA rfl ?_
       obtain ⟨x43, gx43, hE⟩ := bindO_some hE
       refine sH (callH rfl rfl (Z34_walk gx43 _ hpG hpG)) rfl ?_
       refine AOps.heq (h' := ((H.set tk4_16 (some (.tok 1 x43.2.Fbuf.l.length (some 5)))).set id4_15 (some (.tcells 57 (Strings_Builder.cg id4_15 (some tk4_16) x43.2))))) (by first | rfl | (rw [Heap.set_set]; rfl) | (funext n_; simp only [Heap.set]; (repeat' split) <;> first | rfl | (exfalso; simp_all; done) | (simp_all; done))) ?_
       refine nil ?_
       refine hK42 _ ?_
       clear hK42 K42
       refine AWp.exit ?_
       exact hK29 _ (s5_23, x43.2) Weak.toA hE
      refine AWp.skip ?_
      refine hK39 _ ?_
      clear hK39 K39
      refine seqK fun K44 hK44 => ?_
      refine region ?_
      refine s0 moveA rfl ?_
      obtain ⟨x45, gx45, hE⟩ := bindO_some hE
      refine s0 (addM rfl rfl gx45) rfl ?_
      refine s0 assignA rfl ?_
      refine nil ?_
      refine hK44 _ ?_
      clear hK44 K44
      refine seqK fun K46 hK46 => ?_
      refine seqK fun K47 hK47 => ?_
      refine region ?_
      refine s0 moveA rfl ?_
      refine s0 moveA rfl ?_
      refine sLenS (TK rfl) rfl rfl rfl rfl fun hL48 => ?_
      refine s0 (binI rfl rfl rfl) rfl ?_
      refine nil ?_
      refine hK47 _ ?_
      clear hK47 K47
      refine condE hE rfl (fun hc49 hE => ?_) (fun hc49 hE => ?_)
      ·refine seqK fun K50 hK50 => ?_
       refine region ?_
       refine s0 assignA rfl ?_
       refine s0 assignA rfl ?_
       refine nil ?_
       refine hK50 _ ?_
       clear hK50 K50
       refine AWp.ret ?_
       repeat (first | refine xBlock_ret ?_ | refine xThen_ret ?_)
       obtain rfl := Option.some.inj hE
       refine retQ.retF H rfl ⟨rfl, rfl⟩ ?_
       intro id_ o_ he_
       have e_tk4_16 : id_ ≠ tk4_16 := fun e_ => by subst e_; simp_all [Heap.set]
       have e_id4_15 : id_ ≠ id4_15 := fun e_ => by subst e_; simp_all [Heap.set]
       rw [← he_]
       simp only [Heap.set] at he_ ⊢
       (repeat' split) <;> simp_all
      refine AWp.skip ?_
      refine hK46 _ ?_
      clear hK46 K46
      refine seqK fun K51 hK51 => ?_
      refine seqK fun K52 hK52 => ?_
      refine region ?_
      refine s0 moveA rfl ?_
      refine s0 moveA rfl ?_
      obtain ⟨x53, gx53, hE⟩ := bindO_some hE
      refine s0 (idxS (TK rfl) rfl rfl rfl gx53) rfl ?_
      obtain ⟨x54, gx54, hE⟩ := bindO_some hE
      refine s0 (callP rfl rfl (fun H => Z45_walk gx54 H)) rfl ?_
      refine s0 moveA rfl ?_
      refine s0 (extract rfl rfl) rfl ?_
      refine s0 (extract rfl rfl) rfl ?_
      refine s0 assignA rfl ?_
      refine s0 assignA rfl ?_
      refine nil ?_
      refine hK52 _ ?_
      clear hK52 K52
      refine seqK fun K55 hK55 => ?_
      refine region ?_
      refine s0 moveA rfl ?_
      refine nil ?_
      refine hK55 _ ?_
      clear hK55 K55
      refine condE hE rfl (fun hc56 hE => ?_) (fun hc56 hE => ?_)
      ·refine seqK fun K57 hK57 => ?_
       refine region ?_
       refine s0 moveA rfl ?_
       obtain ⟨x58, gx58, hE⟩ := bindO_some hE
       refine sH (callH rfl rfl (Z34_walk gx58 _ hpG hpG)) rfl ?_
       refine AOps.heq (h' := ((H.set tk4_16 (some (.tok 1 x58.2.Fbuf.l.length (some 5)))).set id4_15 (some (.tcells 57 (Strings_Builder.cg id4_15 (some tk4_16) x58.2))))) (by first | rfl | (rw [Heap.set_set]; rfl) | (funext n_; simp only [Heap.set]; (repeat' split) <;> first | rfl | (exfalso; simp_all; done) | (simp_all; done))) ?_
       refine nil ?_
       refine hK57 _ ?_
       clear hK57 K57
       refine AWp.exit ?_
       exact hK29 _ (x45, x58.2) Weak.toA hE
      refine AWp.skip ?_
      refine hK51 _ ?_
      clear hK51 K51
      refine seqK fun K59 hK59 => ?_
      refine seqK fun K60 hK60 => ?_
      refine region ?_
      refine s0 moveA rfl ?_
      refine s0 moveA rfl ?_
      obtain ⟨x61, gx61, hE⟩ := bindO_some hE
      refine s0 (idxS (TK rfl) rfl rfl rfl gx61) rfl ?_
      refine s0 (binI rfl rfl rfl) rfl ?_
      refine s0 moveA rfl ?_
      refine gC rfl rfl (fun hC => moveA) rfl ?_
      obtain ⟨x62, gx62, hE⟩ := guardO_some hE
      refine gC rfl rfl (fun hC => ungdA (k := 78) rfl (addM rfl rfl (gx62 hC))) rfl ?_
      refine gC rfl rfl (fun hC => moveA) rfl ?_
      refine gC rfl rfl (fun hC => ungdA (k := 80) rfl (lenS (TK rfl) rfl rfl rfl)) rfl ?_
      refine gC rfl rfl (fun hC => ungdA (k := 79) rfl (ungdA (k := 81) rfl (binI rfl rfl rfl))) rfl ?_
      refine s0 (pickOrA rfl rfl rfl) rfl ?_
      refine nil ?_
      refine hK60 _ ?_
      clear hK60 K60
      refine condE hE rfl (fun hc63 hE => ?_) (fun hc63 hE => ?_)
      ·refine seqK fun K64 hK64 => ?_
       refine region ?_
       refine s0 assignA rfl ?_
       refine s0 assignA rfl ?_
       refine nil ?_
       refine hK64 _ ?_
       clear hK64 K64
       refine AWp.ret ?_
       repeat (first | refine xBlock_ret ?_ | refine xThen_ret ?_)
       obtain rfl := Option.some.inj hE
       refine retQ.retF H rfl ⟨rfl, rfl⟩ ?_
       intro id_ o_ he_
       have e_tk4_16 : id_ ≠ tk4_16 := fun e_ => by subst e_; simp_all [Heap.set]
       have e_id4_15 : id_ ≠ id4_15 := fun e_ => by subst e_; simp_all [Heap.set]
       rw [← he_]
       simp only [Heap.set] at he_ ⊢
       (repeat' split) <;> simp_all
      refine AWp.skip ?_
      refine hK59 _ ?_
      clear hK59 K59
      refine seqK fun K65 hK65 => ?_
      refine region ?_
      refine s0 assignA rfl ?_
      refine nil ?_
      refine hK65 _ ?_
      clear hK65 K65
      refine seqJH (KeepsT.A (k := 0) (KeepsT.A (k := 4) (KeepsT.A (k := 5) KeepsT.nil))) (fun (z : Int) => [(9, .a (.d (.int .i64 z)))]) (fun z => ((H.set tk4_16 (some (.tok 1 y24_id4_15.Fbuf.l.length (some 5)))).set id4_15 (some (.tcells 57 (Strings_Builder.cg id4_15 (some tk4_16) y24_id4_15))))) (fun z => Z44_j66 y24_id4_15 x45 ((Z44_l22 x13 n22)) z = some r) ?_ ?_
      ·intro K66 hK66
       refine seqK fun K75 hK75 => ?_
       refine region ?_
       refine s0 moveA rfl ?_
       refine s0 moveA rfl ?_
       obtain ⟨x76, gx76, hE⟩ := bindO_some hE
       refine s0 (addM rfl rfl gx76) rfl ?_
       refine s0 moveA rfl ?_
       obtain ⟨x77, gx77, hE⟩ := bindO_some hE
       refine s0 (addM rfl rfl gx77) rfl ?_
       obtain ⟨x78, gx78, hE⟩ := bindO_some hE
       refine s0 (cutM (l := (some x76)) (r := (some x77)) (TK rfl) rfl rfl rfl rfl (by simp) gx78) rfl ?_
       obtain ⟨x79, gx79, hE⟩ := bindO_some hE
       refine s0 (convSB (TK rfl) rfl (TK rfl) rfl (TK rfl) rfl rfl gx79) rfl ?_
       refine sLen (f := (intE .u8)) (s := x79) (TK rfl) rfl rfl rfl rfl fun hL80 => ?_
       refine s0 moveA rfl ?_
       refine nil ?_
       refine hK75 _ ?_
       clear hK75 K75
       refine block ?_
       refine loopH (KeepsT.A (k := 0) (KeepsT.A (k := 4) (KeepsT.A (k := 5) (KeepsT.A (k := 90) (KeepsT.A (k := 91) KeepsT.nil))))) (fun (z : Nat × Int × Nat) => [(9, .a (.d (.int .i64 z.2.1))), (92, .a (.d (.int .i64 ((z.2.2 : Nat) : Int))))]) (fun z => ((H.set tk4_16 (some (.tok 1 y24_id4_15.Fbuf.l.length (some 5)))).set id4_15 (some (.tcells 57 (Strings_Builder.cg id4_15 (some tk4_16) y24_id4_15))))) (fun z => z.1) (fun z => Z44_l81 y24_id4_15 x45 x79 ((Z44_l22 x13 n22)) z.1 z.2.1 z.2.2 = some r) ((x79.l.length + 1), (0 : Int), 0) hE Weak.toA ?_
       rintro ⟨n81, s9_82, s92_83⟩ hE K81 hK81
       try dsimp only at hE
       cases n81 with
       | zero => cases hE
       | succ n81 =>
         rw [Z44_l81] at hE
         refine seqK fun K84 hK84 => ?_
         refine region ?_
         refine s0 (binI rfl rfl rfl) rfl ?_
         refine nil ?_
         refine hK84 _ ?_
         clear hK84 K84
         refine seqK fun K85 hK85 => ?_
         refine condE hE rfl (fun hc86 hE => ?_) (fun hc86 hE => ?_)
         ·try dsimp only at hc86
          have hf86 := of_decide_eq_true hc86
          refine AWp.skip ?_
          refine hK85 _ ?_
          clear hK85 K85
          refine seqK fun K87 hK87 => ?_
          refine block ?_
          refine seqK fun K88 hK88 => ?_
          refine region ?_
          obtain ⟨x89, gx89, hE⟩ := bindO_some hE
          refine s0 (idxMn (f := (intE .u8)) (n := s92_83) (TK rfl) rfl (TK rfl) rfl rfl rfl gx89) rfl ?_
          refine s0 (loadV (TK rfl) rfl rfl rfl) rfl ?_
          refine s0 assignA rfl ?_
          refine nil ?_
          refine hK88 _ ?_
          clear hK88 K88
          refine seqK fun K90 hK90 => ?_
          refine region ?_
          refine s0 moveA rfl ?_
          refine s0 (orI rfl rfl) rfl ?_
          obtain ⟨x91, gx91, hE⟩ := bindO_some hE
          refine s0 (callP rfl rfl (fun H => Z39_walk gx91 H)) rfl ?_
          refine s0 assignA rfl ?_
          refine nil ?_
          refine hK90 _ ?_
          clear hK90 K90
          refine seqK fun K92 hK92 => ?_
          refine seqK fun K93 hK93 => ?_
          refine region ?_
          refine s0 moveA rfl ?_
          refine s0 (binI rfl rfl rfl) rfl ?_
          refine s0 moveA rfl ?_
          refine gC rfl rfl (fun hC => moveA) rfl ?_
          refine gC rfl rfl (fun hC => ungdA (k := 102) rfl (binI rfl rfl rfl)) rfl ?_
          refine s0 (pickOrA rfl rfl rfl) rfl ?_
          refine s0 moveA rfl ?_
          refine gC rfl rfl (fun hC => moveA) rfl ?_
          refine gC rfl rfl (fun hC => ungdA (k := 106) rfl (binI rfl rfl rfl)) rfl ?_
          refine gC rfl rfl (fun hC => ungdA (k := 107) rfl moveA) rfl ?_
          refine gC rfl rfl (fun hC => moveA) rfl ?_
          refine gC rfl rfl (fun hC => ungdA (k := 109) rfl (binI rfl rfl rfl)) rfl ?_
          refine gC rfl rfl (fun hC => ungdA (k := 108) rfl (pickAndA rfl rfl rfl)) rfl ?_
          refine s0 (pickOrA rfl rfl rfl) rfl ?_
          refine nil ?_
          refine hK93 _ ?_
          clear hK93 K93
          refine condE hE rfl (fun hc94 hE => ?_) (fun hc94 hE => ?_)
          ·refine seqK fun K95 hK95 => ?_
           refine region ?_
           refine s0 assignA rfl ?_
           refine s0 assignA rfl ?_
           refine nil ?_
           refine hK95 _ ?_
           clear hK95 K95
           refine AWp.ret ?_
           repeat (first | refine xBlock_ret ?_ | refine xThen_ret ?_)
           obtain rfl := Option.some.inj hE
           refine retQ.retF H rfl ⟨rfl, rfl⟩ ?_
           intro id_ o_ he_
           have e_tk4_16 : id_ ≠ tk4_16 := fun e_ => by subst e_; simp_all [Heap.set]
           have e_id4_15 : id_ ≠ id4_15 := fun e_ => by subst e_; simp_all [Heap.set]
           rw [← he_]
           simp only [Heap.set] at he_ ⊢
           (repeat' split) <;> simp_all
          refine AWp.skip ?_
          refine hK92 _ ?_
          clear hK92 K92
          refine region ?_
          refine s0 moveA rfl ?_
          obtain ⟨x96, gx96, hE⟩ := bindO_some hE
          refine s0 (mulM rfl rfl gx96) rfl ?_
          refine s0 moveA rfl ?_
          obtain ⟨x97, gx97, hE⟩ := bindO_some hE
          refine s0 (addM rfl rfl gx97) rfl ?_
          refine s0 assignA rfl ?_
          refine nil ?_
          refine hK87 _ ?_
          clear hK87 K87
          refine region ?_
          refine s0 (addI rfl rfl (by first | omega | (dsimp only; omega) | (simp at *; omega)) (by first | omega | (dsimp only; omega) | (simp at *; omega))) rfl ?_
          refine s0 moveA rfl ?_
          refine nil ?_
          exact hK81 _ (n81, x97, (s92_83 + 1)) Weak.toA hE (Nat.lt_succ_self _)
         refine AWp.exit ?_
         exact hK66 _ s9_82 Weak.toA hE
      rintro s9_67 hE
      try dsimp only at hE
      unfold Z44_j66 at hE
      refine seqK fun K68 hK68 => ?_
      refine seqK fun K69 hK69 => ?_
      refine region ?_
      refine s0 moveA rfl ?_
      refine s0 (binI rfl rfl rfl) rfl ?_
      refine nil ?_
      refine hK69 _ ?_
      clear hK69 K69
      refine condE hE rfl (fun hc70 hE => ?_) (fun hc70 hE => ?_)
      ·refine seqK fun K71 hK71 => ?_
       refine region ?_
       refine s0 assignA rfl ?_
       refine s0 assignA rfl ?_
       refine nil ?_
       refine hK71 _ ?_
       clear hK71 K71
       refine AWp.ret ?_
       repeat (first | refine xBlock_ret ?_ | refine xThen_ret ?_)
       obtain rfl := Option.some.inj hE
       refine retQ.retF H rfl ⟨rfl, rfl⟩ ?_
       intro id_ o_ he_
       have e_tk4_16 : id_ ≠ tk4_16 := fun e_ => by subst e_; simp_all [Heap.set]
       have e_id4_15 : id_ ≠ id4_15 := fun e_ => by subst e_; simp_all [Heap.set]
       rw [← he_]
       simp only [Heap.set] at he_ ⊢
       (repeat' split) <;> simp_all
      refine AWp.skip ?_
      refine hK68 _ ?_
      clear hK68 K68
      refine seqK fun K72 hK72 => ?_
      refine region ?_
      refine s0 moveA rfl ?_
      refine s0 (convI (TK rfl) (TK rfl) rfl rfl) rfl ?_
      obtain ⟨x73, gx73, hE⟩ := bindO_some hE
      refine sH (callH rfl rfl (Z34_walk gx73 _ hpG hpG)) rfl ?_
      refine AOps.heq (h' := ((H.set tk4_16 (some (.tok 1 x73.2.Fbuf.l.length (some 5)))).set id4_15 (some (.tcells 57 (Strings_Builder.cg id4_15 (some tk4_16) x73.2))))) (by first | rfl | (rw [Heap.set_set]; rfl) | (funext n_; simp only [Heap.set]; (repeat' split) <;> first | rfl | (exfalso; simp_all; done) | (simp_all; done))) ?_
      refine nil ?_
      refine hK72 _ ?_
      clear hK72 K72
      refine region ?_
      refine s0 moveA rfl ?_
      obtain ⟨x74, gx74, hE⟩ := bindO_some hE
      refine s0 (addM rfl rfl gx74) rfl ?_
      refine s0 assignA rfl ?_
      refine nil ?_
      exact hK29 _ (x74, x73.2) Weak.toA hE
     rintro ⟨s5_30, y31_id4_15⟩ hE
     try dsimp only at hE
     unfold Z44_j29 at hE
     refine region ?_
     refine s0 moveA rfl ?_
     obtain ⟨x32, gx32, hE⟩ := bindO_some hE
     refine s0 (addM rfl rfl gx32) rfl ?_
     refine s0 assignA rfl ?_
     refine nil ?_
     exact hK22 _ (n22, x32, y31_id4_15) Weak.toA hE (Nat.lt_succ_self _)
    refine AWp.exit ?_
    exact hK17 _ y24_id4_15 Weak.toA hE
 rintro y18_id4_15 hE
 try dsimp only at hE
 unfold Z44_j17 at hE
 refine seqK fun K19 hK19 => ?_
 refine region ?_
 obtain ⟨x20, gx20, hE⟩ := bindO_some hE
 refine sH (callH rfl rfl (Z33_walk gx20 _ hpG hpG)) rfl ?_
 refine AOps.heq (h' := H) (by first | rfl | (rw [Heap.set_set]; rfl) | (funext n_; simp only [Heap.set]; (repeat' split) <;> first | rfl | (exfalso; simp_all; done) | (simp_all; done))) ?_
 refine s0 assignA rfl ?_
 refine s0 assignA rfl ?_
 refine nil ?_
 refine hK19 _ ?_
 clear hK19 K19
 refine AWp.ret ?_
 repeat (first | refine xBlock_ret ?_ | refine xThen_ret ?_)
 obtain rfl := Option.some.inj hE
 refine retQ.retF H rfl ⟨rfl, rfl⟩ ?_
 exact (fun _ _ h => h)
section
variable [IsLoud lou]
def Z49 (a0 : Bs) (a1 : Int) : Option (Token_Token × Int × Int) := (idxC a0 a1).bind fun x3 => (Z36 ([33, 36, 38, 40, 41, 58, 61, 64, 91, 93, 123, 124, 125] : Bs) (IntKind.wrap .i32 ((x3.toNat : Nat) : Int))).bind fun x6 => bif x6 then ((addC a1 (1 : Int)).bind fun x9 => (cutC a0 (some a1) (some x9)).bind fun x10 => (addC a1 (1 : Int)).bind fun x11 => some ((Token_Token.mk (1 : Int) x10 a1), x11, (0 : Int))) else (bif (decide ((IntKind.wrap .i32 ((x3.toNat : Nat) : Int)) = (46 : Int))) then ((cutC a0 (some a1) none).bind fun x16 => (Z37 x16 ([46, 46, 46] : Bs)).bind fun x17 => bif (!x17) then (some ((Token_Token.mk (0 : Int) ([] : Bs) (0 : Int)), (0 : Int), (3 : Int))) else ((addC a1 (3 : Int)).bind fun x21 => some ((Token_Token.mk (1 : Int) ([46, 46, 46] : Bs) a1), x21, (0 : Int)))) else (bif ((decide ((IntKind.wrap .i32 ((x3.toNat : Nat) : Int)) = (45 : Int))) || ((decide ((48 : Int) ≤ (IntKind.wrap .i32 ((x3.toNat : Nat) : Int)))) && (decide ((IntKind.wrap .i32 ((x3.toNat : Nat) : Int)) ≤ (57 : Int))))) then ((addC a1 (1 : Int)).bind fun x25 => (Z51 a0 x25 Z47).bind fun x26 => (cutC a0 (some a1) (some x26)).bind fun x28 => (Z43 x28).bind fun x29 => (cutC a0 (some a1) (some x26)).bind fun x31 => some ((Token_Token.mk (3 : Int) x31 a1), x26, x29.2)) else ((Z47 (IntKind.wrap .i32 ((x3.toNat : Nat) : Int))).bind fun x33 => bif x33 then ((Z51 a0 a1 Z47).bind fun x36 => (subC x36 a1).bind fun x39 => bif (decide ((64 : Int) < x39)) then (some ((Token_Token.mk (0 : Int) ([] : Bs) (0 : Int)), (0 : Int), (3 : Int))) else ((cutC a0 (some a1) (some x36)).bind fun x43 => some ((Token_Token.mk (2 : Int) x43 a1), x36, (0 : Int)))) else (bif (decide ((IntKind.wrap .i32 ((x3.toNat : Nat) : Int)) = (34 : Int))) then ((Z48 a0 a1).bind fun x47 => bif (decide (x47 < (0 : Int))) then (some ((Token_Token.mk (0 : Int) ([] : Bs) (0 : Int)), (0 : Int), (3 : Int))) else ((cutC a0 (some a1) (some x47)).bind fun x53 => (Z44 x53).bind fun x54 => some ((Token_Token.mk (4 : Int) x54.1 a1), x47, x54.2))) else (some ((Token_Token.mk (0 : Int) ([] : Bs) (0 : Int)), (0 : Int), (3 : Int)))))))
theorem Z49_walk {a0 : Bs} {a1 : Int} {oE : Ab.Obj} {gE : Nat} {r : (Token_Token × Int × Int)} (hE : Z49 a0 a1 = some r) (H : Heap) (hgE : H gE = some oE) (hoE : IsErr Tryz.prog oE) : ACalls Tryz.prog 55 [.d (.str a0), .d (.int .i64 a1)] H fun v h' => v = .tup [.agg (Token_Token.c r.1), .d (.int .i64 r.2.1), .d (.int .i64 r.2.2)] ∧ h' = H := by
 unfold Z49 at hE
 refine ACalls.of_wp (fn := Tryz.f55) (c := _) Tryz.tab_ok (fun _ _ => Tryz.call55 _ _) Tryz.func55 rfl (n := 116) rfl (rs := [.cell 4 47, .tmp 5, .tmp 6]) rfl rfl ?_
 refine seqK fun K1 hK1 => ?_
 refine region ?_
 refine sL (allocLA (TK rfl) rfl) rfl ?_
 refine s0 assignA rfl ?_
 refine s0 assignA rfl ?_
 refine nil ?_
 refine hK1 _ ?_
 clear hK1 K1
 refine seqK fun K2 hK2 => ?_
 refine region ?_
 refine s0 moveA rfl ?_
 refine s0 moveA rfl ?_
 obtain ⟨x3, gx3, hE⟩ := bindO_some hE
 refine s0 (idxS (TK rfl) rfl rfl rfl gx3) rfl ?_
 refine s0 (convI (TK rfl) (TK rfl) rfl rfl) rfl ?_
 refine s0 assignA rfl ?_
 refine nil ?_
 refine hK2 _ ?_
 clear hK2 K2
 refine seqK fun K4 hK4 => ?_
 refine block ?_
 refine seqK fun K5 hK5 => ?_
 refine region ?_
 refine s0 moveA rfl ?_
 obtain ⟨x6, gx6, hE⟩ := bindO_some hE
 refine s0 (callP rfl rfl (fun H => Z36_walk gx6 H)) rfl ?_
 refine s0 assignA rfl ?_
 refine nil ?_
 refine hK5 _ ?_
 clear hK5 K5
 refine condE hE rfl (fun hc7 hE => ?_) (fun hc7 hE => ?_)
 ·refine seqK fun K8 hK8 => ?_
  refine region ?_
  refine s0 moveA rfl ?_
  refine s0 moveA rfl ?_
  refine s0 moveA rfl ?_
  obtain ⟨x9, gx9, hE⟩ := bindO_some hE
  refine s0 (addM rfl rfl gx9) rfl ?_
  obtain ⟨x10, gx10, hE⟩ := bindO_some hE
  refine s0 (cutM (l := (some a1)) (r := (some x9)) (TK rfl) rfl rfl rfl rfl (by simp) gx10) rfl ?_
  refine s0 moveA rfl ?_
  refine s0 (build Tryz.tab_ok rfl rfl rfl rfl rfl rfl) rfl ?_
  refine s0 moveA rfl ?_
  obtain ⟨x11, gx11, hE⟩ := bindO_some hE
  refine s0 (addM rfl rfl gx11) rfl ?_
  refine sLn (storeLFA (TK rfl) rfl rfl rfl rfl rfl) ?_
  refine s0 assignA rfl ?_
  refine s0 assignA rfl ?_
  refine nil ?_
  refine hK8 _ ?_
  clear hK8 K8
  refine AWp.ret ?_
  repeat (first | refine xBlock_ret ?_ | refine xThen_ret ?_)
  obtain rfl := Option.some.inj hE
  refine retQ.retF H rfl ⟨rfl, rfl⟩ ?_
  exact (fun _ _ h => h)
 refine seqK fun K12 hK12 => ?_
 refine region ?_
 refine s0 moveA rfl ?_
 refine s0 (binI rfl rfl rfl) rfl ?_
 refine s0 assignA rfl ?_
 refine nil ?_
 refine hK12 _ ?_
 clear hK12 K12
 refine condE hE rfl (fun hc13 hE => ?_) (fun hc13 hE => ?_)
 ·refine seqK fun K14 hK14 => ?_
  refine seqK fun K15 hK15 => ?_
  refine region ?_
  refine s0 moveA rfl ?_
  refine s0 moveA rfl ?_
  obtain ⟨x16, gx16, hE⟩ := bindO_some hE
  refine s0 (cutM (l := (some a1)) (r := none) (TK rfl) rfl rfl rfl trivial (by simp) gx16) rfl ?_
  obtain ⟨x17, gx17, hE⟩ := bindO_some hE
  refine s0 (callP rfl rfl (fun H => Z37_walk gx17 H)) rfl ?_
  refine s0 (notB rfl) rfl ?_
  refine nil ?_
  refine hK15 _ ?_
  clear hK15 K15
  refine condE hE rfl (fun hc18 hE => ?_) (fun hc18 hE => ?_)
  ·refine seqK fun K19 hK19 => ?_
   refine region ?_
   refine s0 (build Tryz.tab_ok rfl rfl rfl rfl rfl rfl) rfl ?_
   refine sLn (storeLFA (TK rfl) rfl rfl rfl rfl rfl) ?_
   refine s0 assignA rfl ?_
   refine s0 assignA rfl ?_
   refine nil ?_
   refine hK19 _ ?_
   clear hK19 K19
   refine AWp.ret ?_
   repeat (first | refine xBlock_ret ?_ | refine xThen_ret ?_)
   obtain rfl := Option.some.inj hE
   refine retQ.retF H rfl ⟨rfl, rfl⟩ ?_
   exact (fun _ _ h => h)
  refine AWp.skip ?_
  refine hK14 _ ?_
  clear hK14 K14
  refine seqK fun K20 hK20 => ?_
  refine region ?_
  refine s0 moveA rfl ?_
  refine s0 (build Tryz.tab_ok rfl rfl rfl rfl rfl rfl) rfl ?_
  refine s0 moveA rfl ?_
  obtain ⟨x21, gx21, hE⟩ := bindO_some hE
  refine s0 (addM rfl rfl gx21) rfl ?_
  refine sLn (storeLFA (TK rfl) rfl rfl rfl rfl rfl) ?_
  refine s0 assignA rfl ?_
  refine s0 assignA rfl ?_
  refine nil ?_
  refine hK20 _ ?_
  clear hK20 K20
  refine AWp.ret ?_
  repeat (first | refine xBlock_ret ?_ | refine xThen_ret ?_)
  obtain rfl := Option.some.inj hE
  refine retQ.retF H rfl ⟨rfl, rfl⟩ ?_
  exact (fun _ _ h => h)
 refine seqK fun K22 hK22 => ?_
 refine region ?_
 refine s0 moveA rfl ?_
 refine s0 (binI rfl rfl rfl) rfl ?_
 refine s0 moveA rfl ?_
 refine gC rfl rfl (fun hC => moveA) rfl ?_
 refine gC rfl rfl (fun hC => ungdA (k := 48) rfl (binI rfl rfl rfl)) rfl ?_
 refine gC rfl rfl (fun hC => ungdA (k := 49) rfl moveA) rfl ?_
 refine gC rfl rfl (fun hC => moveA) rfl ?_
 refine gC rfl rfl (fun hC => ungdA (k := 51) rfl (binI rfl rfl rfl)) rfl ?_
 refine gC rfl rfl (fun hC => ungdA (k := 50) rfl (pickAndA rfl rfl rfl)) rfl ?_
 refine s0 (pickOrA rfl rfl rfl) rfl ?_
 refine s0 assignA rfl ?_
 refine nil ?_
 refine hK22 _ ?_
 clear hK22 K22
 refine condE hE rfl (fun hc23 hE => ?_) (fun hc23 hE => ?_)
 ·refine seqK fun K24 hK24 => ?_
  refine region ?_
  refine s0 moveA rfl ?_
  refine s0 moveA rfl ?_
  obtain ⟨x25, gx25, hE⟩ := bindO_some hE
  refine s0 (addM rfl rfl gx25) rfl ?_
  obtain ⟨x26, gx26, hE⟩ := bindO_some hE
  refine s0 (callP rfl rfl (fun H => Z51_walk gx26 H (fun _ _ hx => Z47_walk hx))) rfl ?_
  refine s0 assignA rfl ?_
  refine nil ?_
  refine hK24 _ ?_
  clear hK24 K24
  refine seqK fun K27 hK27 => ?_
  refine region ?_
  refine s0 moveA rfl ?_
  refine s0 moveA rfl ?_
  refine s0 moveA rfl ?_
  obtain ⟨x28, gx28, hE⟩ := bindO_some hE
  refine s0 (cutM (l := (some a1)) (r := (some x26)) (TK rfl) rfl rfl rfl rfl (by simp) gx28) rfl ?_
  obtain ⟨x29, gx29, hE⟩ := bindO_some hE
  refine s0 (callR rfl rfl (Z43_walk (gE := gE) (oE := oE) gx29 _ hpG (by assumption))) rfl ?_
  refine s0 moveA rfl ?_
  refine s0 (extract rfl rfl) rfl ?_
  refine s0 (extract rfl rfl) rfl ?_
  refine s0 assignA rfl ?_
  refine s0 assignA rfl ?_
  refine nil ?_
  refine hK27 _ ?_
  clear hK27 K27
  refine seqK fun K30 hK30 => ?_
  refine region ?_
  refine s0 moveA rfl ?_
  refine s0 moveA rfl ?_
  refine s0 moveA rfl ?_
  obtain ⟨x31, gx31, hE⟩ := bindO_some hE
  refine s0 (cutM (l := (some a1)) (r := (some x26)) (TK rfl) rfl rfl rfl rfl (by simp) gx31) rfl ?_
  refine s0 moveA rfl ?_
  refine s0 (build Tryz.tab_ok rfl rfl rfl rfl rfl rfl) rfl ?_
  refine s0 moveA rfl ?_
  refine s0 moveA rfl ?_
  refine sLn (storeLFA (TK rfl) rfl rfl rfl rfl rfl) ?_
  refine s0 assignA rfl ?_
  refine s0 assignA rfl ?_
  refine nil ?_
  refine hK30 _ ?_
  clear hK30 K30
  refine AWp.ret ?_
  repeat (first | refine xBlock_ret ?_ | refine xThen_ret ?_)
  obtain rfl := Option.some.inj hE
  refine retQ.retF H rfl ⟨rfl, rfl⟩ ?_
  exact (fun _ _ h => h)
 refine seqK fun K32 hK32 => ?_
 refine region ?_
 refine s0 moveA rfl ?_
 obtain ⟨x33, gx33, hE⟩ := bindO_some hE
 refine s0 (callP rfl rfl (fun H => Z47_walk gx33 H)) rfl ?_
 refine s0 assignA rfl ?_
 refine nil ?_
 refine hK32 _ ?_
 clear hK32 K32
 refine condE hE rfl (fun hc34 hE => ?_) (fun hc34 hE => ?_)
 ·refine seqK fun K35 hK35 => ?_
  refine region ?_
  refine s0 moveA rfl ?_
  refine s0 moveA rfl ?_
  obtain ⟨x36, gx36, hE⟩ := bindO_some hE
  refine s0 (callP rfl rfl (fun H => Z51_walk gx36 H (fun _ _ hx => Z47_walk hx))) rfl ?_
  refine s0 assignA rfl ?_
  refine nil ?_
  refine hK35 _ ?_
  clear hK35 K35
  refine seqK fun K37 hK37 => ?_
  refine seqK fun K38 hK38 => ?_
  refine region ?_
  refine s0 moveA rfl ?_
  refine s0 moveA rfl ?_
  obtain ⟨x39, gx39, hE⟩ := bindO_some hE
  refine s0 (subM rfl rfl gx39) rfl ?_
  refine s0 (binI rfl rfl rfl) rfl ?_
  refine nil ?_
  refine hK38 _ ?_
  clear hK38 K38
  refine condE hE rfl (fun hc40 hE => ?_) (fun hc40 hE => ?_)
  ·refine seqK fun K41 hK41 => ?_
   refine region ?_
   refine s0 (build Tryz.tab_ok rfl rfl rfl rfl rfl rfl) rfl ?_
   refine sLn (storeLFA (TK rfl) rfl rfl rfl rfl rfl) ?_
   refine s0 assignA rfl ?_
   refine s0 assignA rfl ?_
   refine nil ?_
   refine hK41 _ ?_
   clear hK41 K41
   refine AWp.ret ?_
   repeat (first | refine xBlock_ret ?_ | refine xThen_ret ?_)
   obtain rfl := Option.some.inj hE
   refine retQ.retF H rfl ⟨rfl, rfl⟩ ?_
   exact (fun _ _ h => h)
  refine AWp.skip ?_
  refine hK37 _ ?_
  clear hK37 K37
  refine seqK fun K42 hK42 => ?_
  refine region ?_
  refine s0 moveA rfl ?_
  refine s0 moveA rfl ?_
  refine s0 moveA rfl ?_
  obtain ⟨x43, gx43, hE⟩ := bindO_some hE
  refine s0 (cutM (l := (some a1)) (r := (some x36)) (TK rfl) rfl rfl rfl rfl (by simp) gx43) rfl ?_
  refine s0 moveA rfl ?_
  refine s0 (build Tryz.tab_ok rfl rfl rfl rfl rfl rfl) rfl ?_
  refine s0 moveA rfl ?_
  refine sLn (storeLFA (TK rfl) rfl rfl rfl rfl rfl) ?_
  refine s0 assignA rfl ?_
  refine s0 assignA rfl ?_
  refine nil ?_
  refine hK42 _ ?_
  clear hK42 K42
  refine AWp.ret ?_
  repeat (first | refine xBlock_ret ?_ | refine xThen_ret ?_)
  obtain rfl := Option.some.inj hE
  refine retQ.retF H rfl ⟨rfl, rfl⟩ ?_
  exact (fun _ _ h => h)
 refine seqK fun K44 hK44 => ?_
 refine region ?_
 refine s0 moveA rfl ?_
 refine s0 (binI rfl rfl rfl) rfl ?_
 refine s0 assignA rfl ?_
 refine nil ?_
 refine hK44 _ ?_
 clear hK44 K44
 refine condE hE rfl (fun hc45 hE => ?_) (fun hc45 hE => ?_)
 ·refine seqK fun K46 hK46 => ?_
  refine region ?_
  refine s0 moveA rfl ?_
  refine s0 moveA rfl ?_
  obtain ⟨x47, gx47, hE⟩ := bindO_some hE
  refine s0 (callP rfl rfl (fun H => Z48_walk gx47 H)) rfl ?_
  refine s0 assignA rfl ?_
  refine nil ?_
  refine hK46 _ ?_
  clear hK46 K46
  refine seqK fun K48 hK48 => ?_
  refine seqK fun K49 hK49 => ?_
  refine region ?_
  refine s0 moveA rfl ?_
  refine s0 (binI rfl rfl rfl) rfl ?_
  refine nil ?_
  refine hK49 _ ?_
  clear hK49 K49
  refine condE hE rfl (fun hc50 hE => ?_) (fun hc50 hE => ?_)
  ·refine seqK fun K51 hK51 => ?_
   refine region ?_
   refine s0 (build Tryz.tab_ok rfl rfl rfl rfl rfl rfl) rfl ?_
   refine sLn (storeLFA (TK rfl) rfl rfl rfl rfl rfl) ?_
   refine s0 assignA rfl ?_
   refine s0 assignA rfl ?_
   refine nil ?_
   refine hK51 _ ?_
   clear hK51 K51
   refine AWp.ret ?_
   repeat (first | refine xBlock_ret ?_ | refine xThen_ret ?_)
   obtain rfl := Option.some.inj hE
   refine retQ.retF H rfl ⟨rfl, rfl⟩ ?_
   exact (fun _ _ h => h)
  refine AWp.skip ?_
  refine hK48 _ ?_
  clear hK48 K48
  refine seqK fun K52 hK52 => ?_
  refine region ?_
  refine s0 moveA rfl ?_
  refine s0 moveA rfl ?_
  refine s0 moveA rfl ?_
  obtain ⟨x53, gx53, hE⟩ := bindO_some hE
  refine s0 (cutM (l := (some a1)) (r := (some x47)) (TK rfl) rfl rfl rfl rfl (by simp) gx53) rfl ?_
  obtain ⟨x54, gx54, hE⟩ := bindO_some hE
  refine s0 (callP rfl rfl (fun H => Z44_walk gx54 H)) rfl ?_
  refine s0 moveA rfl ?_
  refine s0 (extract rfl rfl) rfl ?_
  refine s0 (extract rfl rfl) rfl ?_
  refine s0 assignA rfl ?_
  refine s0 assignA rfl ?_
  refine nil ?_
  refine hK52 _ ?_
  clear hK52 K52
  refine seqK fun K55 hK55 => ?_
  refine region ?_
  refine s0 moveA rfl ?_
  refine s0 moveA rfl ?_
  refine s0 (build Tryz.tab_ok rfl rfl rfl rfl rfl rfl) rfl ?_
  refine s0 moveA rfl ?_
  refine s0 moveA rfl ?_
  refine sLn (storeLFA (TK rfl) rfl rfl rfl rfl rfl) ?_
  refine s0 assignA rfl ?_
  refine s0 assignA rfl ?_
  refine nil ?_
  refine hK55 _ ?_
  clear hK55 K55
  refine AWp.ret ?_
  repeat (first | refine xBlock_ret ?_ | refine xThen_ret ?_)
  obtain rfl := Option.some.inj hE
  refine retQ.retF H rfl ⟨rfl, rfl⟩ ?_
  exact (fun _ _ h => h)
 refine AWp.skip ?_
 refine hK4 _ ?_
 clear hK4 K4
 refine seqK fun K56 hK56 => ?_
 refine region ?_
 refine s0 (build Tryz.tab_ok rfl rfl rfl rfl rfl rfl) rfl ?_
 refine sLn (storeLFA (TK rfl) rfl rfl rfl rfl rfl) ?_
 refine s0 assignA rfl ?_
 refine s0 assignA rfl ?_
 refine nil ?_
 refine hK56 _ ?_
 clear hK56 K56
 refine AWp.ret ?_
 repeat (first | refine xBlock_ret ?_ | refine xThen_ret ?_)
 obtain rfl := Option.some.inj hE
 refine retQ.retF H rfl ⟨rfl, rfl⟩ ?_
 exact (fun _ _ h => h)
end
end Go.Proofs
