import Derived.Test.YtmjbloiidajknaaDoorE3
import Derived.Test.YtmjbloiidajknaaDoorTab
set_option maxRecDepth 100000
set_option maxHeartbeats 2000000
set_option linter.unusedVariables false
set_option linter.unusedSimpArgs false
namespace Go.Proofs
open Go Go.Ab
structure Token_Token where
 FKind : Int
 FText : Bs
 FAt : Int
def Token_Token.c (x : Token_Token) : List D := [.int .i64 x.FKind, .str x.FText, .int .i64 x.FAt]
def Token_Token.zero : Token_Token := ⟨(0 : Int), ([] : Bs), (0 : Int)⟩
structure R04_Token where
 FKind : Int
 FText : Bs
 FAt : Int
def R04_Token.c (x : R04_Token) : List D := [.int .i64 x.FKind, .str x.FText, .int .i64 x.FAt]
def R04_Token.zero : R04_Token := ⟨(0 : Int), ([] : Bs), (0 : Int)⟩
end Go.Proofs

namespace Go.Proofs
open Go Go.Ab Go.RowKit
section
variable {H : Type} {B : DataW H → Nat} (hB : Bulk B)
end
end Go.Proofs

namespace Go.Proofs
open Go Go.Ab
variable {lou : Lou}
def Tryd.lay53_ren : Go.Shelf.Ren := ⟨fun | 153 => 53 | 152 => 80 | 226 => 81 | 227 => 82 | 228 => 83 | 137 => 89 | 119 => 96 | 224 => 97 | 225 => 98 | 217 => 102 | 266 => 110 | n => n, fun | 9 => 9 | 3 => 3 | 4 => 4 | 5 => 5 | 21 => 21 | 117 => 95 | 116 => 94 | 0 => 0 | 46 => 86 | 124 => 107 | n => n, fun | n => n⟩
theorem Tryd.lay53 : Go.Proofs.Lays.n153 Tryd.prog Tryd.lay53_ren := {
 mixed := by kernel_rfl
 f119 := Tryd.func96.trans (congrArg some (by kernel_rfl))
 f137 := Tryd.func89.trans (congrArg some (by kernel_rfl))
 f152 := Tryd.func80.trans (congrArg some (by kernel_rfl))
 f153 := Tryd.func53.trans (congrArg some (by kernel_rfl))
 f217 := Tryd.func102.trans (congrArg some (by kernel_rfl))
 f224 := Tryd.func97.trans (congrArg some (by kernel_rfl))
 f225 := Tryd.func98.trans (congrArg some (by kernel_rfl))
 f226 := Tryd.func81.trans (congrArg some (by kernel_rfl))
 f227 := Tryd.func82.trans (congrArg some (by kernel_rfl))
 f228 := Tryd.func83.trans (congrArg some (by kernel_rfl))
 f266 := Tryd.func110.trans (congrArg some (by kernel_rfl))
 t0 := Tryd.underlying0
 a0 := Tryd.isAgg0
 z0 := Tryd.sizeOf0
 v0 := Tryd.zeroValue0
 t3 := Tryd.underlying3
 a3 := Tryd.isAgg3
 z3 := Tryd.sizeOf3
 v3 := Tryd.zeroValue3
 t4 := Tryd.underlying4
 a4 := Tryd.isAgg4
 z4 := Tryd.sizeOf4
 v4 := Tryd.zeroValue4
 t5 := Tryd.underlying5
 a5 := Tryd.isAgg5
 z5 := Tryd.sizeOf5
 v5 := Tryd.zeroValue5
 t9 := Tryd.underlying9
 a9 := Tryd.isAgg9
 z9 := Tryd.sizeOf9
 v9 := Tryd.zeroValue9
 t21 := Tryd.underlying21
 a21 := Tryd.isAgg21
 z21 := Tryd.sizeOf21
 v21 := Tryd.zeroValue21
 t46 := Tryd.underlying86
 a46 := Tryd.isAgg86
 z46 := Tryd.sizeOf86
 v46 := Tryd.zeroValue86
 t116 := Tryd.underlying94
 a116 := Tryd.isAgg94
 z116 := Tryd.sizeOf94
 t117 := Tryd.underlying95
 a117 := Tryd.isAgg95
 z117 := Tryd.sizeOf95
 v117 := Tryd.zeroValue95
 t124 := Tryd.underlying107
 a124 := Tryd.isAgg107
 z124 := Tryd.sizeOf107
 v124 := Tryd.zeroValue107 }
def Z30 (s c : Bs) : Option Int := idxAnyC s c
theorem Z30_walk {a0 a1 : Bs} {r : Int} (hE : Z30 a0 a1 = some r) (H : Heap) : ACalls Tryd.prog 53 [.d (.str a0), .d (.str a1)] H fun v h' => v = .a (.d (.int .i64 r)) ∧ h' = H := idxAny_calls Tryd.lay53 (by kernel_rfl) hE rfl
def Z44_j2  (s1_3 : Int) : Option Int := some s1_3
def Z44_j13 (a0 : Bs) (s1_6 : Int) (x12 : UInt8) (k_next_5 : Int → Option Int) (s14_14 : Bool) : Option Int := bif s14_14 then ((addC s1_6 (1 : Int)).bind fun x16 => k_next_5 x16) else (bif (decide (((x12.toNat : Nat) : Int) = (35 : Int))) then ((cutC a0 (some s1_6) none).bind fun x20 => (Z30 x20 ([10, 13] : Bs)).bind fun x21 => bif (decide ((0 : Int) ≤ x21)) then ((addC s1_6 x21).bind fun x24 => k_next_5 x24) else (k_next_5 ((a0.length : Nat) : Int))) else (some s1_6))
def Z44_l5 (a0 : Bs)  : Nat → Int → Option Int
 | 0, _ => none
 | n5 + 1, s1_6 => bif (decide (s1_6 < ((a0.length : Nat) : Int))) then ((idxC a0 s1_6).bind fun x12 => bif (decide (((x12.toNat : Nat) : Int) = (32 : Int))) then (Z44_j13 a0 s1_6 x12 ((Z44_l5 a0 n5)) (decide (((x12.toNat : Nat) : Int) = (32 : Int)))) else (bif (decide (((x12.toNat : Nat) : Int) = (9 : Int))) then (Z44_j13 a0 s1_6 x12 ((Z44_l5 a0 n5)) (decide (((x12.toNat : Nat) : Int) = (9 : Int)))) else (bif (decide (((x12.toNat : Nat) : Int) = (10 : Int))) then (Z44_j13 a0 s1_6 x12 ((Z44_l5 a0 n5)) (decide (((x12.toNat : Nat) : Int) = (10 : Int)))) else (bif (decide (((x12.toNat : Nat) : Int) = (13 : Int))) then (Z44_j13 a0 s1_6 x12 ((Z44_l5 a0 n5)) (decide (((x12.toNat : Nat) : Int) = (13 : Int)))) else (Z44_j13 a0 s1_6 x12 ((Z44_l5 a0 n5)) (decide (((x12.toNat : Nat) : Int) = (44 : Int)))))))) else (Z44_j2   s1_6)
def Z44 (a0 : Bs) (a1 : Int) : Option Int := Z44_l5 a0 F0 a1
set_option maxRecDepth 100000 in
set_option maxHeartbeats 2000000 in
theorem Z44_walk {a0 : Bs} {a1 : Int}   {r : Int} (hE : Z44 a0 a1 = some r) (H : Heap)  : ACalls Tryd.prog 30 [.d (.str a0), .d (.int .i64 a1)] H fun v h' => v = .a (.d (.int .i64 r)) ∧ h' = H := by
 unfold Z44 at hE
 refine ACalls.of_wp (fn := Tryd.f30) (c := _) Tryd.tab_ok (fun _ _ => Tryd.call30 _ _) Tryd.func30 rfl (n := 36) rfl (rs := [.tmp 4]) rfl rfl ?_
 refine AWp.seqK fun K1 hK1 => ?_
 refine AWp.region ?_
 refine AOps.s0 (Cert.assign (by conv => lhs; whnf)) rfl ?_
 refine AOps.nil ?_
 refine hK1 _ ?_
 clear hK1 K1
 refine AWp.seqJH KeepsT.nil (fun (z : Int) => [(1, .a (.d (.int .i64 z)))]) (fun z => H) (fun z => Z44_j2 z = some r) ?_ ?_
 ·intro K2 hK2
  refine AWp.block ?_
  refine AWp.loopH (KeepsT.cons (k := 0) (by conv => lhs; whnf) KeepsT.nil) (fun (z : Nat × Int) => [(1, .a (.d (.int .i64 z.2)))]) (fun z => H) (fun z => z.1) (fun z => Z44_l5 a0 z.1 z.2 = some r) (F0, a1) hE Weak.toA ?_
  rintro ⟨n5, s1_6⟩ hE K5 hK5
  try dsimp only at hE
  cases n5 with
  | zero => cases hE
  | succ n5 =>
    rw [Z44_l5] at hE
    refine AWp.seqK fun K7 hK7 => ?_
    refine AWp.seqK fun K8 hK8 => ?_
    refine AWp.region ?_
    refine AOps.s0 (Cert.move (by conv => lhs; whnf)) rfl ?_
    refine AOps.s0 (Cert.move (by conv => lhs; whnf)) rfl ?_
    refine AOps.sLenS (TK rfl) rfl rfl rfl rfl fun hL9 => ?_
    refine AOps.s0 (Cert.binI rfl rfl rfl) rfl ?_
    refine AOps.nil ?_
    refine hK8 _ ?_
    clear hK8 K8
    refine AWp.condE hE rfl (fun hc10 hE => ?_) (fun hc10 hE => ?_)
    ·refine AWp.skip ?_
     refine hK7 _ ?_
     clear hK7 K7
     refine AWp.block ?_
     refine AWp.seqK fun K11 hK11 => ?_
     refine AWp.region ?_
     refine AOps.s0 (Cert.move (by conv => lhs; whnf)) rfl ?_
     refine AOps.s0 (Cert.move (by conv => lhs; whnf)) rfl ?_
     obtain ⟨x12, gx12, hE⟩ := bindO_some hE
     refine AOps.s0 (Cert.idxS (TK rfl) rfl rfl rfl gx12) rfl ?_
     refine AOps.nil ?_
     refine hK11 _ ?_
     clear hK11 K11
     refine AWp.block ?_
     refine AWp.seqJH (KeepsT.cons (k := 0) (by conv => lhs; whnf) (KeepsT.cons (k := 1) (by conv => lhs; whnf) (KeepsT.cons (k := 12) (by conv => lhs; whnf) KeepsT.nil))) (fun (z : Bool) => [(14, .a (.d (.bool z)))]) (fun z => H) (fun z => Z44_j13 a0 s1_6 x12 ((Z44_l5 a0 n5)) z = some r) ?_ ?_
     ·intro K13 hK13
      refine AWp.seqK fun K27 hK27 => ?_
      refine AWp.region ?_
      refine AOps.s0 (Cert.binI rfl rfl rfl) rfl ?_
      refine AOps.s0 (Cert.assign (by conv => lhs; whnf)) rfl ?_
      refine AOps.nil ?_
      refine hK27 _ ?_
      clear hK27 K27
      refine AWp.condE hE rfl (fun hc28 hE => ?_) (fun hc28 hE => ?_)
      ·refine AWp.skip ?_
       exact hK13 _ (decide (((x12.toNat : Nat) : Int) = (32 : Int))) Weak.toA hE
      ·refine AWp.seqK fun K29 hK29 => ?_
       refine AWp.region ?_
       refine AOps.s0 (Cert.binI rfl rfl rfl) rfl ?_
       refine AOps.s0 (Cert.assign (by conv => lhs; whnf)) rfl ?_
       refine AOps.nil ?_
       refine hK29 _ ?_
       clear hK29 K29
       refine AWp.condE hE rfl (fun hc30 hE => ?_) (fun hc30 hE => ?_)
       ·refine AWp.skip ?_
        exact hK13 _ (decide (((x12.toNat : Nat) : Int) = (9 : Int))) Weak.toA hE
       ·refine AWp.seqK fun K31 hK31 => ?_
        refine AWp.region ?_
        refine AOps.s0 (Cert.binI rfl rfl rfl) rfl ?_
        refine AOps.s0 (Cert.assign (by conv => lhs; whnf)) rfl ?_
        refine AOps.nil ?_
        refine hK31 _ ?_
        clear hK31 K31
        refine AWp.condE hE rfl (fun hc32 hE => ?_) (fun hc32 hE => ?_)
        ·refine AWp.skip ?_
         exact hK13 _ (decide (((x12.toNat : Nat) : Int) = (10 : Int))) Weak.toA hE
        ·refine AWp.seqK fun K33 hK33 => ?_
         refine AWp.region ?_
         refine AOps.s0 (Cert.binI rfl rfl rfl) rfl ?_
         refine AOps.s0 (Cert.assign (by conv => lhs; whnf)) rfl ?_
         refine AOps.nil ?_
         refine hK33 _ ?_
         clear hK33 K33
         refine AWp.condE hE rfl (fun hc34 hE => ?_) (fun hc34 hE => ?_)
         ·refine AWp.skip ?_
          exact hK13 _ (decide (((x12.toNat : Nat) : Int) = (13 : Int))) Weak.toA hE
         ·refine AWp.region ?_
          refine AOps.s0 (Cert.binI rfl rfl rfl) rfl ?_
          refine AOps.s0 (Cert.assign (by conv => lhs; whnf)) rfl ?_
          refine AOps.nil ?_
          exact hK13 _ (decide (((x12.toNat : Nat) : Int) = (44 : Int))) Weak.toA hE
     ·rintro s14_14 hE
      try dsimp only at hE
      unfold Z44_j13 at hE
      refine AWp.condE hE rfl (fun hc15 hE => ?_) (fun hc15 hE => ?_)
      ·refine AWp.region ?_
       refine AOps.s0 (Cert.move (by conv => lhs; whnf)) rfl ?_
       obtain ⟨x16, gx16, hE⟩ := bindO_some hE
       refine AOps.s0 (Cert.addM rfl rfl gx16) rfl ?_
       refine AOps.s0 (Cert.assign (by conv => lhs; whnf)) rfl ?_
       refine AOps.nil ?_
       exact hK5 _ (n5, x16) Weak.toA hE (Nat.lt_succ_self _)
      ·refine AWp.seqK fun K17 hK17 => ?_
       refine AWp.region ?_
       refine AOps.s0 (Cert.binI rfl rfl rfl) rfl ?_
       refine AOps.s0 (Cert.assign (by conv => lhs; whnf)) rfl ?_
       refine AOps.nil ?_
       refine hK17 _ ?_
       clear hK17 K17
       refine AWp.condE hE rfl (fun hc18 hE => ?_) (fun hc18 hE => ?_)
       ·refine AWp.seqK fun K19 hK19 => ?_
        refine AWp.region ?_
        refine AOps.s0 (Cert.move (by conv => lhs; whnf)) rfl ?_
        refine AOps.s0 (Cert.move (by conv => lhs; whnf)) rfl ?_
        obtain ⟨x20, gx20, hE⟩ := bindO_some hE
        refine AOps.s0 (Cert.cutM (l := (some s1_6)) (r := none) (TK rfl) rfl rfl rfl trivial (by simp) gx20) rfl ?_
        obtain ⟨x21, gx21, hE⟩ := bindO_some hE
        refine AOps.s0 (Cert.callP rfl rfl (fun H => Z30_walk gx21 H)) rfl ?_
        refine AOps.s0 (Cert.assign (by conv => lhs; whnf)) rfl ?_
        refine AOps.nil ?_
        refine hK19 _ ?_
        clear hK19 K19
        refine AWp.seqK fun K22 hK22 => ?_
        refine AWp.region ?_
        refine AOps.s0 (Cert.move (by conv => lhs; whnf)) rfl ?_
        refine AOps.s0 (Cert.binI rfl rfl rfl) rfl ?_
        refine AOps.nil ?_
        refine hK22 _ ?_
        clear hK22 K22
        refine AWp.condE hE rfl (fun hc23 hE => ?_) (fun hc23 hE => ?_)
        ·refine AWp.region ?_
         refine AOps.s0 (Cert.move (by conv => lhs; whnf)) rfl ?_
         refine AOps.s0 (Cert.move (by conv => lhs; whnf)) rfl ?_
         obtain ⟨x24, gx24, hE⟩ := bindO_some hE
         refine AOps.s0 (Cert.addM rfl rfl gx24) rfl ?_
         refine AOps.s0 (Cert.assign (by conv => lhs; whnf)) rfl ?_
         refine AOps.nil ?_
         exact hK5 _ (n5, x24) Weak.toA hE (Nat.lt_succ_self _)
        ·refine AWp.region ?_
         refine AOps.s0 (Cert.move (by conv => lhs; whnf)) rfl ?_
         refine AOps.sLenS (TK rfl) rfl rfl rfl rfl fun hL25 => ?_
         refine AOps.s0 (Cert.assign (by conv => lhs; whnf)) rfl ?_
         refine AOps.nil ?_
         exact hK5 _ (n5, ((a0.length : Nat) : Int)) Weak.toA hE (Nat.lt_succ_self _)
       ·refine AWp.seqK fun K26 hK26 => ?_
        refine AWp.region ?_
        refine AOps.s0 (Cert.move (by conv => lhs; whnf)) rfl ?_
        refine AOps.s0 (Cert.assign (by conv => lhs; whnf)) rfl ?_
        refine AOps.nil ?_
        refine hK26 _ ?_
        clear hK26 K26
        refine AWp.ret ?_
        repeat (first | refine xBlock_ret ?_ | refine xThen_ret ?_)
        obtain rfl := Option.some.inj hE
        refine retQ.retF H rfl ⟨rfl, rfl⟩ ?_
        exact (fun _ _ h => h)
    ·refine AWp.exit ?_
     exact hK2 _ s1_6 Weak.toA hE
 ·rintro s1_3 hE
  try dsimp only at hE
  unfold Z44_j2 at hE
  refine AWp.seqK fun K4 hK4 => ?_
  refine AWp.region ?_
  refine AOps.s0 (Cert.move (by conv => lhs; whnf)) rfl ?_
  refine AOps.s0 (Cert.assign (by conv => lhs; whnf)) rfl ?_
  refine AOps.nil ?_
  refine hK4 _ ?_
  clear hK4 K4
  refine AWp.ret ?_
  repeat (first | refine xBlock_ret ?_ | refine xThen_ret ?_)
  obtain rfl := Option.some.inj hE
  refine retQ.retF H rfl ⟨rfl, rfl⟩ ?_
  exact (fun _ _ h => h)
def Tryd.lay80_ren : Go.Shelf.Ren := ⟨fun | 152 => 80 | 137 => 89 | 119 => 96 | 224 => 97 | 225 => 98 | 217 => 102 | 266 => 110 | n => n, fun | 9 => 9 | 21 => 21 | 3 => 3 | 4 => 4 | 5 => 5 | 0 => 0 | 46 => 86 | n => n, fun | n => n⟩
theorem Tryd.lay80 : Go.Proofs.Lays.n152 Tryd.prog Tryd.lay80_ren := {
 mixed := by kernel_rfl
 f119 := Tryd.func96.trans (congrArg some (by kernel_rfl))
 f137 := Tryd.func89.trans (congrArg some (by kernel_rfl))
 f152 := Tryd.func80.trans (congrArg some (by kernel_rfl))
 f217 := Tryd.func102.trans (congrArg some (by kernel_rfl))
 f224 := Tryd.func97.trans (congrArg some (by kernel_rfl))
 f225 := Tryd.func98.trans (congrArg some (by kernel_rfl))
 f266 := Tryd.func110.trans (congrArg some (by kernel_rfl))
 t0 := Tryd.underlying0
 a0 := Tryd.isAgg0
 z0 := Tryd.sizeOf0
 v0 := Tryd.zeroValue0
 t3 := Tryd.underlying3
 a3 := Tryd.isAgg3
 z3 := Tryd.sizeOf3
 v3 := Tryd.zeroValue3
 t4 := Tryd.underlying4
 a4 := Tryd.isAgg4
 z4 := Tryd.sizeOf4
 v4 := Tryd.zeroValue4
 t5 := Tryd.underlying5
 a5 := Tryd.isAgg5
 z5 := Tryd.sizeOf5
 v5 := Tryd.zeroValue5
 t9 := Tryd.underlying9
 a9 := Tryd.isAgg9
 z9 := Tryd.sizeOf9
 v9 := Tryd.zeroValue9
 t21 := Tryd.underlying21
 a21 := Tryd.isAgg21
 z21 := Tryd.sizeOf21
 v21 := Tryd.zeroValue21
 t46 := Tryd.underlying86
 a46 := Tryd.isAgg86
 z46 := Tryd.sizeOf86
 v46 := Tryd.zeroValue86 }
def Z32 (s : Bs) (r : Int) : Option Int := idxRuneC s r
theorem Z32_walk {a0 : Bs} {a1 : Int} {r : Int} (hE : Z32 a0 a1 = some r) (H : Heap) : ACalls Tryd.prog 80 [.d (.str a0), .d (.int .i32 a1)] H fun v h' => v = .a (.d (.int .i64 r)) ∧ h' = H := idxRune_calls Tryd.lay80 hE rfl
def Z28 (a0 : Bs) (a1 : Int) : Option Bool := (Z32 a0 a1).bind fun x3 => some (decide ((0 : Int) ≤ x3))
set_option maxRecDepth 100000 in
set_option maxHeartbeats 2000000 in
theorem Z28_walk {a0 : Bs} {a1 : Int}   {r : Bool} (hE : Z28 a0 a1 = some r) (H : Heap)  : ACalls Tryd.prog 54 [.d (.str a0), .d (.int .i32 a1)] H fun v h' => v = .a (.d (.bool r)) ∧ h' = H := by
 unfold Z28 at hE
 refine ACalls.of_wp (fn := Tryd.f54) (c := _) Tryd.tab_ok (fun _ _ => Tryd.call54 _ _) Tryd.func54 rfl (n := 9) rfl (rs := [.tmp 4]) rfl rfl ?_
 refine AWp.seqK fun K1 hK1 => ?_
 refine AWp.region ?_
 refine AOps.s0 (Cert.assign (by conv => lhs; whnf)) rfl ?_
 refine AOps.nil ?_
 refine hK1 _ ?_
 clear hK1 K1
 refine AWp.seqK fun K2 hK2 => ?_
 refine AWp.region ?_
 refine AOps.s0 (Cert.move (by conv => lhs; whnf)) rfl ?_
 refine AOps.s0 (Cert.move (by conv => lhs; whnf)) rfl ?_
 obtain ⟨x3, gx3, hE⟩ := bindO_some hE
 refine AOps.s0 (Cert.callP rfl rfl (fun H => Z32_walk gx3 H)) rfl ?_
 refine AOps.s0 (Cert.binI rfl rfl rfl) rfl ?_
 refine AOps.s0 (Cert.assign (by conv => lhs; whnf)) rfl ?_
 refine AOps.nil ?_
 refine hK2 _ ?_
 clear hK2 K2
 refine AWp.ret ?_
 repeat (first | refine xBlock_ret ?_ | refine xThen_ret ?_)
 obtain rfl := Option.some.inj hE
 refine retQ.retF H rfl ⟨rfl, rfl⟩ ?_
 exact (fun _ _ h => h)
def Z0 (a0 : Bs) (a1 : Bs) : Option Bool := guardO ((decide (((a1.length : Nat) : Int) ≤ ((a0.length : Nat) : Int)))) (cutC a0 none (some ((a1.length : Nat) : Int))) ([] : Bs) fun x5 => some ((decide (((a1.length : Nat) : Int) ≤ ((a0.length : Nat) : Int))) && ((x5 == a1)))
set_option maxRecDepth 100000 in
set_option maxHeartbeats 2000000 in
theorem Z0_walk {a0 : Bs} {a1 : Bs}   {r : Bool} (hE : Z0 a0 a1 = some r) (H : Heap)  : ACalls Tryd.prog 84 [.d (.str a0), .d (.str a1)] H fun v h' => v = .a (.d (.bool r)) ∧ h' = H := by
 unfold Z0 at hE
 refine ACalls.of_wp (fn := Tryd.f84) (c := _) Tryd.tab_ok (fun _ _ => Tryd.call84 _ _) Tryd.func84 rfl (n := 18) rfl (rs := [.tmp 4]) rfl rfl ?_
 refine AWp.seqK fun K1 hK1 => ?_
 refine AWp.region ?_
 refine AOps.s0 (Cert.assign (by conv => lhs; whnf)) rfl ?_
 refine AOps.nil ?_
 refine hK1 _ ?_
 clear hK1 K1
 refine AWp.seqK fun K2 hK2 => ?_
 refine AWp.region ?_
 refine AOps.s0 (Cert.move (by conv => lhs; whnf)) rfl ?_
 refine AOps.sLenS (TK rfl) rfl rfl rfl rfl fun hL3 => ?_
 refine AOps.s0 (Cert.move (by conv => lhs; whnf)) rfl ?_
 refine AOps.sLenS (TK rfl) rfl rfl rfl rfl fun hL4 => ?_
 refine AOps.s0 (Cert.binI rfl rfl rfl) rfl ?_
 refine AOps.s0 (Cert.move (by conv => lhs; whnf)) rfl ?_
 refine AOps.gC rfl rfl (fun hC => Cert.move (by conv => lhs; whnf)) rfl ?_
 refine AOps.gC rfl rfl (fun hC => Cert.move (by conv => lhs; whnf)) rfl ?_
 refine AOps.gC rfl rfl (fun hC => Cert.ungd (k := 12) rfl (by first | exact hC | exact andL hC | exact andL (andL hC) | exact andL (andL (andL hC)) | exact andR hC | simp_all) (Cert.lenS (TK rfl) rfl rfl rfl)) rfl ?_
 obtain ⟨x5, gx5, hE⟩ := guardO_some hE
 refine AOps.gC rfl rfl (fun hC => Cert.ungd (k := 11) rfl (by first | exact hC | exact andL hC | exact andL (andL hC) | exact andL (andL (andL hC)) | exact andR hC | simp_all) (Cert.ungd (k := 13) rfl (by first | exact hC | exact andL hC | exact andL (andL hC) | exact andL (andL (andL hC)) | exact andR hC | simp_all) (Cert.cutM (l := none) (r := (some ((a1.length : Nat) : Int))) (TK rfl) rfl rfl trivial rfl (by simp) (gx5 hC)))) rfl ?_
 refine AOps.gC rfl rfl (fun hC => Cert.move (by conv => lhs; whnf)) rfl ?_
 refine AOps.gC rfl rfl (fun hC => Cert.ungd (k := 14) rfl (by first | exact hC | exact andL hC | exact andL (andL hC) | exact andL (andL (andL hC)) | exact andR hC | simp_all) (Cert.ungd (k := 15) rfl (by first | exact hC | exact andL hC | exact andL (andL hC) | exact andL (andL (andL hC)) | exact andR hC | simp_all) (Cert.binS rfl rfl rfl))) rfl ?_
 refine AOps.s0 (Cert.pickAnd rfl rfl (fun h => by first | exact h | exact notT h | exact andI hC h | exact andI hC (notT h) | simp_all) rfl) rfl ?_
 refine AOps.s0 (Cert.assign (by conv => lhs; whnf)) rfl ?_
 refine AOps.nil ?_
 refine hK2 _ ?_
 clear hK2 K2
 refine AWp.ret ?_
 repeat (first | refine xBlock_ret ?_ | refine xThen_ret ?_)
 obtain rfl := Option.some.inj hE
 refine retQ.retF H rfl ⟨rfl, rfl⟩ ?_
 exact (fun _ _ h => h)
def Z29 (a0 : Bs) (a1 : Bs) : Option Bool := (Z0 a0 a1).bind fun x3 => some x3
set_option maxRecDepth 100000 in
set_option maxHeartbeats 2000000 in
theorem Z29_walk {a0 : Bs} {a1 : Bs}   {r : Bool} (hE : Z29 a0 a1 = some r) (H : Heap)  : ACalls Tryd.prog 55 [.d (.str a0), .d (.str a1)] H fun v h' => v = .a (.d (.bool r)) ∧ h' = H := by
 unfold Z29 at hE
 refine ACalls.of_wp (fn := Tryd.f55) (c := _) Tryd.tab_ok (fun _ _ => Tryd.call55 _ _) Tryd.func55 rfl (n := 8) rfl (rs := [.tmp 4]) rfl rfl ?_
 refine AWp.seqK fun K1 hK1 => ?_
 refine AWp.region ?_
 refine AOps.s0 (Cert.assign (by conv => lhs; whnf)) rfl ?_
 refine AOps.nil ?_
 refine hK1 _ ?_
 clear hK1 K1
 refine AWp.seqK fun K2 hK2 => ?_
 refine AWp.region ?_
 refine AOps.s0 (Cert.move (by conv => lhs; whnf)) rfl ?_
 refine AOps.s0 (Cert.move (by conv => lhs; whnf)) rfl ?_
 obtain ⟨x3, gx3, hE⟩ := bindO_some hE
 refine AOps.s0 (Cert.callP rfl rfl (fun H => Z0_walk gx3 H)) rfl ?_
 refine AOps.s0 (Cert.assign (by conv => lhs; whnf)) rfl ?_
 refine AOps.nil ?_
 refine hK2 _ ?_
 clear hK2 K2
 refine AWp.ret ?_
 repeat (first | refine xBlock_ret ?_ | refine xThen_ret ?_)
 obtain rfl := Option.some.inj hE
 refine retQ.retF H rfl ⟨rfl, rfl⟩ ?_
 exact (fun _ _ h => h)
def Z45_j2  (s1_3 : Int) : Option Int := some s1_3
def Z45_l5 (a0 : Bs) (a2 : (Int → Option Bool))  : Nat → Int → Option Int
 | 0, _ => none
 | n5 + 1, s1_6 => guardO ((decide (s1_6 < ((a0.length : Nat) : Int)))) (idxC a0 s1_6) (0 : UInt8) fun x10 => guardO ((decide (s1_6 < ((a0.length : Nat) : Int)))) (a2 (IntKind.wrap .i32 ((x10.toNat : Nat) : Int))) false fun x11 => bif ((decide (s1_6 < ((a0.length : Nat) : Int))) && x11) then ((addC s1_6 (1 : Int)).bind fun x13 => (Z45_l5 a0 a2 n5) x13) else (Z45_j2   s1_6)
def Z45 (a0 : Bs) (a1 : Int) (a2 : (Int → Option Bool)) : Option Int := Z45_l5 a0 a2 F0 a1
set_option maxRecDepth 100000 in
set_option maxHeartbeats 2000000 in
theorem Z45_walk {a0 : Bs} {a1 : Int} {a2 : (Int → Option Bool)} {cl2 : List D} {k2 : Nat} {r : Int} (hE : Z45 a0 a1 a2 = some r) (H : Heap) (hf2 : ∀ x0 r, a2 x0 = some r → ∀ H, ACalls Tryd.prog k2 ([.d (.int .i32 x0)] ++ cl2.map A.d) H fun v h' => v = .a (.d (.bool r)) ∧ h' = H) : ACalls Tryd.prog 56 [.d (.str a0), .d (.int .i64 a1), .d (.func k2 cl2)] H fun v h' => v = .a (.d (.int .i64 r)) ∧ h' = H := by
 unfold Z45 at hE
 refine ACalls.of_wp (fn := Tryd.f56) (c := _) Tryd.tab_ok (fun _ _ => Tryd.call56 _ _) Tryd.func56 rfl (n := 22) rfl (rs := [.tmp 6]) rfl rfl ?_
 refine AWp.seqK fun K1 hK1 => ?_
 refine AWp.region ?_
 refine AOps.s0 (Cert.assign (by conv => lhs; whnf)) rfl ?_
 refine AOps.nil ?_
 refine hK1 _ ?_
 clear hK1 K1
 refine AWp.seqJH KeepsT.nil (fun (z : Int) => [(1, .a (.d (.int .i64 z)))]) (fun z => H) (fun z => Z45_j2 z = some r) ?_ ?_
 ·intro K2 hK2
  refine AWp.block ?_
  refine AWp.loopH (KeepsT.cons (k := 0) (by conv => lhs; whnf) (KeepsT.cons (k := 2) (by conv => lhs; whnf) KeepsT.nil)) (fun (z : Nat × Int) => [(1, .a (.d (.int .i64 z.2)))]) (fun z => H) (fun z => z.1) (fun z => Z45_l5 a0 a2 z.1 z.2 = some r) (F0, a1) hE Weak.toA ?_
  rintro ⟨n5, s1_6⟩ hE K5 hK5
  try dsimp only at hE
  cases n5 with
  | zero => cases hE
  | succ n5 =>
    rw [Z45_l5] at hE
    refine AWp.seqK fun K7 hK7 => ?_
    refine AWp.seqK fun K8 hK8 => ?_
    refine AWp.region ?_
    refine AOps.s0 (Cert.move (by conv => lhs; whnf)) rfl ?_
    refine AOps.s0 (Cert.move (by conv => lhs; whnf)) rfl ?_
    refine AOps.sLenS (TK rfl) rfl rfl rfl rfl fun hL9 => ?_
    refine AOps.s0 (Cert.binI rfl rfl rfl) rfl ?_
    refine AOps.s0 (Cert.move (by conv => lhs; whnf)) rfl ?_
    refine AOps.gC rfl rfl (fun hC => Cert.move (by conv => lhs; whnf)) rfl ?_
    refine AOps.gC rfl rfl (fun hC => Cert.move (by conv => lhs; whnf)) rfl ?_
    refine AOps.gC rfl rfl (fun hC => Cert.move (by conv => lhs; whnf)) rfl ?_
    obtain ⟨x10, gx10, hE⟩ := guardO_some hE
    refine AOps.gC rfl rfl (fun hC => Cert.ungd (k := 13) rfl (by first | exact hC | exact andL hC | exact andL (andL hC) | exact andL (andL (andL hC)) | exact andR hC | simp_all) (Cert.ungd (k := 14) rfl (by first | exact hC | exact andL hC | exact andL (andL hC) | exact andL (andL (andL hC)) | exact andR hC | simp_all) (Cert.idxS (TK rfl) rfl rfl rfl (gx10 hC)))) rfl ?_
    refine AOps.gC rfl rfl (fun hC => Cert.ungd (k := 15) rfl (by first | exact hC | exact andL hC | exact andL (andL hC) | exact andL (andL (andL hC)) | exact andR hC | simp_all) (Cert.convI (TK rfl) (TK rfl) rfl rfl)) rfl ?_
    obtain ⟨x11, gx11, hE⟩ := guardO_some hE
    refine AOps.gC rfl rfl (fun hC => Cert.ungd (k := 12) rfl (by first | exact hC | exact andL hC | exact andL (andL hC) | exact andL (andL (andL hC)) | exact andR hC | simp_all) (Cert.ungd (k := 16) rfl (by first | exact hC | exact andL hC | exact andL (andL hC) | exact andL (andL (andL hC)) | exact andR hC | simp_all) (Cert.callP rfl rfl (hf2 _ _ (gx11 hC))))) rfl ?_
    refine AOps.s0 (Cert.pickAnd rfl rfl (fun h => by first | exact h | exact notT h | exact andI hC h | exact andI hC (notT h) | simp_all) rfl) rfl ?_
    refine AOps.nil ?_
    refine hK8 _ ?_
    clear hK8 K8
    refine AWp.condE hE rfl (fun hc12 hE => ?_) (fun hc12 hE => ?_)
    ·refine AWp.skip ?_
     refine hK7 _ ?_
     clear hK7 K7
     refine AWp.block ?_
     refine AWp.region ?_
     refine AOps.s0 (Cert.move (by conv => lhs; whnf)) rfl ?_
     obtain ⟨x13, gx13, hE⟩ := bindO_some hE
     refine AOps.s0 (Cert.addM rfl rfl gx13) rfl ?_
     refine AOps.s0 (Cert.assign (by conv => lhs; whnf)) rfl ?_
     refine AOps.nil ?_
     exact hK5 _ (n5, x13) Weak.toA hE (Nat.lt_succ_self _)
    ·refine AWp.exit ?_
     exact hK2 _ s1_6 Weak.toA hE
 ·rintro s1_3 hE
  try dsimp only at hE
  unfold Z45_j2 at hE
  refine AWp.seqK fun K4 hK4 => ?_
  refine AWp.region ?_
  refine AOps.s0 (Cert.move (by conv => lhs; whnf)) rfl ?_
  refine AOps.s0 (Cert.assign (by conv => lhs; whnf)) rfl ?_
  refine AOps.nil ?_
  refine hK4 _ ?_
  clear hK4 K4
  refine AWp.ret ?_
  repeat (first | refine xBlock_ret ?_ | refine xThen_ret ?_)
  obtain rfl := Option.some.inj hE
  refine retQ.retF H rfl ⟨rfl, rfl⟩ ?_
  exact (fun _ _ h => h)
def Z41 (a0 : Int) : Option Bool := some (((((decide ((97 : Int) ≤ a0)) && (decide (a0 ≤ (122 : Int)))) || ((decide ((65 : Int) ≤ a0)) && (decide (a0 ≤ (90 : Int))))) || ((decide ((48 : Int) ≤ a0)) && (decide (a0 ≤ (57 : Int))))) || (decide (a0 = (95 : Int))))
set_option maxRecDepth 100000 in
set_option maxHeartbeats 2000000 in
theorem Z41_walk {a0 : Int}   {r : Bool} (hE : Z41 a0 = some r) (H : Heap)  : ACalls Tryd.prog 57 [.d (.int .i32 a0)] H fun v h' => v = .a (.d (.bool r)) ∧ h' = H := by
 unfold Z41 at hE
 refine ACalls.of_wp (fn := Tryd.f57) (c := _) Tryd.tab_ok (fun _ _ => Tryd.call57 _ _) Tryd.func57 rfl (n := 29) rfl (rs := [.tmp 2]) rfl rfl ?_
 refine AWp.seqK fun K1 hK1 => ?_
 refine AWp.region ?_
 refine AOps.s0 (Cert.assign (by conv => lhs; whnf)) rfl ?_
 refine AOps.nil ?_
 refine hK1 _ ?_
 clear hK1 K1
 refine AWp.seqK fun K2 hK2 => ?_
 refine AWp.region ?_
 refine AOps.s0 (Cert.move (by conv => lhs; whnf)) rfl ?_
 refine AOps.s0 (Cert.binI rfl rfl rfl) rfl ?_
 refine AOps.s0 (Cert.move (by conv => lhs; whnf)) rfl ?_
 refine AOps.gC rfl rfl (fun hC => Cert.move (by conv => lhs; whnf)) rfl ?_
 refine AOps.gC rfl rfl (fun hC => Cert.ungd (k := 6) rfl (by first | exact hC | exact andL hC | exact andL (andL hC) | exact andL (andL (andL hC)) | exact andR hC | simp_all) (Cert.binI rfl rfl rfl)) rfl ?_
 refine AOps.s0 (Cert.pickAnd rfl rfl (fun h => by first | exact h | exact notT h | exact andI hC h | exact andI hC (notT h) | simp_all) rfl) rfl ?_
 refine AOps.s0 (Cert.move (by conv => lhs; whnf)) rfl ?_
 refine AOps.gC rfl rfl (fun hC => Cert.move (by conv => lhs; whnf)) rfl ?_
 refine AOps.gC rfl rfl (fun hC => Cert.ungd (k := 10) rfl (by first | exact hC | exact andL hC | exact andL (andL hC) | exact andL (andL (andL hC)) | exact andR hC | simp_all) (Cert.binI rfl rfl rfl)) rfl ?_
 refine AOps.gC rfl rfl (fun hC => Cert.ungd (k := 11) rfl (by first | exact hC | exact andL hC | exact andL (andL hC) | exact andL (andL (andL hC)) | exact andR hC | simp_all) (Cert.move (by conv => lhs; whnf))) rfl ?_
 refine AOps.gC rfl rfl (fun hC => Cert.move (by conv => lhs; whnf)) rfl ?_
 refine AOps.gC rfl rfl (fun hC => Cert.ungd (k := 13) rfl (by first | exact hC | exact andL hC | exact andL (andL hC) | exact andL (andL (andL hC)) | exact andR hC | simp_all) (Cert.binI rfl rfl rfl)) rfl ?_
 refine AOps.gC rfl rfl (fun hC => Cert.ungd (k := 12) rfl (by first | exact hC | exact andL hC | exact andL (andL hC) | exact andL (andL (andL hC)) | exact andR hC | simp_all) (Cert.pickAnd rfl rfl (fun h => by first | exact h | exact notT h | exact andI hC h | exact andI hC (notT h) | simp_all) rfl)) rfl ?_
 refine AOps.s0 (Cert.pickOr rfl rfl rfl (fun h => by first | exact h | exact notT h | exact andI hC h | exact andI hC (notT h) | simp_all)) rfl ?_
 refine AOps.s0 (Cert.move (by conv => lhs; whnf)) rfl ?_
 refine AOps.gC rfl rfl (fun hC => Cert.move (by conv => lhs; whnf)) rfl ?_
 refine AOps.gC rfl rfl (fun hC => Cert.ungd (k := 18) rfl (by first | exact hC | exact andL hC | exact andL (andL hC) | exact andL (andL (andL hC)) | exact andR hC | simp_all) (Cert.binI rfl rfl rfl)) rfl ?_
 refine AOps.gC rfl rfl (fun hC => Cert.ungd (k := 19) rfl (by first | exact hC | exact andL hC | exact andL (andL hC) | exact andL (andL (andL hC)) | exact andR hC | simp_all) (Cert.move (by conv => lhs; whnf))) rfl ?_
 refine AOps.gC rfl rfl (fun hC => Cert.move (by conv => lhs; whnf)) rfl ?_
 refine AOps.gC rfl rfl (fun hC => Cert.ungd (k := 21) rfl (by first | exact hC | exact andL hC | exact andL (andL hC) | exact andL (andL (andL hC)) | exact andR hC | simp_all) (Cert.binI rfl rfl rfl)) rfl ?_
 refine AOps.gC rfl rfl (fun hC => Cert.ungd (k := 20) rfl (by first | exact hC | exact andL hC | exact andL (andL hC) | exact andL (andL (andL hC)) | exact andR hC | simp_all) (Cert.pickAnd rfl rfl (fun h => by first | exact h | exact notT h | exact andI hC h | exact andI hC (notT h) | simp_all) rfl)) rfl ?_
 refine AOps.s0 (Cert.pickOr rfl rfl rfl (fun h => by first | exact h | exact notT h | exact andI hC h | exact andI hC (notT h) | simp_all)) rfl ?_
 refine AOps.s0 (Cert.move (by conv => lhs; whnf)) rfl ?_
 refine AOps.gC rfl rfl (fun hC => Cert.move (by conv => lhs; whnf)) rfl ?_
 refine AOps.gC rfl rfl (fun hC => Cert.ungd (k := 26) rfl (by first | exact hC | exact andL hC | exact andL (andL hC) | exact andL (andL (andL hC)) | exact andR hC | simp_all) (Cert.binI rfl rfl rfl)) rfl ?_
 refine AOps.s0 (Cert.pickOr rfl rfl rfl (fun h => by first | exact h | exact notT h | exact andI hC h | exact andI hC (notT h) | simp_all)) rfl ?_
 refine AOps.s0 (Cert.assign (by conv => lhs; whnf)) rfl ?_
 refine AOps.nil ?_
 refine hK2 _ ?_
 clear hK2 K2
 refine AWp.ret ?_
 repeat (first | refine xBlock_ret ?_ | refine xThen_ret ?_)
 obtain rfl := Option.some.inj hE
 refine retQ.retF H rfl ⟨rfl, rfl⟩ ?_
 exact (fun _ _ h => h)
def Z1 (a0 : Bs) (a1 : Bs) : Option Bs := (Z0 a0 a1).bind fun x4 => bif x4 then ((cutC a0 (some ((a1.length : Nat) : Int)) none).bind fun x8 => some x8) else (some a0)
set_option maxRecDepth 100000 in
set_option maxHeartbeats 2000000 in
theorem Z1_walk {a0 : Bs} {a1 : Bs}   {r : Bs} (hE : Z1 a0 a1 = some r) (H : Heap)  : ACalls Tryd.prog 99 [.d (.str a0), .d (.str a1)] H fun v h' => v = .a (.d (.str r)) ∧ h' = H := by
 unfold Z1 at hE
 refine ACalls.of_wp (fn := Tryd.f99) (c := _) Tryd.tab_ok (fun _ _ => Tryd.call99 _ _) Tryd.func99 rfl (n := 13) rfl (rs := [.tmp 4]) rfl rfl ?_
 refine AWp.seqK fun K1 hK1 => ?_
 refine AWp.region ?_
 refine AOps.s0 (Cert.assign (by conv => lhs; whnf)) rfl ?_
 refine AOps.nil ?_
 refine hK1 _ ?_
 clear hK1 K1
 refine AWp.seqK fun K2 hK2 => ?_
 refine AWp.seqK fun K3 hK3 => ?_
 refine AWp.region ?_
 refine AOps.s0 (Cert.move (by conv => lhs; whnf)) rfl ?_
 refine AOps.s0 (Cert.move (by conv => lhs; whnf)) rfl ?_
 obtain ⟨x4, gx4, hE⟩ := bindO_some hE
 refine AOps.s0 (Cert.callP rfl rfl (fun H => Z0_walk gx4 H)) rfl ?_
 refine AOps.nil ?_
 refine hK3 _ ?_
 clear hK3 K3
 refine AWp.condE hE rfl (fun hc5 hE => ?_) (fun hc5 hE => ?_)
 ·refine AWp.seqK fun K6 hK6 => ?_
  refine AWp.region ?_
  refine AOps.s0 (Cert.move (by conv => lhs; whnf)) rfl ?_
  refine AOps.s0 (Cert.move (by conv => lhs; whnf)) rfl ?_
  refine AOps.sLenS (TK rfl) rfl rfl rfl rfl fun hL7 => ?_
  obtain ⟨x8, gx8, hE⟩ := bindO_some hE
  refine AOps.s0 (Cert.cutM (l := (some ((a1.length : Nat) : Int))) (r := none) (TK rfl) rfl rfl rfl trivial (by simp) gx8) rfl ?_
  refine AOps.s0 (Cert.assign (by conv => lhs; whnf)) rfl ?_
  refine AOps.nil ?_
  refine hK6 _ ?_
  clear hK6 K6
  refine AWp.ret ?_
  repeat (first | refine xBlock_ret ?_ | refine xThen_ret ?_)
  obtain rfl := Option.some.inj hE
  refine retQ.retF H rfl ⟨rfl, rfl⟩ ?_
  exact (fun _ _ h => h)
 ·refine AWp.skip ?_
  refine hK2 _ ?_
  clear hK2 K2
  refine AWp.seqK fun K9 hK9 => ?_
  refine AWp.region ?_
  refine AOps.s0 (Cert.move (by conv => lhs; whnf)) rfl ?_
  refine AOps.s0 (Cert.assign (by conv => lhs; whnf)) rfl ?_
  refine AOps.nil ?_
  refine hK9 _ ?_
  clear hK9 K9
  refine AWp.ret ?_
  repeat (first | refine xBlock_ret ?_ | refine xThen_ret ?_)
  obtain rfl := Option.some.inj hE
  refine retQ.retF H rfl ⟨rfl, rfl⟩ ?_
  exact (fun _ _ h => h)
def Z34 (a0 : Bs) (a1 : Bs) : Option Bs := (Z1 a0 a1).bind fun x3 => some x3
set_option maxRecDepth 100000 in
set_option maxHeartbeats 2000000 in
theorem Z34_walk {a0 : Bs} {a1 : Bs}   {r : Bs} (hE : Z34 a0 a1 = some r) (H : Heap)  : ACalls Tryd.prog 85 [.d (.str a0), .d (.str a1)] H fun v h' => v = .a (.d (.str r)) ∧ h' = H := by
 unfold Z34 at hE
 refine ACalls.of_wp (fn := Tryd.f85) (c := _) Tryd.tab_ok (fun _ _ => Tryd.call85 _ _) Tryd.func85 rfl (n := 8) rfl (rs := [.tmp 4]) rfl rfl ?_
 refine AWp.seqK fun K1 hK1 => ?_
 refine AWp.region ?_
 refine AOps.s0 (Cert.assign (by conv => lhs; whnf)) rfl ?_
 refine AOps.nil ?_
 refine hK1 _ ?_
 clear hK1 K1
 refine AWp.seqK fun K2 hK2 => ?_
 refine AWp.region ?_
 refine AOps.s0 (Cert.move (by conv => lhs; whnf)) rfl ?_
 refine AOps.s0 (Cert.move (by conv => lhs; whnf)) rfl ?_
 obtain ⟨x3, gx3, hE⟩ := bindO_some hE
 refine AOps.s0 (Cert.callP rfl rfl (fun H => Z1_walk gx3 H)) rfl ?_
 refine AOps.s0 (Cert.assign (by conv => lhs; whnf)) rfl ?_
 refine AOps.nil ?_
 refine hK2 _ ?_
 clear hK2 K2
 refine AWp.ret ?_
 repeat (first | refine xBlock_ret ?_ | refine xThen_ret ?_)
 obtain rfl := Option.some.inj hE
 refine retQ.retF H rfl ⟨rfl, rfl⟩ ?_
 exact (fun _ _ h => h)
section
variable [IsLoud lou]
def Tryd.lay86_ren : Go.Shelf.Ren := ⟨fun | 172 => 86 | 244 => 100 | 245 => 101 | 247 => 105 | 279 => 106 | 280 => 107 | 281 => 108 | 282 => 109 | 287 => 111 | 316 => 112 | 171 => 114 | 205 => 113 | 321 => 115 | 322 => 116 | 243 => 117 | 246 => 118 | 283 => 119 | 284 => 120 | 285 => 121 | 286 => 122 | 129 => 124 | 317 => 123 | 318 => 125 | 319 => 126 | 320 => 127 | 337 => 128 | 338 => 129 | n => n, fun | 9 => 9 | 3 => 3 | 75 => 70 | 76 => 84 | 4 => 4 | 5 => 5 | 167 => 111 | 37 => 33 | 0 => 0 | 85 => 112 | 2 => 2 | 168 => 114 | 53 => 117 | 175 => 118 | 46 => 86 | 210 => 121 | 127 => 91 | 145 => 126 | 143 => 124 | 21 => 21 | 171 => 128 | 173 => 131 | 212 => 134 | 51 => 135 | 20 => 20 | 213 => 136 | 232 => 139 | 233 => 140 | 80 => 72 | n => n, fun | 15 => 1 | 16 => 2 | 17 => 3 | 18 => 4 | 19 => 5 | n => n⟩
theorem Tryd.lay86 : Go.Proofs.LaysC.n172 Tryd.prog Tryd.lay86_ren := {
 mixed := by kernel_rfl
 f129 := Tryd.func124.trans (congrArg some (by kernel_rfl))
 f171 := Tryd.func114.trans (congrArg some (by kernel_rfl))
 f172 := Tryd.func86.trans (congrArg some (by kernel_rfl))
 f205 := Tryd.func113.trans (congrArg some (by kernel_rfl))
 f243 := Tryd.func117.trans (congrArg some (by kernel_rfl))
 f244 := Tryd.func100.trans (congrArg some (by kernel_rfl))
 f245 := Tryd.func101.trans (congrArg some (by kernel_rfl))
 f246 := Tryd.func118.trans (congrArg some (by kernel_rfl))
 f247 := Tryd.func105.trans (congrArg some (by kernel_rfl))
 f279 := Tryd.func106.trans (congrArg some (by kernel_rfl))
 f280 := Tryd.func107.trans (congrArg some (by kernel_rfl))
 f281 := Tryd.func108.trans (congrArg some (by kernel_rfl))
 f282 := Tryd.func109.trans (congrArg some (by kernel_rfl))
 f283 := Tryd.func119.trans (congrArg some (by kernel_rfl))
 f284 := Tryd.func120.trans (congrArg some (by kernel_rfl))
 f285 := Tryd.func121.trans (congrArg some (by kernel_rfl))
 f286 := Tryd.func122.trans (congrArg some (by kernel_rfl))
 f287 := Tryd.func111.trans (congrArg some (by kernel_rfl))
 f316 := Tryd.func112.trans (congrArg some (by kernel_rfl))
 f317 := Tryd.func123.trans (congrArg some (by kernel_rfl))
 f318 := Tryd.func125.trans (congrArg some (by kernel_rfl))
 f319 := Tryd.func126.trans (congrArg some (by kernel_rfl))
 f320 := Tryd.func127.trans (congrArg some (by kernel_rfl))
 f321 := Tryd.func115.trans (congrArg some (by kernel_rfl))
 f322 := Tryd.func116.trans (congrArg some (by kernel_rfl))
 f337 := Tryd.func128.trans (congrArg some (by kernel_rfl))
 f338 := Tryd.func129.trans (congrArg some (by kernel_rfl))
 t0 := Tryd.underlying0
 a0 := Tryd.isAgg0
 z0 := Tryd.sizeOf0
 v0 := Tryd.zeroValue0
 t2 := Tryd.underlying2
 a2 := Tryd.isAgg2
 z2 := Tryd.sizeOf2
 v2 := Tryd.zeroValue2
 t3 := Tryd.underlying3
 a3 := Tryd.isAgg3
 z3 := Tryd.sizeOf3
 v3 := Tryd.zeroValue3
 t4 := Tryd.underlying4
 a4 := Tryd.isAgg4
 z4 := Tryd.sizeOf4
 v4 := Tryd.zeroValue4
 t5 := Tryd.underlying5
 a5 := Tryd.isAgg5
 z5 := Tryd.sizeOf5
 v5 := Tryd.zeroValue5
 t9 := Tryd.underlying9
 a9 := Tryd.isAgg9
 z9 := Tryd.sizeOf9
 v9 := Tryd.zeroValue9
 t20 := Tryd.underlying20
 a20 := Tryd.isAgg20
 z20 := Tryd.sizeOf20
 v20 := Tryd.zeroValue20
 t21 := Tryd.underlying21
 a21 := Tryd.isAgg21
 z21 := Tryd.sizeOf21
 v21 := Tryd.zeroValue21
 t37 := Tryd.underlying33
 a37 := Tryd.isAgg33
 z37 := Tryd.sizeOf33
 v37 := Tryd.zeroValue33
 t46 := Tryd.underlying86
 a46 := Tryd.isAgg86
 z46 := Tryd.sizeOf86
 v46 := Tryd.zeroValue86
 t51 := Tryd.underlying135
 a51 := Tryd.isAgg135
 z51 := Tryd.sizeOf135
 v51 := Tryd.zeroValue135
 t53 := Tryd.underlying117
 a53 := Tryd.isAgg117
 z53 := Tryd.sizeOf117
 v53 := Tryd.zeroValue117
 t75 := Tryd.underlying70
 a75 := Tryd.isAgg70
 z75 := Tryd.sizeOf70
 v75 := Tryd.zeroValue70
 t76 := Tryd.underlying84
 a76 := Tryd.isAgg84
 z76 := Tryd.sizeOf84
 v76 := Tryd.zeroValue84
 t85 := Tryd.underlying112
 a85 := Tryd.isAgg112
 z85 := Tryd.sizeOf112
 v85 := Tryd.zeroValue112
 t127 := Tryd.underlying91
 a127 := Tryd.isAgg91
 z127 := Tryd.sizeOf91
 v127 := Tryd.zeroValue91
 t143 := Tryd.underlying124
 a143 := Tryd.isAgg124
 z143 := Tryd.sizeOf124
 v143 := Tryd.zeroValue124
 t145 := Tryd.underlying126
 a145 := Tryd.isAgg126
 z145 := Tryd.sizeOf126
 v145 := Tryd.zeroValue126
 t167 := Tryd.underlying111
 a167 := Tryd.isAgg111
 z167 := Tryd.sizeOf111
 v167 := Tryd.zeroValue111
 t168 := Tryd.underlying114
 a168 := Tryd.isAgg114
 z168 := Tryd.sizeOf114
 v168 := Tryd.zeroValue114
 t171 := Tryd.underlying128
 a171 := Tryd.isAgg128
 z171 := Tryd.sizeOf128
 v171 := Tryd.zeroValue128
 t173 := Tryd.underlying131
 a173 := Tryd.isAgg131
 z173 := Tryd.sizeOf131
 v173 := Tryd.zeroValue131
 t175 := Tryd.underlying118
 a175 := Tryd.isAgg118
 z175 := Tryd.sizeOf118
 v175 := Tryd.zeroValue118
 t210 := Tryd.underlying121
 a210 := Tryd.isAgg121
 z210 := Tryd.sizeOf121
 v210 := Tryd.zeroValue121
 t212 := Tryd.underlying134
 a212 := Tryd.isAgg134
 z212 := Tryd.sizeOf134
 v212 := Tryd.zeroValue134
 t213 := Tryd.underlying136
 a213 := Tryd.isAgg136
 z213 := Tryd.sizeOf136
 t232 := Tryd.underlying139
 a232 := Tryd.isAgg139
 z232 := Tryd.sizeOf139
 v232 := Tryd.zeroValue139
 t233 := Tryd.underlying140
 a233 := Tryd.isAgg140
 z233 := Tryd.sizeOf140
 v233 := Tryd.zeroValue140
 g15 := by kernel_rfl
 g16 := by kernel_rfl
 g17 := by kernel_rfl
 g18 := by kernel_rfl
 g19 := by kernel_rfl
 t80 := Tryd.underlying72
 a80 := Tryd.isAgg72
 z80 := Tryd.sizeOf72
 v80 := Tryd.zeroValue72
 i0 := by kernel_rfl
 i2 := by kernel_rfl
 i3 := by kernel_rfl
 i4 := by kernel_rfl
 i5 := by kernel_rfl
 i9 := by kernel_rfl
 i20 := by kernel_rfl
 i21 := by kernel_rfl
 i37 := by kernel_rfl
 i46 := by kernel_rfl
 i51 := by kernel_rfl
 i53 := by kernel_rfl
 i75 := by kernel_rfl
 i76 := by kernel_rfl
 i80 := by kernel_rfl
 i85 := by kernel_rfl
 i127 := by kernel_rfl
 i143 := by kernel_rfl
 i145 := by kernel_rfl
 i167 := by kernel_rfl
 i168 := by kernel_rfl
 i171 := by kernel_rfl
 i173 := by kernel_rfl
 i175 := by kernel_rfl
 i210 := by kernel_rfl
 i212 := by kernel_rfl
 i232 := by kernel_rfl
 i233 := by kernel_rfl
 m15 := by kernel_rfl
 m16 := by kernel_rfl
 m17 := by kernel_rfl
 m18 := by kernel_rfl
 m19 := by kernel_rfl
 c0 := by kernel_rfl
 c2 := by kernel_rfl
 c3 := by kernel_rfl
 c4 := by kernel_rfl
 c5 := by kernel_rfl
 c9 := by kernel_rfl
 c20 := by kernel_rfl
 c21 := by kernel_rfl
 c37 := by kernel_rfl
 c46 := by kernel_rfl
 c51 := by kernel_rfl
 c53 := by kernel_rfl
 c75 := by kernel_rfl
 c76 := by kernel_rfl
 c80 := by kernel_rfl
 c85 := by kernel_rfl
 c127 := by kernel_rfl
 c143 := by kernel_rfl
 c145 := by kernel_rfl
 c167 := by kernel_rfl
 c168 := by kernel_rfl
 c171 := by kernel_rfl
 c173 := by kernel_rfl
 c175 := by kernel_rfl
 c210 := by kernel_rfl
 c212 := by kernel_rfl
 c213 := by kernel_rfl
 c232 := by kernel_rfl
 c233 := by kernel_rfl }
def Z23 (s : Bs) : Option (Int × Bool) := atoiC s
def Z23_q (s : Bs) : Option (Int × Bool) := Z23 s
theorem Z23_eq (s : Bs) : Z23 s = Z23_q s := rfl
theorem Z23_walk {a0 : Bs} {oE : Ab.Obj} {gE : Nat} {r : Int × Bool} (hE : Z23 a0 = some r) (H : Heap) (hgE : H gE = some oE) (hoE : IsErr Tryd.prog oE) : ACalls Tryd.prog 86 [.d (.str a0)] H fun v h' => v = .tup [.d (.int .i64 r.1), .d (errE 114 r.2)] ∧ h' = H := atoi_calls Tryd.lay86 hE rfl rfl hgE hoE
end
end Go.Proofs

namespace Go.Proofs
open Go Go.Ab
variable {lou : Lou}
section
variable [IsLoud lou]
def Z35_j9 (a0 : Bs)   : Option (Int × Int) := (Z23 a0).bind fun x11 => bif x11.2 then (some ((0 : Int), (4 : Int))) else (some (x11.1, (0 : Int)))
def Z35_l19 (a0 : Bs) (x3 : Bs)  : Nat → Nat → Option (Int × Int)
 | 0, _ => none
 | n19 + 1, s29_20 => bif (decide (((s29_20 : Nat) : Int) < ((x3.length : Nat) : Int))) then ((x3[s29_20]?).bind fun x27 => guardO (!(decide (((x27.toNat : Nat) : Int) < (48 : Int)))) (x3[s29_20]?) (0 : UInt8) fun x28 => bif ((decide (((x27.toNat : Nat) : Int) < (48 : Int))) || (decide ((57 : Int) < ((x28.toNat : Nat) : Int)))) then (some ((0 : Int), (3 : Int))) else ((Z35_l19 a0 x3 n19) (s29_20 + 1))) else (Z35_j9 a0  )
def Z35 (a0 : Bs) : Option (Int × Int) := (Z34 a0 ([45] : Bs)).bind fun x3 => guardO (!((x3 == ([] : Bs)))) (x3[0]?) (0 : UInt8) fun x6 => bif (((x3 == ([] : Bs))) || ((decide (((x6.toNat : Nat) : Int) = (48 : Int))) && ((decide ((1 : Int) < ((x3.length : Nat) : Int))) || (decide ((1 : Int) < ((a0.length : Nat) : Int)))))) then (some ((0 : Int), (3 : Int))) else (Z35_l19 a0 x3 (x3.length + 1) 0)
set_option maxRecDepth 100000 in
set_option maxHeartbeats 2000000 in
theorem Z35_walk {a0 : Bs} {oE : Ab.Obj} {gE : Nat} {r : (Int × Int)} (hE : Z35 a0 = some r) (H : Heap) (hgE : H gE = some oE) (hoE : IsErr Tryd.prog oE) : ACalls Tryd.prog 58 [.d (.str a0)] H fun v h' => v = .tup [.d (.int .i64 r.1), .d (.int .i64 r.2)] ∧ h' = H := by
 unfold Z35 at hE
 refine ACalls.of_wp (fn := Tryd.f58) (c := _) Tryd.tab_ok (fun _ _ => Tryd.call58 _ _) Tryd.func58 rfl (n := 51) rfl (rs := [.tmp 2, .tmp 3]) rfl rfl ?_
 refine AWp.seqK fun K1 hK1 => ?_
 refine AWp.region ?_
 refine AOps.s0 (Cert.assign (by conv => lhs; whnf)) rfl ?_
 refine AOps.s0 (Cert.assign (by conv => lhs; whnf)) rfl ?_
 refine AOps.nil ?_
 refine hK1 _ ?_
 clear hK1 K1
 refine AWp.seqK fun K2 hK2 => ?_
 refine AWp.region ?_
 refine AOps.s0 (Cert.move (by conv => lhs; whnf)) rfl ?_
 obtain ⟨x3, gx3, hE⟩ := bindO_some hE
 refine AOps.s0 (Cert.callP rfl rfl (fun H => Z34_walk gx3 H)) rfl ?_
 refine AOps.s0 (Cert.assign (by conv => lhs; whnf)) rfl ?_
 refine AOps.nil ?_
 refine hK2 _ ?_
 clear hK2 K2
 refine AWp.seqK fun K4 hK4 => ?_
 refine AWp.seqK fun K5 hK5 => ?_
 refine AWp.region ?_
 refine AOps.s0 (Cert.move (by conv => lhs; whnf)) rfl ?_
 refine AOps.s0 (Cert.binS rfl rfl rfl) rfl ?_
 refine AOps.s0 (Cert.move (by conv => lhs; whnf)) rfl ?_
 refine AOps.gC rfl rfl (fun hC => Cert.move (by conv => lhs; whnf)) rfl ?_
 obtain ⟨x6, gx6, hE⟩ := guardO_some hE
 refine AOps.gC rfl rfl (fun hC => Cert.ungd (k := 13) rfl (by first | exact hC | exact andL hC | exact andL (andL hC) | exact andL (andL (andL hC)) | exact andR hC | simp_all) (Cert.idxSn (n := 0) (TK rfl) rfl rfl rfl (gx6 hC))) rfl ?_
 refine AOps.gC rfl rfl (fun hC => Cert.ungd (k := 14) rfl (by first | exact hC | exact andL hC | exact andL (andL hC) | exact andL (andL (andL hC)) | exact andR hC | simp_all) (Cert.binI rfl rfl rfl)) rfl ?_
 refine AOps.gC rfl rfl (fun hC => Cert.ungd (k := 15) rfl (by first | exact hC | exact andL hC | exact andL (andL hC) | exact andL (andL (andL hC)) | exact andR hC | simp_all) (Cert.move (by conv => lhs; whnf))) rfl ?_
 refine AOps.gC rfl rfl (fun hC => Cert.move (by conv => lhs; whnf)) rfl ?_
 refine AOps.gC rfl rfl (fun hC => Cert.ungd (k := 17) rfl (by first | exact hC | exact andL hC | exact andL (andL hC) | exact andL (andL (andL hC)) | exact andR hC | simp_all) (Cert.lenS (TK rfl) rfl rfl rfl)) rfl ?_
 refine AOps.gC rfl rfl (fun hC => Cert.ungd (k := 18) rfl (by first | exact hC | exact andL hC | exact andL (andL hC) | exact andL (andL (andL hC)) | exact andR hC | simp_all) (Cert.binI rfl rfl rfl)) rfl ?_
 refine AOps.gC rfl rfl (fun hC => Cert.ungd (k := 19) rfl (by first | exact hC | exact andL hC | exact andL (andL hC) | exact andL (andL (andL hC)) | exact andR hC | simp_all) (Cert.move (by conv => lhs; whnf))) rfl ?_
 refine AOps.gC rfl rfl (fun hC => Cert.move (by conv => lhs; whnf)) rfl ?_
 refine AOps.gC rfl rfl (fun hC => Cert.ungd (k := 21) rfl (by first | exact hC | exact andL hC | exact andL (andL hC) | exact andL (andL (andL hC)) | exact andR hC | simp_all) (Cert.lenS (TK rfl) rfl rfl rfl)) rfl ?_
 refine AOps.gC rfl rfl (fun hC => Cert.ungd (k := 22) rfl (by first | exact hC | exact andL hC | exact andL (andL hC) | exact andL (andL (andL hC)) | exact andR hC | simp_all) (Cert.binI rfl rfl rfl)) rfl ?_
 refine AOps.gC rfl rfl (fun hC => Cert.ungd (k := 20) rfl (by first | exact hC | exact andL hC | exact andL (andL hC) | exact andL (andL (andL hC)) | exact andR hC | simp_all) (Cert.pickOr rfl rfl rfl (fun h => by first | exact h | exact notT h | exact andI hC h | exact andI hC (notT h) | simp_all))) rfl ?_
 refine AOps.gC rfl rfl (fun hC => Cert.ungd (k := 16) rfl (by first | exact hC | exact andL hC | exact andL (andL hC) | exact andL (andL (andL hC)) | exact andR hC | simp_all) (Cert.pickAnd rfl rfl (fun h => by first | exact h | exact notT h | exact andI hC h | exact andI hC (notT h) | simp_all) rfl)) rfl ?_
 refine AOps.s0 (Cert.pickOr rfl rfl rfl (fun h => by first | exact h | exact notT h | exact andI hC h | exact andI hC (notT h) | simp_all)) rfl ?_
 refine AOps.nil ?_
 refine hK5 _ ?_
 clear hK5 K5
 refine AWp.condE hE rfl (fun hc7 hE => ?_) (fun hc7 hE => ?_)
 ·refine AWp.seqK fun K8 hK8 => ?_
  refine AWp.region ?_
  refine AOps.s0 (Cert.assign (by conv => lhs; whnf)) rfl ?_
  refine AOps.s0 (Cert.assign (by conv => lhs; whnf)) rfl ?_
  refine AOps.nil ?_
  refine hK8 _ ?_
  clear hK8 K8
  refine AWp.ret ?_
  repeat (first | refine xBlock_ret ?_ | refine xThen_ret ?_)
  obtain rfl := Option.some.inj hE
  refine retQ.retF H rfl ⟨rfl, rfl⟩ ?_
  exact (fun _ _ h => h)
 ·refine AWp.skip ?_
  refine hK4 _ ?_
  clear hK4 K4
  refine AWp.seqJH (KeepsT.cons (k := 0) (by conv => lhs; whnf) KeepsT.nil) (fun (z : Unit) => []) (fun z => H) (fun z => Z35_j9 a0  = some r) ?_ ?_
  ·intro K9 hK9
   refine AWp.seqK fun K17 hK17 => ?_
   refine AWp.region ?_
   refine AOps.s0 (Cert.move (by conv => lhs; whnf)) rfl ?_
   refine AOps.sLenS (TK rfl) rfl rfl rfl rfl fun hL18 => ?_
   refine AOps.s0 (Cert.move (by conv => lhs; whnf)) rfl ?_
   refine AOps.nil ?_
   refine hK17 _ ?_
   clear hK17 K17
   refine AWp.block ?_
   refine AWp.loopH (KeepsT.cons (k := 0) (by conv => lhs; whnf) (KeepsT.cons (k := 4) (by conv => lhs; whnf) (KeepsT.cons (k := 28) (by conv => lhs; whnf) KeepsT.nil))) (fun (z : Nat × Nat) => [(29, .a (.d (.int .i64 ((z.2 : Nat) : Int))))]) (fun z => H) (fun z => z.1) (fun z => Z35_l19 a0 x3 z.1 z.2 = some r) ((x3.length + 1), 0) hE Weak.toA ?_
   rintro ⟨n19, s29_20⟩ hE K19 hK19
   try dsimp only at hE
   cases n19 with
   | zero => cases hE
   | succ n19 =>
     rw [Z35_l19] at hE
     refine AWp.seqK fun K21 hK21 => ?_
     refine AWp.region ?_
     refine AOps.s0 (Cert.binI rfl rfl rfl) rfl ?_
     refine AOps.nil ?_
     refine hK21 _ ?_
     clear hK21 K21
     refine AWp.seqK fun K22 hK22 => ?_
     refine AWp.condE hE rfl (fun hc23 hE => ?_) (fun hc23 hE => ?_)
     ·try dsimp only at hc23
      have hf23 := of_decide_eq_true hc23
      refine AWp.skip ?_
      refine hK22 _ ?_
      clear hK22 K22
      refine AWp.seqK fun K24 hK24 => ?_
      refine AWp.block ?_
      refine AWp.seqK fun K25 hK25 => ?_
      refine AWp.region ?_
      refine AOps.s0 (Cert.move (by conv => lhs; whnf)) rfl ?_
      refine AOps.s0 (Cert.assign (by conv => lhs; whnf)) rfl ?_
      refine AOps.nil ?_
      refine hK25 _ ?_
      clear hK25 K25
      refine AWp.seqK fun K26 hK26 => ?_
      refine AWp.region ?_
      refine AOps.s0 (Cert.move (by conv => lhs; whnf)) rfl ?_
      refine AOps.s0 (Cert.move (by conv => lhs; whnf)) rfl ?_
      obtain ⟨x27, gx27, hE⟩ := bindO_some hE
      refine AOps.s0 (Cert.idxSn (n := s29_20) (TK rfl) rfl rfl rfl gx27) rfl ?_
      refine AOps.s0 (Cert.binI rfl rfl rfl) rfl ?_
      refine AOps.s0 (Cert.move (by conv => lhs; whnf)) rfl ?_
      refine AOps.gC rfl rfl (fun hC => Cert.move (by conv => lhs; whnf)) rfl ?_
      refine AOps.gC rfl rfl (fun hC => Cert.move (by conv => lhs; whnf)) rfl ?_
      obtain ⟨x28, gx28, hE⟩ := guardO_some hE
      refine AOps.gC rfl rfl (fun hC => Cert.ungd (k := 37) rfl (by first | exact hC | exact andL hC | exact andL (andL hC) | exact andL (andL (andL hC)) | exact andR hC | simp_all) (Cert.ungd (k := 38) rfl (by first | exact hC | exact andL hC | exact andL (andL hC) | exact andL (andL (andL hC)) | exact andR hC | simp_all) (Cert.idxSn (n := s29_20) (TK rfl) rfl rfl rfl (gx28 hC)))) rfl ?_
      refine AOps.gC rfl rfl (fun hC => Cert.ungd (k := 39) rfl (by first | exact hC | exact andL hC | exact andL (andL hC) | exact andL (andL (andL hC)) | exact andR hC | simp_all) (Cert.binI rfl rfl rfl)) rfl ?_
      refine AOps.s0 (Cert.pickOr rfl rfl rfl (fun h => by first | exact h | exact notT h | exact andI hC h | exact andI hC (notT h) | simp_all)) rfl ?_
      refine AOps.nil ?_
      refine hK26 _ ?_
      clear hK26 K26
      refine AWp.condE hE rfl (fun hc29 hE => ?_) (fun hc29 hE => ?_)
      ·refine AWp.seqK fun K30 hK30 => ?_
       refine AWp.region ?_
       refine AOps.s0 (Cert.assign (by conv => lhs; whnf)) rfl ?_
       refine AOps.s0 (Cert.assign (by conv => lhs; whnf)) rfl ?_
       refine AOps.nil ?_
       refine hK30 _ ?_
       clear hK30 K30
       refine AWp.ret ?_
       repeat (first | refine xBlock_ret ?_ | refine xThen_ret ?_)
       obtain rfl := Option.some.inj hE
       refine retQ.retF H rfl ⟨rfl, rfl⟩ ?_
       exact (fun _ _ h => h)
      ·refine AWp.skip ?_
       refine hK24 _ ?_
       clear hK24 K24
       refine AWp.region ?_
       refine AOps.s0 (Cert.addI rfl rfl (by first | omega | (dsimp only; omega) | (simp at *; omega)) (by first | omega | (dsimp only; omega) | (simp at *; omega))) rfl ?_
       refine AOps.s0 (Cert.move (by conv => lhs; whnf)) rfl ?_
       refine AOps.nil ?_
       exact hK19 _ (n19, (s29_20 + 1)) Weak.toA hE (Nat.lt_succ_self _)
     ·refine AWp.exit ?_
      exact hK9 _ () Weak.toA hE
  ·rintro _ hE
   try dsimp only at hE
   unfold Z35_j9 at hE
   refine AWp.seqK fun K10 hK10 => ?_
   refine AWp.region ?_
   refine AOps.s0 (Cert.move (by conv => lhs; whnf)) rfl ?_
   obtain ⟨x11, gx11, hE⟩ := bindO_some hE
   refine AOps.s0 (Cert.callR rfl rfl (Z23_walk (gE := gE) (oE := oE) gx11 _ hpG (by assumption))) rfl ?_
   refine AOps.s0 (Cert.move (by conv => lhs; whnf)) rfl ?_
   refine AOps.s0 (Cert.extract rfl rfl) rfl ?_
   refine AOps.s0 (Cert.extract rfl rfl) rfl ?_
   refine AOps.s0 (Cert.assign (by conv => lhs; whnf)) rfl ?_
   refine AOps.s0 (Cert.assign (by conv => lhs; whnf)) rfl ?_
   refine AOps.nil ?_
   refine hK10 _ ?_
   clear hK10 K10
   refine AWp.seqK fun K12 hK12 => ?_
   refine AWp.seqK fun K13 hK13 => ?_
   refine AWp.region ?_
   refine AOps.s0 (Cert.move (by conv => lhs; whnf)) rfl ?_
   refine AOps.s0 (Cert.neErr (TK rfl) rfl rfl) rfl ?_
   refine AOps.nil ?_
   refine hK13 _ ?_
   clear hK13 K13
   refine AWp.condE hE rfl (fun hc14 hE => ?_) (fun hc14 hE => ?_)
   ·refine AWp.seqK fun K15 hK15 => ?_
    refine AWp.region ?_
    refine AOps.s0 (Cert.assign (by conv => lhs; whnf)) rfl ?_
    refine AOps.s0 (Cert.assign (by conv => lhs; whnf)) rfl ?_
    refine AOps.nil ?_
    refine hK15 _ ?_
    clear hK15 K15
    refine AWp.ret ?_
    repeat (first | refine xBlock_ret ?_ | refine xThen_ret ?_)
    obtain rfl := Option.some.inj hE
    refine retQ.retF H rfl ⟨rfl, rfl⟩ ?_
    exact (fun _ _ h => h)
   ·refine AWp.skip ?_
    refine hK12 _ ?_
    clear hK12 K12
    refine AWp.seqK fun K16 hK16 => ?_
    refine AWp.region ?_
    refine AOps.s0 (Cert.move (by conv => lhs; whnf)) rfl ?_
    refine AOps.s0 (Cert.assign (by conv => lhs; whnf)) rfl ?_
    refine AOps.s0 (Cert.assign (by conv => lhs; whnf)) rfl ?_
    refine AOps.nil ?_
    refine hK16 _ ?_
    clear hK16 K16
    refine AWp.ret ?_
    repeat (first | refine xBlock_ret ?_ | refine xThen_ret ?_)
    obtain rfl := Option.some.inj hE
    refine retQ.retF H rfl ⟨rfl, rfl⟩ ?_
    exact (fun _ _ h => h)
end
def token_litStep (sk : Bool) (c : Int) : Bool × Bool := bif sk then (true, false) else (!decide (c = (34 : Int)), decide (c = (92 : Int)))
def token_litSpan (s : Bs) : Nat → Int → Bool → Option (Int × Bool)
 | 0, _, _ => none
 | n + 1, i, sk => bif decide (i < ((s.length : Nat) : Int)) then ((idxC s i).bind fun x => bif (token_litStep sk (IntKind.wrap .i32 ((x.toNat : Nat) : Int))).1 then ((addC i (1 : Int)).bind fun i2 => token_litSpan s n i2 (token_litStep sk (IntKind.wrap .i32 ((x.toNat : Nat) : Int))).2) else some (i, (token_litStep sk (IntKind.wrap .i32 ((x.toNat : Nat) : Int))).2)) else some (i, sk)
def Z42 (a0 : Bs) (a1 : Int) : Option Int := (addC a1 (1 : Int)).bind fun x9 => (token_litSpan a0 F0 x9 false).bind fun x11 => bif decide (((a0.length : Nat) : Int) ≤ x11.1) then some (-1 : Int) else (addC x11.1 (1 : Int)).bind fun x17 => some x17
theorem gH_ {P : Program} {ops : Array Oper} {rest : List Oper} {Q : St → Prop} {n d gi dg : Nat} {op : Op} {ty : TypeId} {pos : String} {aft : Array Edge} {b want : Bool} {ts : Ts} {ls : List (List D)} {h h' : Heap} {v : V} (hg : (ops[gi]?).bind (·.dst) = some dg) (hb : get ts dg = .a (.d (.bool b))) (hw : b = want)
  (hs : Cert P ⟨some d, op, ty, pos, aft, some (gi, want)⟩ ts ls h { rh := true, wh := true } v ls h') (hd : Nat.blt d n = true) (hr : AOps P ops rest Q ⟨n, (d, v) :: ts, ls, h'⟩) : AOps P ops (⟨some d, op, ty, pos, aft, some (gi, want)⟩ :: rest) Q ⟨n, ts, ls, h⟩ :=
 AOps.stepW hs (guardOf_mk hg) hb hw hd hr
set_option maxRecDepth 100000 in
set_option maxHeartbeats 2000000 in
theorem token_lit1_walk {a0 : Int} {sk : Bool} {c1 : Nat} (H : Heap) (hc1 : H c1 = some (.cells [.bool sk])) : ACalls Tryd.prog 87 [.d (.int .i32 a0), .d (.ptr c1 0)] H fun v h' => v = .a (.d (.bool (token_litStep sk a0).1)) ∧ h' = H.set c1 (some (.cells [.bool (token_litStep sk a0).2])) := by
 refine ACalls.of_wp (fn := Tryd.f87) (c := _) Tryd.tab_ok (fun _ _ => Tryd.call87 _ _) Tryd.func87 rfl (n := 9) rfl (rs := [.tmp 3]) rfl rfl ?_
 refine AWp.seqK fun K1 hK1 => ?_
 refine AWp.region ?_
 refine AOps.s0 (Cert.assign (by conv => lhs; whnf)) rfl ?_
 refine AOps.nil ?_
 refine hK1 _ ?_
 clear hK1 K1
 cases sk with
 | true =>
  refine AWp.seqK fun K2 hK2 => ?_
  refine AWp.seqK fun K3 hK3 => ?_
  refine AWp.region ?_
  refine AOps.s0 (Cert.loadP (TK rfl) rfl rfl hc1 rfl) rfl ?_
  refine AOps.nil ?_
  refine hK3 _ ?_
  clear hK3 K3
  refine AWp.condT rfl rfl ?_
  refine AWp.seqK fun K4 hK4 => ?_
  refine AWp.region ?_
  refine AOps.sHn (Cert.storeP1 (TK rfl) rfl rfl hc1 rfl SetAt.zero) rfl rfl ?_
  refine AOps.nil ?_
  refine hK4 _ ?_
  clear hK4 K4
  refine AWp.seqK fun K5 hK5 => ?_
  refine AWp.region ?_
  refine AOps.s0 (Cert.assign (by conv => lhs; whnf)) rfl ?_
  refine AOps.nil ?_
  refine hK5 _ ?_
  clear hK5 K5
  refine AWp.ret ?_
  repeat (first | refine xBlock_ret ?_ | refine xThen_ret ?_)
  refine retQ.retF _ rfl ⟨rfl, rfl⟩ ?_
  exact (fun _ _ h => h)
 | false =>
  refine AWp.seqK fun K2 hK2 => ?_
  refine AWp.seqK fun K3 hK3 => ?_
  refine AWp.region ?_
  refine AOps.s0 (Cert.loadP (TK rfl) rfl rfl hc1 rfl) rfl ?_
  refine AOps.nil ?_
  refine hK3 _ ?_
  clear hK3 K3
  refine AWp.condF rfl rfl ?_
  refine AWp.skip ?_
  refine hK2 _ ?_
  clear hK2 K2
  refine AWp.seqK fun K4 hK4 => ?_
  refine AWp.region ?_
  refine AOps.s0 (Cert.move (by conv => lhs; whnf)) rfl ?_
  refine AOps.s0 (Cert.binI rfl rfl rfl) rfl ?_
  refine AOps.sHn (Cert.storeP1 (TK rfl) rfl rfl hc1 rfl SetAt.zero) rfl rfl ?_
  refine AOps.nil ?_
  refine hK4 _ ?_
  clear hK4 K4
  refine AWp.seqK fun K5 hK5 => ?_
  refine AWp.region ?_
  refine AOps.s0 (Cert.move (by conv => lhs; whnf)) rfl ?_
  refine AOps.s0 (Cert.binI rfl rfl rfl) rfl ?_
  refine AOps.s0 (Cert.assign (by conv => lhs; whnf)) rfl ?_
  refine AOps.nil ?_
  refine hK5 _ ?_
  clear hK5 K5
  refine AWp.ret ?_
  repeat (first | refine xBlock_ret ?_ | refine xThen_ret ?_)
  refine retQ.retF _ rfl ⟨rfl, rfl⟩ ?_
  exact (fun _ _ h => h)
set_option maxRecDepth 100000 in
set_option maxHeartbeats 2000000 in
theorem token_litSpan_walk {a0 : Bs} {a1 : Int} {sk : Bool} {c2 : Nat} {r : Int × Bool} (hE : token_litSpan a0 F0 a1 sk = some r) (H : Heap) (hc2 : H c2 = some (.cells [.bool sk])) :
  ACalls Tryd.prog 56 [.d (.str a0), .d (.int .i64 a1), .d (.func 87 [.ptr c2 0])] H fun v h' => v = .a (.d (.int .i64 r.1)) ∧ h' = H.set c2 (some (.cells [.bool r.2])) := by
 refine ACalls.of_wp (fn := Tryd.f56) (c := _) Tryd.tab_ok (fun _ _ => Tryd.call56 _ _) Tryd.func56 rfl (n := 22) rfl (rs := [.tmp 6]) rfl rfl ?_
 refine AWp.heqA (h' := H.set c2 (some (.cells [.bool sk]))) (Heap.set_self H c2 _ hc2).symm ?_
 refine AWp.seqK fun K1 hK1 => ?_
 refine AWp.region ?_
 refine AOps.s0 (Cert.assign (by conv => lhs; whnf)) rfl ?_
 refine AOps.nil ?_
 refine hK1 _ ?_
 clear hK1 K1
 refine AWp.seqJH KeepsT.nil (fun (z : Int × Bool) => [(1, .a (.d (.int .i64 z.1)))]) (fun z => H.set c2 (some (.cells [.bool z.2]))) (fun z => some z = some r) ?_ ?_
 ·intro K2 hK2
  refine AWp.block ?_
  refine AWp.loopH (KeepsT.cons (k := 0) (by conv => lhs; whnf) (KeepsT.cons (k := 2) (by conv => lhs; whnf) KeepsT.nil)) (fun (z : Nat × Int × Bool) => [(1, .a (.d (.int .i64 z.2.1)))]) (fun z => H.set c2 (some (.cells [.bool z.2.2]))) (fun z => z.1) (fun z => token_litSpan a0 z.1 z.2.1 z.2.2 = some r) (F0, a1, sk) hE Weak.toA ?_
  rintro ⟨n5, s1, sk1⟩ hE K5 hK5
  try dsimp only at hE
  cases n5 with
  | zero => cases hE
  | succ n5 =>
    rw [token_litSpan] at hE
    refine AWp.seqK fun K7 hK7 => ?_
    refine AWp.seqK fun K8 hK8 => ?_
    refine AWp.region ?_
    refine AOps.s0 (Cert.move (by conv => lhs; whnf)) rfl ?_
    refine AOps.s0 (Cert.move (by conv => lhs; whnf)) rfl ?_
    refine AOps.sLenS (TK rfl) rfl rfl rfl rfl fun hL9 => ?_
    refine AOps.s0 (Cert.binI rfl rfl rfl) rfl ?_
    refine AOps.s0 (Cert.move (by conv => lhs; whnf)) rfl ?_
    cases hC : decide (s1 < ((a0.length : Nat) : Int)) with
    | false =>
     rw [hC] at hE
     have e9 : r = (s1, sk1) := (Option.some.inj hE).symm
     subst e9
     refine AOps.gS rfl rfl rfl rfl ?_
     refine AOps.gS rfl rfl rfl rfl ?_
     refine AOps.gS rfl rfl rfl rfl ?_
     refine AOps.gS rfl rfl rfl rfl ?_
     refine AOps.gS rfl rfl rfl rfl ?_
     refine AOps.gS rfl rfl rfl rfl ?_
     refine AOps.s0 (Cert.pickF rfl rfl (by conv => lhs; whnf)) rfl ?_
     refine AOps.nil ?_
     refine hK8 _ ?_
     clear hK8 K8
     refine AWp.condF rfl rfl ?_
     refine AWp.exit ?_
     exact hK2 _ (s1, sk1) Weak.toA rfl
    | true =>
     rw [hC] at hE
     refine AOps.g0 rfl rfl rfl (Cert.move (by conv => lhs; whnf)) rfl ?_
     refine AOps.g0 rfl rfl rfl (Cert.move (by conv => lhs; whnf)) rfl ?_
     refine AOps.g0 rfl rfl rfl (Cert.move (by conv => lhs; whnf)) rfl ?_
     obtain ⟨x10, gx10, hE⟩ := bindO_some hE
     refine AOps.g0 rfl rfl rfl (Cert.idxS (TK rfl) rfl rfl rfl gx10) rfl ?_
     refine AOps.g0 rfl rfl rfl (Cert.convI (TK rfl) (TK rfl) rfl rfl) rfl ?_
     refine gH_ rfl rfl rfl (Cert.callH rfl rfl (token_lit1_walk _ (Heap.set_same ..))) rfl ?_
     rw [Heap.set_set]
     cases hR : (token_litStep sk1 (IntKind.wrap .i32 ((x10.toNat : Nat) : Int))).1 with
     | false =>
      rw [hR] at hE
      have e9 : r = _ := (Option.some.inj hE).symm
      subst e9
      refine AOps.s0 (Cert.pickT rfl rfl (by conv => lhs; whnf)) rfl ?_
      refine AOps.nil ?_
      refine hK8 _ ?_
      clear hK8 K8
      refine AWp.condF rfl rfl ?_
      refine AWp.exit ?_
      exact hK2 _ (s1, _) Weak.toA rfl
     | true =>
      rw [hR] at hE
      obtain ⟨x13, gx13, hE⟩ := bindO_some hE
      refine AOps.s0 (Cert.pickT rfl rfl (by conv => lhs; whnf)) rfl ?_
      refine AOps.nil ?_
      refine hK8 _ ?_
      clear hK8 K8
      refine AWp.condT rfl rfl ?_
      refine AWp.skip ?_
      refine hK7 _ ?_
      clear hK7 K7
      refine AWp.block ?_
      refine AWp.region ?_
      refine AOps.s0 (Cert.move (by conv => lhs; whnf)) rfl ?_
      refine AOps.s0 (Cert.addM rfl rfl gx13) rfl ?_
      refine AOps.s0 (Cert.assign (by conv => lhs; whnf)) rfl ?_
      refine AOps.nil ?_
      exact hK5 _ (n5, x13, _) Weak.toA hE (Nat.lt_succ_self _)
 ·rintro ⟨s1, sk1⟩ hE
  have e9 : r = (s1, sk1) := (Option.some.inj hE).symm
  subst e9
  refine AWp.seqK fun K4 hK4 => ?_
  refine AWp.region ?_
  refine AOps.s0 (Cert.move (by conv => lhs; whnf)) rfl ?_
  refine AOps.s0 (Cert.assign (by conv => lhs; whnf)) rfl ?_
  refine AOps.nil ?_
  refine hK4 _ ?_
  clear hK4 K4
  refine AWp.ret ?_
  repeat (first | refine xBlock_ret ?_ | refine xThen_ret ?_)
  refine retQ.retF _ rfl ⟨rfl, rfl⟩ ?_
  exact (fun _ _ h => h)
set_option maxRecDepth 100000 in
set_option maxHeartbeats 2000000 in
theorem Z42_walk {a0 : Bs} {a1 : Int} {r : Int} (hE : Z42 a0 a1 = some r) (H : Heap) : ACalls Tryd.prog 59 [.d (.str a0), .d (.int .i64 a1)] H fun v h' => v = .a (.d (.int .i64 r)) ∧ h' = H := by
 unfold Z42 at hE
 refine ACalls.of_wp (fn := Tryd.f59) (c := _) Tryd.tab_ok (fun _ _ => Tryd.call59 _ _) Tryd.func59 rfl (n := 18) rfl (rs := [.tmp 4]) rfl rfl ?_
 refine AWp.seqK fun K1 hK1 => ?_
 refine AWp.region ?_
 refine AOps.s0 (Cert.assign (by conv => lhs; whnf)) rfl ?_
 refine AOps.nil ?_
 refine hK1 _ ?_
 clear hK1 K1
 refine AWp.seqK fun K2 hK2 => ?_
 refine AWp.region ?_
 refine AOps.sE (StepE.allocO (TK rfl) rfl) rfl (fun _ _ _ ⟨id5, hid5, e1, e2, e3⟩ => ?_); subst e1 e2 e3
 refine AOps.sHn (Cert.storeP1 (TK rfl) rfl rfl (Heap.set_same ..) rfl SetAt.zero) rfl rfl ?_
 refine AOps.heq (h' := H.set id5 (some (.cells [.bool false]))) (by rw [Heap.set_set]) ?_
 refine AOps.nil ?_
 refine hK2 _ ?_
 clear hK2 K2
 refine AWp.seqK fun K3 hK3 => ?_
 refine AWp.region ?_
 refine AOps.s0 (Cert.move (by conv => lhs; whnf)) rfl ?_
 refine AOps.s0 (Cert.move (by conv => lhs; whnf)) rfl ?_
 obtain ⟨x9, gx9, hE⟩ := bindO_some hE
 refine AOps.s0 (Cert.addM rfl rfl gx9) rfl ?_
 refine AOps.s0 (Cert.makeFunc rfl) rfl ?_
 obtain ⟨x11, gx11, hE⟩ := bindO_some hE
 refine AOps.sH (Cert.callH rfl rfl (token_litSpan_walk gx11 _ (Heap.set_same ..))) rfl ?_
 refine AOps.heq (h' := H.set id5 (some (.cells [.bool x11.2]))) (by rw [Heap.set_set]) ?_
 refine AOps.s0 (Cert.assign (by conv => lhs; whnf)) rfl ?_
 refine AOps.nil ?_
 refine hK3 _ ?_
 clear hK3 K3
 refine AWp.seqK fun K4 hK4 => ?_
 refine AWp.seqK fun K5 hK5 => ?_
 refine AWp.region ?_
 refine AOps.s0 (Cert.move (by conv => lhs; whnf)) rfl ?_
 refine AOps.s0 (Cert.move (by conv => lhs; whnf)) rfl ?_
 refine AOps.sLenS (TK rfl) rfl rfl rfl rfl fun hL9 => ?_
 refine AOps.s0 (Cert.binI rfl rfl rfl) rfl ?_
 refine AOps.nil ?_
 refine hK5 _ ?_
 clear hK5 K5
 refine AWp.condE hE rfl (fun hc6 hE => ?_) (fun hc6 hE => ?_)
 ·obtain rfl := Option.some.inj hE
  refine AWp.seqK fun K6 hK6 => ?_
  refine AWp.region ?_
  refine AOps.s0 (Cert.assign (by conv => lhs; whnf)) rfl ?_
  refine AOps.nil ?_
  refine hK6 _ ?_
  clear hK6 K6
  refine AWp.ret ?_
  repeat (first | refine xBlock_ret ?_ | refine xThen_ret ?_)
  refine retQ.retF H rfl ⟨rfl, rfl⟩ ?_
  exact Heap.sub_set hid5
 ·refine AWp.skip ?_
  refine hK4 _ ?_
  clear hK4 K4
  refine AWp.seqK fun K6 hK6 => ?_
  refine AWp.region ?_
  refine AOps.s0 (Cert.move (by conv => lhs; whnf)) rfl ?_
  obtain ⟨x17, gx17, hE⟩ := bindO_some hE
  obtain rfl := Option.some.inj hE
  refine AOps.s0 (Cert.addM rfl rfl gx17) rfl ?_
  refine AOps.s0 (Cert.assign (by conv => lhs; whnf)) rfl ?_
  refine AOps.nil ?_
  refine hK6 _ ?_
  clear hK6 K6
  refine AWp.ret ?_
  repeat (first | refine xBlock_ret ?_ | refine xThen_ret ?_)
  refine retQ.retF H rfl ⟨rfl, rfl⟩ ?_
  exact Heap.sub_set hid5
def Tryd.lay79_ren : Go.Shelf.Ren := ⟨fun | 240 => 79 | 276 => 95 | n => n, fun | 0 => 0 | 4 => 4 | 9 => 9 | 20 => 20 | 70 => 66 | 72 => 68 | 164 => 104 | 37 => 33 | n => n, fun | n => n⟩
theorem Tryd.lay79 : Go.Proofs.Lays.n240 Tryd.prog Tryd.lay79_ren := {
 mixed := by kernel_rfl
 f240 := Tryd.func79.trans (congrArg some (by kernel_rfl))
 f276 := Tryd.func95.trans (congrArg some (by kernel_rfl))
 t0 := Tryd.underlying0
 a0 := Tryd.isAgg0
 z0 := Tryd.sizeOf0
 v0 := Tryd.zeroValue0
 t4 := Tryd.underlying4
 a4 := Tryd.isAgg4
 z4 := Tryd.sizeOf4
 v4 := Tryd.zeroValue4
 t9 := Tryd.underlying9
 a9 := Tryd.isAgg9
 z9 := Tryd.sizeOf9
 v9 := Tryd.zeroValue9
 t20 := Tryd.underlying20
 a20 := Tryd.isAgg20
 z20 := Tryd.sizeOf20
 v20 := Tryd.zeroValue20
 t70 := Tryd.underlying66
 a70 := Tryd.isAgg66
 z70 := Tryd.sizeOf66
 v70 := Tryd.zeroValue66
 t72 := Tryd.underlying68
 a72 := Tryd.isAgg68
 z72 := Tryd.sizeOf68
 v72 := Tryd.zeroValue68
 t164 := Tryd.underlying104
 a164 := Tryd.isAgg104
 z164 := Tryd.sizeOf104
 v164 := Tryd.zeroValue104 }
def Z27 (a0 : Strings_Builder) : Option Strings_Builder := some ⟨true, a0.Fbuf⟩
theorem Z27_walk {a0 : Strings_Builder} {c0 : Nat} {c0_1 : Nat} {r : Strings_Builder} (hE : Z27 a0 = some r) (H : Heap) (hc0 : H c0 = some (.tcells 68 (Strings_Builder.cg c0 (some c0_1) a0))) (ht0_1 : H c0_1 = some (.tok 1 a0.Fbuf.l.length (some 5))) : ACalls Tryd.prog 79 [.d (.ptr c0 0)] H fun v h' => v = .tup [] ∧ h' = ((H.set c0_1 (some (.tok 1 r.Fbuf.l.length (some 5)))).set c0 (some (.tcells 68 (Strings_Builder.cg c0 (some c0_1) r)))) := by
 obtain rfl := Option.some.inj hE
 refine (bld_check (T := 68) Tryd.lay79 ⟨by kernel_rfl, by kernel_rfl⟩ rfl rfl hc0).mono fun v h' e => ⟨e.1, ?_⟩
 rw [e.2]
 show _ = Heap.set (Heap.set H c0_1 _) _ _
 rw [Heap.set_self H c0_1 _ ht0_1]
def Z25 (a0 : Strings_Builder) (a1 : Int) : Option (Bool × Strings_Builder) := (Z27 a0).bind fun x3 => (appC 1 x3.Fbuf (⟨false, [a1]⟩ : Sl Int)).bind fun x5 => some (false, (Strings_Builder.mk x3.Faddr x5))
set_option maxRecDepth 100000 in
set_option maxHeartbeats 2000000 in
theorem Z25_walk {a0 : Strings_Builder} {a1 : Int}  {c0 : Nat} {c0_1 : Nat} {r : (Bool × Strings_Builder)} (hE : Z25 a0 a1 = some r) (H : Heap) (hc0 : H c0 = some (.tcells 68 (Strings_Builder.cg c0 (some c0_1) a0))) (ht0_1 : H c0_1 = some (.tok 1 a0.Fbuf.l.length (some 5))) : ACalls Tryd.prog 47 [.d (.ptr c0 0), .d (.int .u8 a1)] H fun v h' => v = .a (.d (errE 114 r.1)) ∧ h' = ((H.set c0_1 (some (.tok 1 r.2.Fbuf.l.length (some 5)))).set c0 (some (.tcells 68 (Strings_Builder.cg c0 (some c0_1) r.2)))) := by
 unfold Z25 at hE
 refine ACalls.of_wp (fn := Tryd.f47) (c := _) Tryd.tab_ok (fun _ _ => Tryd.call47 _ _) Tryd.func47 rfl (n := 17) rfl (rs := [.tmp 4]) rfl rfl ?_
 have ne_c0_c0_1 : c0 ≠ c0_1 := fun e_ => by subst e_; simp_all
 refine AWp.heqA (h' := ((H.set c0_1 (some (.tok 1 a0.Fbuf.l.length (some 5)))).set c0 (some (.tcells 68 (Strings_Builder.cg c0 (some c0_1) a0))))) (by funext n_; simp only [Heap.set]; (repeat' split) <;> simp_all) ?_
 refine AWp.seqK fun K1 hK1 => ?_
 refine AWp.region ?_
 refine AOps.s0 (Cert.assign (by conv => lhs; whnf)) rfl ?_
 refine AOps.nil ?_
 refine hK1 _ ?_
 clear hK1 K1
 refine AWp.seqK fun K2 hK2 => ?_
 refine AWp.region ?_
 refine AOps.s0 (Cert.move (by conv => lhs; whnf)) rfl ?_
 obtain ⟨x3, gx3, hE⟩ := bindO_some hE
 refine AOps.sH (Cert.callH rfl rfl (Z27_walk gx3 _ hpG hpG)) rfl ?_
 refine AOps.heq (h' := ((H.set c0_1 (some (.tok 1 x3.Fbuf.l.length (some 5)))).set c0 (some (.tcells 68 (Strings_Builder.cg c0 (some c0_1) x3))))) (by first | rfl | (rw [Heap.set_set]; rfl) | (funext n_; simp only [Heap.set]; (repeat' split) <;> first | rfl | (exfalso; simp_all; done) | (simp_all; done))) ?_
 refine AOps.nil ?_
 refine hK2 _ ?_
 clear hK2 K2
 refine AWp.seqK fun K4 hK4 => ?_
 refine AWp.region ?_
 refine AOps.s0 (Cert.move (by conv => lhs; whnf)) rfl ?_
 refine AOps.s0 (Cert.move (by conv => lhs; whnf)) rfl ?_
 refine AOps.s0 (Cert.nilP rfl) rfl ?_
 refine AOps.s0 (Cert.fieldP (TK rfl) rfl rfl (TK rfl) rfl rfl) rfl ?_
 refine AOps.s0 (Cert.loadPT (TK rfl) rfl rfl hpG rfl) rfl ?_
 refine AOps.s0 (Cert.move (by conv => lhs; whnf)) rfl ?_
 refine AOps.s0 (Cert.buildSlice (TK rfl) rfl (TK rfl) rfl rfl rfl rfl rfl rfl) rfl ?_
 obtain ⟨x5, gx5, hE⟩ := bindO_some hE
 refine AOps.sH (Cert.appMT (TK rfl) rfl (TK rfl) (TK rfl) ⟨_, rfl⟩ rfl rfl (by decide) rfl rfl rfl rfl hpG rfl rfl gx5) rfl ?_
 refine AOps.heq (h' := ((H.set c0_1 (some (.tok 1 x5.l.length (some 5)))).set c0 (some (.tcells 68 (Strings_Builder.cg c0 (some c0_1) x3))))) (by first | rfl | (rw [Heap.set_set]; rfl) | (funext n_; simp only [Heap.set]; (repeat' split) <;> first | rfl | (exfalso; simp_all; done) | (simp_all; done))) ?_
 refine AOps.s0 (Cert.nilP rfl) rfl ?_
 refine AOps.s0 (Cert.fieldP (TK rfl) rfl rfl (TK rfl) rfl rfl) rfl ?_
 refine AOps.sHn (Cert.storePT (TK rfl) rfl rfl hpG rfl (by repeat (first | exact SetAt.zero | apply SetAt.succ))) rfl rfl ?_
 refine AOps.heq (h' := ((H.set c0_1 (some (.tok 1 x5.l.length (some 5)))).set c0 (some (.tcells 68 (Strings_Builder.cg c0 (some c0_1) (Strings_Builder.mk x3.Faddr x5)))))) (by first | rfl | (rw [Heap.set_set]; rfl) | (funext n_; simp only [Heap.set]; (repeat' split) <;> first | rfl | (exfalso; simp_all; done) | (simp_all; done))) ?_
 refine AOps.nil ?_
 refine hK4 _ ?_
 clear hK4 K4
 refine AWp.seqK fun K6 hK6 => ?_
 refine AWp.region ?_
 refine AOps.s0 (Cert.assign (by conv => lhs; whnf)) rfl ?_
 refine AOps.nil ?_
 refine hK6 _ ?_
 clear hK6 K6
 refine AWp.ret ?_
 repeat (first | refine xBlock_ret ?_ | refine xThen_ret ?_)
 obtain rfl := Option.some.inj hE
 refine retQ.retF ((H.set c0_1 (some (.tok 1 x5.l.length (some 5)))).set c0 (some (.tcells 68 (Strings_Builder.cg c0 (some c0_1) (Strings_Builder.mk x3.Faddr x5))))) rfl ⟨rfl, rfl⟩ ?_
 exact (fun _ _ h => h)
def Tryd.lay48_ren : Go.Shelf.Ren := ⟨fun | 169 => 48 | n => n, fun | 70 => 66 | 9 => 9 | 0 => 0 | 72 => 68 | 37 => 33 | 127 => 91 | 3 => 3 | 5 => 5 | n => n, fun | n => n⟩
theorem Tryd.lay48 : Go.Proofs.Lays.n169 Tryd.prog Tryd.lay48_ren := {
 mixed := by kernel_rfl
 f169 := Tryd.func48.trans (congrArg some (by kernel_rfl))
 t0 := Tryd.underlying0
 a0 := Tryd.isAgg0
 z0 := Tryd.sizeOf0
 v0 := Tryd.zeroValue0
 t3 := Tryd.underlying3
 a3 := Tryd.isAgg3
 z3 := Tryd.sizeOf3
 v3 := Tryd.zeroValue3
 t9 := Tryd.underlying9
 a9 := Tryd.isAgg9
 z9 := Tryd.sizeOf9
 v9 := Tryd.zeroValue9
 t37 := Tryd.underlying33
 a37 := Tryd.isAgg33
 z37 := Tryd.sizeOf33
 v37 := Tryd.zeroValue33
 t70 := Tryd.underlying66
 a70 := Tryd.isAgg66
 z70 := Tryd.sizeOf66
 v70 := Tryd.zeroValue66
 t72 := Tryd.underlying68
 a72 := Tryd.isAgg68
 z72 := Tryd.sizeOf68
 v72 := Tryd.zeroValue68
 t127 := Tryd.underlying91
 a127 := Tryd.isAgg91
 z127 := Tryd.sizeOf91
 v127 := Tryd.zeroValue91 }
theorem Tryd.extra48 : Builder.Extra Tryd.prog Tryd.lay48_ren where
 sizeBuilder := by kernel_rfl
 liesBuilder := by kernel_rfl
 t5 := Tryd.underlying5
 a5 := Tryd.isAgg5
 z5 := Tryd.sizeOf5
 v5 := Tryd.zeroValue5
 infoByte := by kernel_rfl
 cellsByte := by kernel_rfl
 sizeByte := by kernel_rfl
 neB5 := by decide
def Z24 (a0 : Strings_Builder) : Option Bs := bldStr a0
theorem Z24_walk {a0 : Strings_Builder} {c0 t0 : Nat} {r : Bs} (hE : Z24 a0 = some r) (H : Heap) (hc0 : H c0 = some (.tcells 68 (Strings_Builder.cg c0 (some t0) a0))) (ht0 : H t0 = some (.tok 1 a0.Fbuf.l.length (some 5))) : ACalls Tryd.prog 48 [.d (.ptr c0 0)] H fun v h' => v = .a (.d (.str r)) ∧ h' = (H.set t0 none).set c0 none := bld_string Tryd.lay48 Tryd.extra48 rfl rfl rfl hE hc0 ht0
def Z38_j2   : Option (Int × Bool) := some ((0 : Int), false)
def Z38_j5 (a0 : Int)  (s5_6 : Bool) : Option (Int × Bool) := bif s5_6 then (some (a0, true)) else (bif (decide (a0 = (98 : Int))) then (some ((8 : Int), true)) else (bif (decide (a0 = (102 : Int))) then (some ((12 : Int), true)) else (bif (decide (a0 = (110 : Int))) then (some ((10 : Int), true)) else (bif (decide (a0 = (114 : Int))) then (some ((13 : Int), true)) else (bif (decide (a0 = (116 : Int))) then (some ((9 : Int), true)) else (Z38_j2   ))))))
def Z38 (a0 : Int) : Option (Int × Bool) := bif (decide (a0 = (34 : Int))) then (Z38_j5 a0  (decide (a0 = (34 : Int)))) else (bif (decide (a0 = (92 : Int))) then (Z38_j5 a0  (decide (a0 = (92 : Int)))) else (Z38_j5 a0  (decide (a0 = (47 : Int)))))
set_option maxRecDepth 100000 in
set_option maxHeartbeats 2000000 in
theorem Z38_walk {a0 : Int}   {r : (Int × Bool)} (hE : Z38 a0 = some r) (H : Heap)  : ACalls Tryd.prog 88 [.d (.int .u8 a0)] H fun v h' => v = .tup [.d (.int .u8 r.1), .d (.bool r.2)] ∧ h' = H := by
 unfold Z38 at hE
 refine ACalls.of_wp (fn := Tryd.f88) (c := _) Tryd.tab_ok (fun _ _ => Tryd.call88 _ _) Tryd.func88 rfl (n := 20) rfl (rs := [.tmp 2, .tmp 3]) rfl rfl ?_
 refine AWp.seqK fun K1 hK1 => ?_
 refine AWp.region ?_
 refine AOps.s0 (Cert.assign (by conv => lhs; whnf)) rfl ?_
 refine AOps.s0 (Cert.assign (by conv => lhs; whnf)) rfl ?_
 refine AOps.nil ?_
 refine hK1 _ ?_
 clear hK1 K1
 refine AWp.seqJH KeepsT.nil (fun (z : Unit) => []) (fun z => H) (fun z => Z38_j2  = some r) ?_ ?_
 ·intro K2 hK2
  refine AWp.seqK fun K4 hK4 => ?_
  refine AWp.region ?_
  refine AOps.s0 (Cert.move (by conv => lhs; whnf)) rfl ?_
  refine AOps.nil ?_
  refine hK4 _ ?_
  clear hK4 K4
  refine AWp.block ?_
  refine AWp.seqJH (KeepsT.cons (k := 0) (by conv => lhs; whnf) (KeepsT.cons (k := 4) (by conv => lhs; whnf) KeepsT.nil)) (fun (z : Bool) => [(5, .a (.d (.bool z)))]) (fun z => H) (fun z => Z38_j5 a0 z = some r) ?_ ?_
  ·intro K5 hK5
   refine AWp.seqK fun K24 hK24 => ?_
   refine AWp.region ?_
   refine AOps.s0 (Cert.binI rfl rfl rfl) rfl ?_
   refine AOps.s0 (Cert.assign (by conv => lhs; whnf)) rfl ?_
   refine AOps.nil ?_
   refine hK24 _ ?_
   clear hK24 K24
   refine AWp.condE hE rfl (fun hc25 hE => ?_) (fun hc25 hE => ?_)
   ·refine AWp.skip ?_
    exact hK5 _ (decide (a0 = (34 : Int))) Weak.toA hE
   ·refine AWp.seqK fun K26 hK26 => ?_
    refine AWp.region ?_
    refine AOps.s0 (Cert.binI rfl rfl rfl) rfl ?_
    refine AOps.s0 (Cert.assign (by conv => lhs; whnf)) rfl ?_
    refine AOps.nil ?_
    refine hK26 _ ?_
    clear hK26 K26
    refine AWp.condE hE rfl (fun hc27 hE => ?_) (fun hc27 hE => ?_)
    ·refine AWp.skip ?_
     exact hK5 _ (decide (a0 = (92 : Int))) Weak.toA hE
    ·refine AWp.region ?_
     refine AOps.s0 (Cert.binI rfl rfl rfl) rfl ?_
     refine AOps.s0 (Cert.assign (by conv => lhs; whnf)) rfl ?_
     refine AOps.nil ?_
     exact hK5 _ (decide (a0 = (47 : Int))) Weak.toA hE
  ·rintro s5_6 hE
   try dsimp only at hE
   unfold Z38_j5 at hE
   refine AWp.condE hE rfl (fun hc7 hE => ?_) (fun hc7 hE => ?_)
   ·refine AWp.seqK fun K8 hK8 => ?_
    refine AWp.region ?_
    refine AOps.s0 (Cert.move (by conv => lhs; whnf)) rfl ?_
    refine AOps.s0 (Cert.assign (by conv => lhs; whnf)) rfl ?_
    refine AOps.s0 (Cert.assign (by conv => lhs; whnf)) rfl ?_
    refine AOps.nil ?_
    refine hK8 _ ?_
    clear hK8 K8
    refine AWp.ret ?_
    repeat (first | refine xBlock_ret ?_ | refine xThen_ret ?_)
    obtain rfl := Option.some.inj hE
    refine retQ.retF H rfl ⟨rfl, rfl⟩ ?_
    exact (fun _ _ h => h)
   ·refine AWp.seqK fun K9 hK9 => ?_
    refine AWp.region ?_
    refine AOps.s0 (Cert.binI rfl rfl rfl) rfl ?_
    refine AOps.s0 (Cert.assign (by conv => lhs; whnf)) rfl ?_
    refine AOps.nil ?_
    refine hK9 _ ?_
    clear hK9 K9
    refine AWp.condE hE rfl (fun hc10 hE => ?_) (fun hc10 hE => ?_)
    ·refine AWp.seqK fun K11 hK11 => ?_
     refine AWp.region ?_
     refine AOps.s0 (Cert.assign (by conv => lhs; whnf)) rfl ?_
     refine AOps.s0 (Cert.assign (by conv => lhs; whnf)) rfl ?_
     refine AOps.nil ?_
     refine hK11 _ ?_
     clear hK11 K11
     refine AWp.ret ?_
     repeat (first | refine xBlock_ret ?_ | refine xThen_ret ?_)
     obtain rfl := Option.some.inj hE
     refine retQ.retF H rfl ⟨rfl, rfl⟩ ?_
     exact (fun _ _ h => h)
    ·refine AWp.seqK fun K12 hK12 => ?_
     refine AWp.region ?_
     refine AOps.s0 (Cert.binI rfl rfl rfl) rfl ?_
     refine AOps.s0 (Cert.assign (by conv => lhs; whnf)) rfl ?_
     refine AOps.nil ?_
     refine hK12 _ ?_
     clear hK12 K12
     refine AWp.condE hE rfl (fun hc13 hE => ?_) (fun hc13 hE => ?_)
     ·refine AWp.seqK fun K14 hK14 => ?_
      refine AWp.region ?_
      refine AOps.s0 (Cert.assign (by conv => lhs; whnf)) rfl ?_
      refine AOps.s0 (Cert.assign (by conv => lhs; whnf)) rfl ?_
      refine AOps.nil ?_
      refine hK14 _ ?_
      clear hK14 K14
      refine AWp.ret ?_
      repeat (first | refine xBlock_ret ?_ | refine xThen_ret ?_)
      obtain rfl := Option.some.inj hE
      refine retQ.retF H rfl ⟨rfl, rfl⟩ ?_
      exact (fun _ _ h => h)
     ·refine AWp.seqK fun K15 hK15 => ?_
      refine AWp.region ?_
      refine AOps.s0 (Cert.binI rfl rfl rfl) rfl ?_
      refine AOps.s0 (Cert.assign (by conv => lhs; whnf)) rfl ?_
      refine AOps.nil ?_
      refine hK15 _ ?_
      clear hK15 K15
      refine AWp.condE hE rfl (fun hc16 hE => ?_) (fun hc16 hE => ?_)
      ·refine AWp.seqK fun K17 hK17 => ?_
       refine AWp.region ?_
       refine AOps.s0 (Cert.assign (by conv => lhs; whnf)) rfl ?_
       refine AOps.s0 (Cert.assign (by conv => lhs; whnf)) rfl ?_
       refine AOps.nil ?_
       refine hK17 _ ?_
       clear hK17 K17
       refine AWp.ret ?_
       repeat (first | refine xBlock_ret ?_ | refine xThen_ret ?_)
       obtain rfl := Option.some.inj hE
       refine retQ.retF H rfl ⟨rfl, rfl⟩ ?_
       exact (fun _ _ h => h)
      ·refine AWp.seqK fun K18 hK18 => ?_
       refine AWp.region ?_
       refine AOps.s0 (Cert.binI rfl rfl rfl) rfl ?_
       refine AOps.s0 (Cert.assign (by conv => lhs; whnf)) rfl ?_
       refine AOps.nil ?_
       refine hK18 _ ?_
       clear hK18 K18
       refine AWp.condE hE rfl (fun hc19 hE => ?_) (fun hc19 hE => ?_)
       ·refine AWp.seqK fun K20 hK20 => ?_
        refine AWp.region ?_
        refine AOps.s0 (Cert.assign (by conv => lhs; whnf)) rfl ?_
        refine AOps.s0 (Cert.assign (by conv => lhs; whnf)) rfl ?_
        refine AOps.nil ?_
        refine hK20 _ ?_
        clear hK20 K20
        refine AWp.ret ?_
        repeat (first | refine xBlock_ret ?_ | refine xThen_ret ?_)
        obtain rfl := Option.some.inj hE
        refine retQ.retF H rfl ⟨rfl, rfl⟩ ?_
        exact (fun _ _ h => h)
       ·refine AWp.seqK fun K21 hK21 => ?_
        refine AWp.region ?_
        refine AOps.s0 (Cert.binI rfl rfl rfl) rfl ?_
        refine AOps.s0 (Cert.assign (by conv => lhs; whnf)) rfl ?_
        refine AOps.nil ?_
        refine hK21 _ ?_
        clear hK21 K21
        refine AWp.condE hE rfl (fun hc22 hE => ?_) (fun hc22 hE => ?_)
        ·refine AWp.seqK fun K23 hK23 => ?_
         refine AWp.region ?_
         refine AOps.s0 (Cert.assign (by conv => lhs; whnf)) rfl ?_
         refine AOps.s0 (Cert.assign (by conv => lhs; whnf)) rfl ?_
         refine AOps.nil ?_
         refine hK23 _ ?_
         clear hK23 K23
         refine AWp.ret ?_
         repeat (first | refine xBlock_ret ?_ | refine xThen_ret ?_)
         obtain rfl := Option.some.inj hE
         refine retQ.retF H rfl ⟨rfl, rfl⟩ ?_
         exact (fun _ _ h => h)
        ·refine AWp.skip ?_
         exact hK2 _ () Weak.toA hE
 ·rintro _ hE
  try dsimp only at hE
  unfold Z38_j2 at hE
  refine AWp.seqK fun K3 hK3 => ?_
  refine AWp.region ?_
  refine AOps.s0 (Cert.assign (by conv => lhs; whnf)) rfl ?_
  refine AOps.s0 (Cert.assign (by conv => lhs; whnf)) rfl ?_
  refine AOps.nil ?_
  refine hK3 _ ?_
  clear hK3 K3
  refine AWp.ret ?_
  repeat (first | refine xBlock_ret ?_ | refine xThen_ret ?_)
  obtain rfl := Option.some.inj hE
  refine retQ.retF H rfl ⟨rfl, rfl⟩ ?_
  exact (fun _ _ h => h)
def Tryd.lay89_ren : Go.Shelf.Ren := ⟨fun | 137 => 89 | 217 => 102 | 266 => 110 | n => n, fun | 9 => 9 | 5 => 5 | 3 => 3 | n => n, fun | n => n⟩
theorem Tryd.lay89 : Go.Proofs.Lays.n137 Tryd.prog Tryd.lay89_ren := {
 mixed := by kernel_rfl
 f137 := Tryd.func89.trans (congrArg some (by kernel_rfl))
 f217 := Tryd.func102.trans (congrArg some (by kernel_rfl))
 f266 := Tryd.func110.trans (congrArg some (by kernel_rfl))
 t3 := Tryd.underlying3
 a3 := Tryd.isAgg3
 z3 := Tryd.sizeOf3
 v3 := Tryd.zeroValue3
 t5 := Tryd.underlying5
 a5 := Tryd.isAgg5
 z5 := Tryd.sizeOf5
 v5 := Tryd.zeroValue5
 t9 := Tryd.underlying9
 a9 := Tryd.isAgg9
 z9 := Tryd.sizeOf9
 v9 := Tryd.zeroValue9 }
def Z31 (s : Bs) (c : Int) : Option Int := some (Lib.indexByte s c.toNat.toUInt8)
theorem Z31_walk {a0 : Bs} {a1 : Int} {r : Int} (hE : Z31 a0 a1 = some r) (H : Heap) : ACalls Tryd.prog 89 [.d (.str a0), .d (.int .u8 a1)] H fun v h' => v = .a (.d (.int .i64 r)) ∧ h' = H := by
 obtain rfl := Option.some.inj hE
 exact idxByte_calls Tryd.lay89 rfl
end Go.Proofs
