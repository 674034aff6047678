import Derived.Test.YtgdidaagebcocaaV3
set_option linter.unusedVariables false
set_option linter.unusedSimpArgs false
namespace Go.Proofs
open Go Go.Ab Go.Ab.Sch
theorem ACalls.atH {P : Program} {f : FuncId} {args : List A} {h h' : Heap} {Post : V → Heap → Prop} (e : h = h') (hc : ACalls P f args h' Post) : ACalls P f args h Post := e ▸ hc
/-- The heap of the search: what was seen. -/
abbrev dh (H : Heap) (c tk m : Nat) (d : Doc) (F : List Fault) (S : List (List UInt8)) : Heap := ck (H.set m (some (.map (seenM S)))) c tk d F
/-- What a search gives. -/
def DfsPost (H : Heap) (c tk m : Nat) (d : Doc) (F : List Fault) (own : List UInt8) (t : List Ab.Input) (S : List (List UInt8)) (r : V) (h' : Heap) : Prop :=
  ∃ b S', r = .a (.d (.bool b)) ∧ h' = dh H c tk m d F S' ∧ (b = true → Sch.Reach d own t own) ∧ (b = false → Dfs d own t S S')
theorem fuelK {d : Doc} {own : List UInt8} {t : List Ab.Input} {S S1 : List (List UInt8)} {k : Nat} {n : List UInt8} (hd : Dfs d own t S S1) (hk : d.defs.l.length < S.length + (k + 1)) (hn : n ∉ S1) (hS : S.Nodup) :
    d.defs.l.length < (insS S1 n).length + k := by
  have h1 := nodup_sub S S1 hS hd.sub
  have : (insS S1 n).length = S1.length + 1 := by unfold insS; rw [if_neg (by simpa using hn)]; simp
  omega
theorem direct_of (r : Ref) (b : Bool) (h : (!decide (((r.wraps.l.map intC).length : Int) = 1) || !decide (r.wraps.l.headD 0 = 1)) = b) : direct r = !b := by
  unfold direct; rw [← h]; simp
theorem find_name {l : List Def} {n : List UInt8} (h : (find l n).isSome = true) : ((find l n).getD Def.zero).name.1 = n := by
  unfold find at *
  cases e : l.find? (fun t => t.name.1 == n) with
  | none => rw [e] at h; simp at h
  | some t => have := List.find?_some e; simpa using this
theorem goes_of {d : Doc} {own : List UInt8} {x : Ab.Input} (h1 : direct x.type = true) (h2 : (find d.defs.l x.type.name.1).isSome = true) (h3 : ((find d.defs.l x.type.name.1).getD Def.zero).kind = 5) : goes d own x = true := by
  unfold goes inputDef kind; rw [h1, h2, h3]; simp
theorem seen_of {d : Doc} {own : List UInt8} {x : Ab.Input} {S : List (List UInt8)} (hg : goes d own x = true) (h2 : (x.type.name.1 == own) = false)
    (h3 : (((find d.defs.l x.type.name.1).isSome && decide (((find d.defs.l x.type.name.1).getD Def.zero).kind = 5)) && !S.contains ((find d.defs.l x.type.name.1).getD Def.zero).name.1) = false) :
    x.type.name.1 ≠ own ∧ x.type.name.1 ∈ S := by
  unfold goes inputDef kind at hg
  rw [h2] at hg
  simp only [Bool.false_or, Bool.and_eq_true] at hg
  have hn := find_name hg.2.1
  rw [hg.2.1, hg.2.2, hn] at h3
  exact ⟨by simpa using h2, by simpa using h3⟩
set_option maxRecDepth 100000 in
set_option maxHeartbeats 1000000 in
theorem sch_loops1_step (d : Doc) (t : Def) (c tk m w : Nat) (F : List Fault) (H : Heap) (hne : tk ≠ c) (hmc : m ≠ c) (hmt : m ≠ tk) (hwc : w ≠ c) (hwt : w ≠ tk) (hwm : w ≠ m)
    (hw : H w = some (.cells [.func 48 [.view t.c, .view [.ptr c 0], .view [.map m], .ptr w 0]])) (k : Nat)
    (ih : ∀ (S : List (List UInt8)) (x : Def), S.Nodup → (∀ n ∈ S, n ∈ d.defs.l.map (·.name.1)) → d.defs.l.length < S.length + k →
      ACalls Try.prog 48 [.agg x.c, .d (.view t.c), .d (.view [.ptr c 0]), .d (.view [.map m]), .d (.ptr w 0)] (dh H c tk m d F S) (DfsPost H c tk m d F t.name.1 x.inputs.l S))
    (S : List (List UInt8)) (x : Def) (hS : S.Nodup) (hK : ∀ n ∈ S, n ∈ d.defs.l.map (·.name.1)) (hk : d.defs.l.length < S.length + (k + 1)) :
    ACalls Try.prog 48 [.agg x.c, .d (.view t.c), .d (.view [.ptr c 0]), .d (.view [.map m]), .d (.ptr w 0)] (dh H c tk m d F S) (DfsPost H c tk m d F t.name.1 x.inputs.l S) := by
  refine ACalls.of_wp (fn := Try.f48) (c := _) Try.tab_ok (fun _ _ => Try.call48 _ _) Try.func48 rfl (n := 68) rfl (rs := [.tmp 6]) rfl rfl ?_
  refine AWp.seqK fun K1 hK1 => ?_
  refine AWp.region ?_
  refine AOps.s0 (Cert.boxV rfl) rfl ?_
  refine AOps.s0 (Cert.assign (by conv => lhs; whnf)) rfl ?_
  refine AOps.nil ?_
  refine hK1 _ ?_
  clear hK1 K1
  refine AWp.seqK fun K2 hK2 => ?_
  refine AWp.seqK fun K3 hK3 => ?_
  refine AWp.region ?_
  refine AOps.s0 (Cert.fieldV (Try.tab_ok _ _ rfl) rfl rfl (Try.tab_ok _ _ rfl) rfl rfl (by conv => lhs; whnf)) rfl ?_
  refine AOps.s0 (Cert.loadV (Try.tab_ok _ _ rfl) rfl rfl rfl) rfl ?_
  refine AOps.s0 (Cert.lenA (Try.tab_ok _ _ rfl) rfl rfl rfl) rfl ?_
  refine AOps.s0 (Cert.move (by conv => lhs; whnf)) rfl ?_
  refine AOps.nil ?_
  refine hK3 _ ?_
  clear hK3 K3
  refine AWp.block ?_
  refine AWp.loopH (KeepsT.cons (k := 1) (by conv => lhs; whnf) (KeepsT.cons (k := 2) (by conv => lhs; whnf) (KeepsT.cons (k := 3) (by conv => lhs; whnf) (KeepsT.cons (k := 4) (by conv => lhs; whnf) (KeepsT.cons (k := 12) (by conv => lhs; whnf) (KeepsT.cons (k := 13) (by conv => lhs; whnf) KeepsT.nil)))))) (fun (y : Nat × List (List UInt8)) => [(14, .a (.d (.int .i64 y.1)))]) (fun y => dh H c tk m d F y.2)
    (fun y => x.inputs.l.length - y.1) (fun y => y.1 ≤ x.inputs.l.length ∧ Dfs d t.name.1 (x.inputs.l.take y.1) S y.2) (0, S) ⟨Nat.zero_le _, Dfs.start hS hK⟩ (Weak.to (by repeat (first | exact Keeps.nil | refine Keeps.c rfl rfl ?_ | refine Keeps.c (by (first | (first | rfl | ((conv => lhs; whnf); first | (simp [cellsA, faultsT, faultsD, namesD, Fault.mk_c, Nat.add_assoc, empty_append, Bool.and_assoc]; done) | (simp [cellsA, faultsT, faultsD, namesD, Nat.add_assoc, empty_append, Bool.and_assoc]; repeat (first | rfl | constructor)))) | rfl | (simp only [get_same, ev]; done) | (simp [*, cellsA]; done) | (show V.a (A.d (D.slice _ _ _ _)) = V.a (A.d (D.slice _ _ _ _)); simp [*, cellsA]; done))) rfl ?_)) (by repeat (first | exact Pfx.nil | apply Pfx.cons)) (by first | rfl | (first | rfl | (simp only [Heap.set_set, List.length_append, List.length_nil, List.length_cons, List.length_map, List.length_singleton, Nat.zero_add]; done) | (simp [Heap.set_set, Nat.add_assoc]; done)) | (((funext n; simp only [Heap.set]; (repeat' split) <;> simp_all)) <;> first | rfl | exact ⟨rfl, rfl⟩))) ?_
  rintro ⟨i, S1⟩ ⟨hi, hD⟩ K4 hK4
  dsimp only at hi hD
  have hmax : x.inputs.l.length ≤ 140737488355328 := x.inputs.ok
  refine AWp.seqK fun K5 hK5 => ?_
  refine AWp.region ?_
  refine AOps.s0 (Cert.binI rfl rfl rfl) rfl ?_
  refine AOps.nil ?_
  refine hK5 _ ?_
  clear hK5 K5
  refine AWp.seqK fun K6 hK6 => ?_
  refine AWp.cond rfl (fun hc0 => ?_) (fun hc0 => ?_)
  · first
    | (cases hc0; done)
    | skip
    refine AWp.skip ?_
    refine hK6 _ ?_
    clear hK6 K6
    refine AWp.seqK fun K7 hK7 => ?_
    refine AWp.block ?_
    refine AWp.seqK fun K8 hK8 => ?_
    refine AWp.region ?_
    have hi3 : i < x.inputs.l.length := map_lt hc0
    refine AOps.s0 (Cert.indexA (Try.tab_ok _ _ rfl) rfl (Try.tab_ok _ _ rfl) rfl rfl rfl (by omega) (map_get (by assumption))) rfl ?_
    refine AOps.s0 (Cert.loadV (Try.tab_ok _ _ rfl) rfl rfl rfl) rfl ?_
    refine AOps.sL (Cert.allocL (Try.tab_ok _ _ rfl) rfl (by repeat (first | exact Snoc.nil | apply Snoc.cons))) rfl ?_
    refine AOps.sLn (Cert.storeLF (Try.tab_ok _ _ rfl) rfl rfl rfl rfl rfl (by repeat (first | exact SetAt.zero | apply SetAt.succ))) ?_
    refine AOps.nil ?_
    refine hK8 _ ?_
    clear hK8 K8
    refine AWp.freeze 8 _ rfl (by repeat (first | exact Snoc.nil | apply Snoc.cons)) (Keeps.c (k := 1) (by conv => lhs; whnf) (by rfl) (Keeps.c (k := 2) (by conv => lhs; whnf) (by rfl) (Keeps.c (k := 3) (by conv => lhs; whnf) (by rfl) (Keeps.c (k := 4) (by conv => lhs; whnf) (by rfl) (Keeps.c (k := 12) (by conv => lhs; whnf) (by rfl) (Keeps.c (k := 13) (by conv => lhs; whnf) (by rfl) (Keeps.c (k := 14) (by conv => lhs; whnf) (by rfl) Keeps.nil))))))) ?_
    refine AWp.seqK fun K9 hK9 => ?_
    refine AWp.seqK fun K10 hK10 => ?_
    refine AWp.region ?_
    refine AOps.s0 (Cert.fieldV (Try.tab_ok _ _ rfl) rfl rfl (Try.tab_ok _ _ rfl) rfl rfl (by conv => lhs; whnf)) rfl ?_
    refine AOps.s0 (Cert.fieldV (Try.tab_ok _ _ rfl) rfl rfl (Try.tab_ok _ _ rfl) rfl rfl (by conv => lhs; whnf)) rfl ?_
    refine AOps.s0 (Cert.loadV (Try.tab_ok _ _ rfl) rfl rfl rfl) rfl ?_
    refine AOps.s0 (Cert.lenA (Try.tab_ok _ _ rfl) rfl rfl rfl) rfl ?_
    refine AOps.s0 (Cert.binI rfl rfl rfl) rfl ?_
    refine AOps.s0 (Cert.move (by conv => lhs; whnf)) rfl ?_
    refine AOps.gC rfl rfl (fun hC => Cert.fieldV (Try.tab_ok _ _ rfl) rfl rfl (Try.tab_ok _ _ rfl) rfl rfl (by conv => lhs; whnf)) rfl ?_
    refine AOps.gC rfl rfl (fun hC => Cert.ungd (k := 24) rfl (by first | exact hC | exact andL hC | exact andL (andL hC) | exact andL (andL (andL hC)) | exact andR hC | simp_all) (Cert.fieldV (Try.tab_ok _ _ rfl) rfl rfl (Try.tab_ok _ _ rfl) rfl rfl (by conv => lhs; whnf))) rfl ?_
    refine AOps.gC rfl rfl (fun hC => Cert.ungd (k := 25) rfl (by first | exact hC | exact andL hC | exact andL (andL hC) | exact andL (andL (andL hC)) | exact andR hC | simp_all) (Cert.loadV (Try.tab_ok _ _ rfl) rfl rfl rfl)) rfl ?_
    refine AOps.gC rfl rfl (fun hC => Cert.ungd (k := 26) rfl (by first | exact hC | exact andL hC | exact andL (andL hC) | exact andL (andL (andL hC)) | exact andR hC | simp_all) (Cert.indexA (Try.tab_ok _ _ rfl) rfl (Try.tab_ok _ _ rfl) rfl rfl rfl (by omega) (row := intC ((x.inputs.l[i]'hi3).type.wraps.l.headD 0)) (by have h := hC; simp at h; match e : (x.inputs.l[i]'hi3).type.wraps.l, h with | [x], _ => rfl))) rfl ?_
    refine AOps.gC rfl rfl (fun hC => Cert.ungd (k := 27) rfl (by first | exact hC | exact andL hC | exact andL (andL hC) | exact andL (andL (andL hC)) | exact andR hC | simp_all) (Cert.loadV (Try.tab_ok _ _ rfl) rfl rfl rfl)) rfl ?_
    refine AOps.gC rfl rfl (fun hC => Cert.ungd (k := 28) rfl (by first | exact hC | exact andL hC | exact andL (andL hC) | exact andL (andL (andL hC)) | exact andR hC | simp_all) (Cert.binI rfl rfl rfl)) rfl ?_
    refine AOps.s0 (Cert.pickOr rfl rfl rfl (fun h => by first | exact h | exact notT h | exact andI hC h | exact andI hC (notT h) | simp_all)) rfl ?_
    refine AOps.nil ?_
    refine hK10 _ ?_
    clear hK10 K10
    refine AWp.cond rfl (fun hc1 => ?_) (fun hc1 => ?_)
    · first
      | (cases hc1; done)
      | skip
      refine AWp.exit ?_
      refine hK7 _ ?_
      clear hK9 K9 hK7 K7
      refine AWp.region ?_
      refine AOps.s0 (Cert.addI rfl rfl (by first | omega | (dsimp only; omega)) (by first | omega | (dsimp only; omega))) rfl ?_
      refine AOps.s0 (Cert.move (by conv => lhs; whnf)) rfl ?_
      refine AOps.nil ?_
      first
      | (refine hK4 _ (i + 1, S1) (Weak.to (by repeat (first | exact Keeps.nil | refine Keeps.c rfl rfl ?_ | refine Keeps.c (by (first | (first | rfl | ((conv => lhs; whnf); first | (simp [cellsA, faultsT, faultsD, namesD, Fault.mk_c, Nat.add_assoc, empty_append, Bool.and_assoc]; done) | (simp [cellsA, faultsT, faultsD, namesD, Nat.add_assoc, empty_append, Bool.and_assoc]; repeat (first | rfl | constructor)))) | rfl | (simp only [get_same, ev]; done) | (simp [*, cellsA]; done) | (show V.a (A.d (D.slice _ _ _ _)) = V.a (A.d (D.slice _ _ _ _)); simp [*, cellsA]; done))) rfl ?_)) (by repeat (first | exact Pfx.nil | apply Pfx.cons)) (by first | rfl | (first | rfl | (simp only [Heap.set_set, List.length_append, List.length_nil, List.length_cons, List.length_map, List.length_singleton, Nat.zero_add]; done) | (simp [Heap.set_set, Nat.add_assoc]; done)) | (((funext n; simp only [Heap.set]; (repeat' split) <;> simp_all)) <;> first | rfl | exact ⟨rfl, rfl⟩))) ⟨hi3, ?_⟩ (by dsimp only; omega)
         dsimp only
         rw [take_succ _ _ hi3]
         refine hD.pass _ fun hg => ?_
         have h1 := direct_of (x.inputs.l[i]'hi3).type true hc1
         have h2 := andL hg
         rw [h1] at h2
         cases h2)
      | (refine hK4 _ (i + 1, S1) (Weak.to (by repeat (first | exact Keeps.nil | refine Keeps.c rfl rfl ?_ | refine Keeps.c (by (first | (first | rfl | ((conv => lhs; whnf); first | (simp [cellsA, faultsT, faultsD, namesD, Fault.mk_c, Nat.add_assoc, empty_append, Bool.and_assoc]; done) | (simp [cellsA, faultsT, faultsD, namesD, Nat.add_assoc, empty_append, Bool.and_assoc]; repeat (first | rfl | constructor)))) | rfl | (simp only [get_same, ev]; done) | (simp [*, cellsA]; done) | (show V.a (A.d (D.slice _ _ _ _)) = V.a (A.d (D.slice _ _ _ _)); simp [*, cellsA]; done))) rfl ?_)) (by repeat (first | exact Pfx.nil | apply Pfx.cons)) (by first | rfl | (first | rfl | (simp only [Heap.set_set, List.length_append, List.length_nil, List.length_cons, List.length_map, List.length_singleton, Nat.zero_add]; done) | (simp [Heap.set_set, Nat.add_assoc]; done)) | (((funext n; simp only [Heap.set]; (repeat' split) <;> simp_all)) <;> first | rfl | exact ⟨rfl, rfl⟩))) ⟨hi3, ?_⟩ (by dsimp only; omega)
         dsimp only
         rw [take_succ _ _ hi3]
         exact hD.pass _ fun hg => seen_of hg hc2 hc3)
      | (refine hK4 _ (i + 1, S2) (Weak.to (by repeat (first | exact Keeps.nil | refine Keeps.c rfl rfl ?_ | refine Keeps.c (by (first | (first | rfl | ((conv => lhs; whnf); first | (simp [cellsA, faultsT, faultsD, namesD, Fault.mk_c, Nat.add_assoc, empty_append, Bool.and_assoc]; done) | (simp [cellsA, faultsT, faultsD, namesD, Nat.add_assoc, empty_append, Bool.and_assoc]; repeat (first | rfl | constructor)))) | rfl | (simp only [get_same, ev]; done) | (simp [*, cellsA]; done) | (show V.a (A.d (D.slice _ _ _ _)) = V.a (A.d (D.slice _ _ _ _)); simp [*, cellsA]; done))) rfl ?_)) (by repeat (first | exact Pfx.nil | apply Pfx.cons)) (by first | rfl | (first | rfl | (simp only [Heap.set_set, List.length_append, List.length_nil, List.length_cons, List.length_map, List.length_singleton, Nat.zero_add]; done) | (simp [Heap.set_set, Nat.add_assoc]; done)) | (((funext n; simp only [Heap.set]; (repeat' split) <;> simp_all)) <;> first | rfl | exact ⟨rfl, rfl⟩))) ⟨hi3, ?_⟩ (by dsimp only; omega)
         dsimp only
         rw [take_succ _ _ hi3]
         exact hD.child _ (by have := hc2; simpa using this) (hb2 hc4))
    · first
      | (cases hc1; done)
      | skip
      refine AWp.skip ?_
      refine hK9 _ ?_
      clear hK9 K9
      refine AWp.seqK fun K11 hK11 => ?_
      refine AWp.seqK fun K12 hK12 => ?_
      refine AWp.region ?_
      refine AOps.s0 (Cert.fieldV (Try.tab_ok _ _ rfl) rfl rfl (Try.tab_ok _ _ rfl) rfl rfl (by conv => lhs; whnf)) rfl ?_
      refine AOps.s0 (Cert.fieldV (Try.tab_ok _ _ rfl) rfl rfl (Try.tab_ok _ _ rfl) rfl rfl (by conv => lhs; whnf)) rfl ?_
      refine AOps.s0 (Cert.loadV (Try.tab_ok _ _ rfl) rfl rfl rfl) rfl ?_
      refine AOps.s0 (Cert.fieldV (Try.tab_ok _ _ rfl) rfl rfl (Try.tab_ok _ _ rfl) rfl rfl (by conv => lhs; whnf)) rfl ?_
      refine AOps.s0 (Cert.loadV (Try.tab_ok _ _ rfl) rfl rfl rfl) rfl ?_
      refine AOps.s0 (Cert.binS rfl rfl rfl) rfl ?_
      refine AOps.nil ?_
      refine hK12 _ ?_
      clear hK12 K12
      refine AWp.cond rfl (fun hc2 => ?_) (fun hc2 => ?_)
      · first
        | (cases hc2; done)
        | skip
        refine AWp.seqK fun K13 hK13 => ?_
        refine AWp.region ?_
        refine AOps.s0 (Cert.assign (by conv => lhs; whnf)) rfl ?_
        refine AOps.nil ?_
        refine hK13 _ ?_
        clear hK13 K13
        refine AWp.ret ?_
        repeat (first | refine xBlock_ret ?_ | refine xThen_ret ?_)
        first
        | (have e : x.inputs.l.take i = x.inputs.l := List.take_of_length_le (map_ge hc0)
           rw [e] at hD
           exact retQ.ret rfl ⟨false, S1, rfl, rfl, fun h => (by cases h), fun _ => hD⟩)
        | (have hq : (x.inputs.l[i]'hi3).type.name.1 = t.name.1 := by have := hc2; simpa using this
           have hgo : goes d t.name.1 (x.inputs.l[i]'hi3) = true := by
             have h1 := direct_of (x.inputs.l[i]'hi3).type false hc1
             unfold goes; rw [h1, hq]; simp
           have hr := Sch.Reach.here (d := d) (List.getElem_mem hi3) hgo
           rw [hq] at hr
           exact retQ.ret rfl ⟨true, S1, rfl, rfl, fun _ => hr, fun h => (by cases h)⟩)
        | exact retQ.ret rfl ⟨true, S2, rfl, rfl, fun _ => Sch.Reach.via (List.getElem_mem hi3) hgo (hb1 hc4), fun h => (by cases h)⟩
      · first
        | (cases hc2; done)
        | skip
        refine AWp.skip ?_
        refine hK11 _ ?_
        clear hK11 K11
        refine AWp.seqK fun K14 hK14 => ?_
        refine AWp.draw rfl ?_
        refine DOps.s0 (Cert.loadV (Try.tab_ok _ _ rfl) rfl rfl rfl) rfl ?_
        refine DOps.s0 (Cert.nilP rfl) rfl ?_
        refine DOps.s0 (Cert.fieldP (Try.tab_ok _ _ rfl) rfl rfl (Try.tab_ok _ _ rfl) rfl rfl) rfl ?_
        refine DOps.s0 (Cert.loadP (Try.tab_ok _ _ rfl) rfl rfl (by (first | assumption | exact Heap.set_same _ _ _ | ((repeat (refine (Heap.set_other _ _ (by first | assumption | (apply Ne.symm; assumption))).trans ?_)); first | assumption | exact Heap.set_same _ _ _) | (simp only [Heap.set_set, Heap.set_same]; done) | (simp [Heap.set, *]; done))) rfl) rfl ?_
        refine DOps.s0 (Cert.fieldV (Try.tab_ok _ _ rfl) rfl rfl (Try.tab_ok _ _ rfl) rfl rfl (by conv => lhs; whnf)) rfl ?_
        refine DOps.s0 (Cert.fieldV (Try.tab_ok _ _ rfl) rfl rfl (Try.tab_ok _ _ rfl) rfl rfl (by conv => lhs; whnf)) rfl ?_
        refine DOps.s0 (Cert.loadV (Try.tab_ok _ _ rfl) rfl rfl rfl) rfl ?_
        refine DOps.s0 (Cert.callP rfl rfl (sch_Find d _)) rfl ?_
        refine DOps.s0 (Cert.move (by conv => lhs; whnf)) rfl ?_
        refine DOps.s0 (Cert.extract rfl rfl) rfl ?_
        refine DOps.s0 (Cert.extract rfl rfl) rfl ?_
        refine DOps.sL (Cert.allocL (Try.tab_ok _ _ rfl) rfl (by repeat (first | exact Snoc.nil | apply Snoc.cons))) rfl ?_
        refine DOps.sLn (Cert.storeLF (Try.tab_ok _ _ rfl) rfl rfl rfl rfl rfl (by repeat (first | exact SetAt.zero | apply SetAt.succ))) ?_
        refine DOps.s0 (Cert.assign (by conv => lhs; whnf)) rfl ?_
        refine DOps.nil (by decide +kernel) ?_
        refine hK14 _ ?_
        clear hK14 K14
        refine AWp.freeze 9 _ rfl (by repeat (first | exact Snoc.nil | apply Snoc.cons)) (Keeps.c (k := 1) (by conv => lhs; whnf) (by rfl) (Keeps.c (k := 2) (by conv => lhs; whnf) (by rfl) (Keeps.c (k := 3) (by conv => lhs; whnf) (by rfl) (Keeps.c (k := 4) (by conv => lhs; whnf) (by rfl) (Keeps.c (k := 10) (by conv => lhs; whnf) (by rfl) (Keeps.c (k := 12) (by conv => lhs; whnf) (by rfl) (Keeps.c (k := 13) (by conv => lhs; whnf) (by rfl) (Keeps.c (k := 14) (by conv => lhs; whnf) (by rfl) Keeps.nil)))))))) ?_
        refine AWp.seqK fun K15 hK15 => ?_
        refine AWp.region ?_
        refine AOps.s0 (Cert.move (by conv => lhs; whnf)) rfl ?_
        refine AOps.s0 (Cert.move (by conv => lhs; whnf)) rfl ?_
        refine AOps.gC rfl rfl (fun hC => Cert.fieldV (Try.tab_ok _ _ rfl) rfl rfl (Try.tab_ok _ _ rfl) rfl rfl (by conv => lhs; whnf)) rfl ?_
        refine AOps.gC rfl rfl (fun hC => Cert.ungd (k := 50) rfl (by first | exact hC | exact andL hC | exact andL (andL hC) | exact andL (andL (andL hC)) | exact andR hC | simp_all) (Cert.loadV (Try.tab_ok _ _ rfl) rfl rfl rfl)) rfl ?_
        refine AOps.gC rfl rfl (fun hC => Cert.ungd (k := 51) rfl (by first | exact hC | exact andL hC | exact andL (andL hC) | exact andL (andL (andL hC)) | exact andR hC | simp_all) (Cert.binI rfl rfl rfl)) rfl ?_
        refine AOps.s0 (Cert.pickAnd rfl rfl (fun h => by first | exact h | exact notT h | exact andI hC h | exact andI hC (notT h) | simp_all) rfl) rfl ?_
        refine AOps.s0 (Cert.move (by conv => lhs; whnf)) rfl ?_
        refine AOps.gC rfl rfl (fun hC => Cert.loadV (Try.tab_ok _ _ rfl) rfl rfl rfl) rfl ?_
        refine AOps.gC rfl rfl (fun hC => Cert.fieldV (Try.tab_ok _ _ rfl) rfl rfl (Try.tab_ok _ _ rfl) rfl rfl (by conv => lhs; whnf)) rfl ?_
        refine AOps.gC rfl rfl (fun hC => Cert.ungd (k := 56) rfl (by first | exact hC | exact andL hC | exact andL (andL hC) | exact andL (andL (andL hC)) | exact andR hC | simp_all) (Cert.loadV (Try.tab_ok _ _ rfl) rfl rfl rfl)) rfl ?_
        refine AOps.gC rfl rfl (fun hC => Cert.ungd (k := 55) rfl (by first | exact hC | exact andL hC | exact andL (andL hC) | exact andL (andL (andL hC)) | exact andR hC | simp_all) (Cert.ungd (k := 57) rfl (by first | exact hC | exact andL hC | exact andL (andL hC) | exact andL (andL (andL hC)) | exact andR hC | simp_all) (Cert.lookupSeen (Try.tab_ok _ _ rfl) rfl (Try.tab_ok _ _ rfl) (Try.tab_ok _ _ rfl) rfl rfl rfl rfl (by (first | assumption | exact Heap.set_same _ _ _ | ((repeat (refine (Heap.set_other _ _ (by first | assumption | (apply Ne.symm; assumption))).trans ?_)); first | assumption | exact Heap.set_same _ _ _) | (simp only [Heap.set_set, Heap.set_same]; done) | (simp [Heap.set, *]; done)))))) rfl ?_
        refine AOps.gC rfl rfl (fun hC => Cert.ungd (k := 58) rfl (by first | exact hC | exact andL hC | exact andL (andL hC) | exact andL (andL (andL hC)) | exact andR hC | simp_all) (Cert.notB rfl)) rfl ?_
        refine AOps.s0 (Cert.pickAnd rfl rfl (fun h => by first | exact h | exact notT h | exact andI hC h | exact andI hC (notT h) | simp_all) rfl) rfl ?_
        refine AOps.nil ?_
        refine hK15 _ ?_
        clear hK15 K15
        refine AWp.cond rfl (fun hc3 => ?_) (fun hc3 => ?_)
        · first
          | (cases hc3; done)
          | skip
          refine AWp.seqK fun K16 hK16 => ?_
          refine AWp.region ?_
          have h3 : (((find d.defs.l (x.inputs.l[i]'hi3).type.name.1).isSome && decide (((find d.defs.l (x.inputs.l[i]'hi3).type.name.1).getD Def.zero).kind = 5)) && !S1.contains ((find d.defs.l (x.inputs.l[i]'hi3).type.name.1).getD Def.zero).name.1) = true := hc3
          have hf := andL (andL h3)
          have hnm := find_name hf
          have hns : (x.inputs.l[i]'hi3).type.name.1 ∉ S1 := by have := andR h3; rw [hnm] at this; simpa using this
          have hkn := fuelK hD hk hns hS
          have hKn : ∀ n ∈ insS S1 (x.inputs.l[i]'hi3).type.name.1, n ∈ d.defs.l.map (·.name.1) := by
            intro n hn
            rcases (insS_spec _ _ _).1 hn with h | h
            · exact hD.known n h
            · subst h; exact find_some _ _ hf
          have hgo : goes d t.name.1 (x.inputs.l[i]'hi3) = true := goes_of (by have := direct_of (x.inputs.l[i]'hi3).type false hc1; simpa using this) hf (by simpa using andR (andL h3))
          refine AOps.s0 (Cert.loadV (Try.tab_ok _ _ rfl) rfl rfl rfl) rfl ?_
          refine AOps.s0 (Cert.fieldV (Try.tab_ok _ _ rfl) rfl rfl (Try.tab_ok _ _ rfl) rfl rfl (by conv => lhs; whnf)) rfl ?_
          refine AOps.s0 (Cert.loadV (Try.tab_ok _ _ rfl) rfl rfl rfl) rfl ?_
          refine AOps.sHn (Cert.mapUpdate (Try.tab_ok _ _ rfl) rfl (Try.tab_ok _ _ rfl) rfl rfl rfl rfl (by (first | assumption | exact Heap.set_same _ _ _ | ((repeat (refine (Heap.set_other _ _ (by first | assumption | (apply Ne.symm; assumption))).trans ?_)); first | assumption | exact Heap.set_same _ _ _) | (simp only [Heap.set_set, Heap.set_same]; done) | (simp [Heap.set, *]; done))) (by first | exact seen_upd _ _ | assumption) rfl) rfl rfl ?_
          refine AOps.nil ?_
          refine hK16 _ ?_
          clear hK16 K16
          refine AWp.seqK fun K17 hK17 => ?_
          refine AWp.region ?_
          refine AOps.s0 (Cert.loadP (Try.tab_ok _ _ rfl) rfl rfl (by (first | assumption | exact Heap.set_same _ _ _ | ((repeat (refine (Heap.set_other _ _ (by first | assumption | (apply Ne.symm; assumption))).trans ?_)); first | assumption | exact Heap.set_same _ _ _) | (simp only [Heap.set_set, Heap.set_same]; done) | (simp [Heap.set, *]; done))) rfl) rfl ?_
          refine AOps.s0 (Cert.loadV (Try.tab_ok _ _ rfl) rfl rfl rfl) rfl ?_
          refine AOps.sE (StepE.call rfl rfl (ACalls.atH (by ((funext n; simp only [Heap.set]; (repeat' split) <;> simp_all))) (ih (insS S1 (x.inputs.l[i]'hi3).type.name.1) (defOf d (x.inputs.l[i]'hi3).type.name.1) (insS_nodup hD.nodup) hKn hkn))) rfl (fun _ _ _ ⟨⟨b, S2, e1, e2, hb1, hb2⟩, e3⟩ => ?_); subst e1 e2 e3
          refine AOps.nil ?_
          refine hK17 _ ?_
          clear hK17 K17
          refine AWp.cond rfl (fun hc4 => ?_) (fun hc4 => ?_)
          · first
            | (cases hc4; done)
            | skip
            refine AWp.seqK fun K18 hK18 => ?_
            refine AWp.region ?_
            refine AOps.s0 (Cert.assign (by conv => lhs; whnf)) rfl ?_
            refine AOps.nil ?_
            refine hK18 _ ?_
            clear hK18 K18
            refine AWp.ret ?_
            repeat (first | refine xBlock_ret ?_ | refine xThen_ret ?_)
            first
            | (have e : x.inputs.l.take i = x.inputs.l := List.take_of_length_le (map_ge hc0)
               rw [e] at hD
               exact retQ.ret rfl ⟨false, S1, rfl, rfl, fun h => (by cases h), fun _ => hD⟩)
            | (have hq : (x.inputs.l[i]'hi3).type.name.1 = t.name.1 := by have := hc2; simpa using this
               have hgo : goes d t.name.1 (x.inputs.l[i]'hi3) = true := by
                 have h1 := direct_of (x.inputs.l[i]'hi3).type false hc1
                 unfold goes; rw [h1, hq]; simp
               have hr := Sch.Reach.here (d := d) (List.getElem_mem hi3) hgo
               rw [hq] at hr
               exact retQ.ret rfl ⟨true, S1, rfl, rfl, fun _ => hr, fun h => (by cases h)⟩)
            | exact retQ.ret rfl ⟨true, S2, rfl, rfl, fun _ => Sch.Reach.via (List.getElem_mem hi3) hgo (hb1 hc4), fun h => (by cases h)⟩
          · first
            | (cases hc4; done)
            | skip
            refine AWp.skip ?_
            refine hK7 _ ?_
            clear hK7 K7
            refine AWp.region ?_
            refine AOps.s0 (Cert.addI rfl rfl (by first | omega | (dsimp only; omega)) (by first | omega | (dsimp only; omega))) rfl ?_
            refine AOps.s0 (Cert.move (by conv => lhs; whnf)) rfl ?_
            refine AOps.nil ?_
            first
            | (refine hK4 _ (i + 1, S1) (Weak.to (by repeat (first | exact Keeps.nil | refine Keeps.c rfl rfl ?_ | refine Keeps.c (by (first | (first | rfl | ((conv => lhs; whnf); first | (simp [cellsA, faultsT, faultsD, namesD, Fault.mk_c, Nat.add_assoc, empty_append, Bool.and_assoc]; done) | (simp [cellsA, faultsT, faultsD, namesD, Nat.add_assoc, empty_append, Bool.and_assoc]; repeat (first | rfl | constructor)))) | rfl | (simp only [get_same, ev]; done) | (simp [*, cellsA]; done) | (show V.a (A.d (D.slice _ _ _ _)) = V.a (A.d (D.slice _ _ _ _)); simp [*, cellsA]; done))) rfl ?_)) (by repeat (first | exact Pfx.nil | apply Pfx.cons)) (by first | rfl | (first | rfl | (simp only [Heap.set_set, List.length_append, List.length_nil, List.length_cons, List.length_map, List.length_singleton, Nat.zero_add]; done) | (simp [Heap.set_set, Nat.add_assoc]; done)) | (((funext n; simp only [Heap.set]; (repeat' split) <;> simp_all)) <;> first | rfl | exact ⟨rfl, rfl⟩))) ⟨hi3, ?_⟩ (by dsimp only; omega)
               dsimp only
               rw [take_succ _ _ hi3]
               refine hD.pass _ fun hg => ?_
               have h1 := direct_of (x.inputs.l[i]'hi3).type true hc1
               have h2 := andL hg
               rw [h1] at h2
               cases h2)
            | (refine hK4 _ (i + 1, S1) (Weak.to (by repeat (first | exact Keeps.nil | refine Keeps.c rfl rfl ?_ | refine Keeps.c (by (first | (first | rfl | ((conv => lhs; whnf); first | (simp [cellsA, faultsT, faultsD, namesD, Fault.mk_c, Nat.add_assoc, empty_append, Bool.and_assoc]; done) | (simp [cellsA, faultsT, faultsD, namesD, Nat.add_assoc, empty_append, Bool.and_assoc]; repeat (first | rfl | constructor)))) | rfl | (simp only [get_same, ev]; done) | (simp [*, cellsA]; done) | (show V.a (A.d (D.slice _ _ _ _)) = V.a (A.d (D.slice _ _ _ _)); simp [*, cellsA]; done))) rfl ?_)) (by repeat (first | exact Pfx.nil | apply Pfx.cons)) (by first | rfl | (first | rfl | (simp only [Heap.set_set, List.length_append, List.length_nil, List.length_cons, List.length_map, List.length_singleton, Nat.zero_add]; done) | (simp [Heap.set_set, Nat.add_assoc]; done)) | (((funext n; simp only [Heap.set]; (repeat' split) <;> simp_all)) <;> first | rfl | exact ⟨rfl, rfl⟩))) ⟨hi3, ?_⟩ (by dsimp only; omega)
               dsimp only
               rw [take_succ _ _ hi3]
               exact hD.pass _ fun hg => seen_of hg hc2 hc3)
            | (refine hK4 _ (i + 1, S2) (Weak.to (by repeat (first | exact Keeps.nil | refine Keeps.c rfl rfl ?_ | refine Keeps.c (by (first | (first | rfl | ((conv => lhs; whnf); first | (simp [cellsA, faultsT, faultsD, namesD, Fault.mk_c, Nat.add_assoc, empty_append, Bool.and_assoc]; done) | (simp [cellsA, faultsT, faultsD, namesD, Nat.add_assoc, empty_append, Bool.and_assoc]; repeat (first | rfl | constructor)))) | rfl | (simp only [get_same, ev]; done) | (simp [*, cellsA]; done) | (show V.a (A.d (D.slice _ _ _ _)) = V.a (A.d (D.slice _ _ _ _)); simp [*, cellsA]; done))) rfl ?_)) (by repeat (first | exact Pfx.nil | apply Pfx.cons)) (by first | rfl | (first | rfl | (simp only [Heap.set_set, List.length_append, List.length_nil, List.length_cons, List.length_map, List.length_singleton, Nat.zero_add]; done) | (simp [Heap.set_set, Nat.add_assoc]; done)) | (((funext n; simp only [Heap.set]; (repeat' split) <;> simp_all)) <;> first | rfl | exact ⟨rfl, rfl⟩))) ⟨hi3, ?_⟩ (by dsimp only; omega)
               dsimp only
               rw [take_succ _ _ hi3]
               exact hD.child _ (by have := hc2; simpa using this) (hb2 hc4))
        · first
          | (cases hc3; done)
          | skip
          refine AWp.skip ?_
          refine hK7 _ ?_
          clear hK7 K7
          refine AWp.region ?_
          refine AOps.s0 (Cert.addI rfl rfl (by first | omega | (dsimp only; omega)) (by first | omega | (dsimp only; omega))) rfl ?_
          refine AOps.s0 (Cert.move (by conv => lhs; whnf)) rfl ?_
          refine AOps.nil ?_
          first
          | (refine hK4 _ (i + 1, S1) (Weak.to (by repeat (first | exact Keeps.nil | refine Keeps.c rfl rfl ?_ | refine Keeps.c (by (first | (first | rfl | ((conv => lhs; whnf); first | (simp [cellsA, faultsT, faultsD, namesD, Fault.mk_c, Nat.add_assoc, empty_append, Bool.and_assoc]; done) | (simp [cellsA, faultsT, faultsD, namesD, Nat.add_assoc, empty_append, Bool.and_assoc]; repeat (first | rfl | constructor)))) | rfl | (simp only [get_same, ev]; done) | (simp [*, cellsA]; done) | (show V.a (A.d (D.slice _ _ _ _)) = V.a (A.d (D.slice _ _ _ _)); simp [*, cellsA]; done))) rfl ?_)) (by repeat (first | exact Pfx.nil | apply Pfx.cons)) (by first | rfl | (first | rfl | (simp only [Heap.set_set, List.length_append, List.length_nil, List.length_cons, List.length_map, List.length_singleton, Nat.zero_add]; done) | (simp [Heap.set_set, Nat.add_assoc]; done)) | (((funext n; simp only [Heap.set]; (repeat' split) <;> simp_all)) <;> first | rfl | exact ⟨rfl, rfl⟩))) ⟨hi3, ?_⟩ (by dsimp only; omega)
             dsimp only
             rw [take_succ _ _ hi3]
             refine hD.pass _ fun hg => ?_
             have h1 := direct_of (x.inputs.l[i]'hi3).type true hc1
             have h2 := andL hg
             rw [h1] at h2
             cases h2)
          | (refine hK4 _ (i + 1, S1) (Weak.to (by repeat (first | exact Keeps.nil | refine Keeps.c rfl rfl ?_ | refine Keeps.c (by (first | (first | rfl | ((conv => lhs; whnf); first | (simp [cellsA, faultsT, faultsD, namesD, Fault.mk_c, Nat.add_assoc, empty_append, Bool.and_assoc]; done) | (simp [cellsA, faultsT, faultsD, namesD, Nat.add_assoc, empty_append, Bool.and_assoc]; repeat (first | rfl | constructor)))) | rfl | (simp only [get_same, ev]; done) | (simp [*, cellsA]; done) | (show V.a (A.d (D.slice _ _ _ _)) = V.a (A.d (D.slice _ _ _ _)); simp [*, cellsA]; done))) rfl ?_)) (by repeat (first | exact Pfx.nil | apply Pfx.cons)) (by first | rfl | (first | rfl | (simp only [Heap.set_set, List.length_append, List.length_nil, List.length_cons, List.length_map, List.length_singleton, Nat.zero_add]; done) | (simp [Heap.set_set, Nat.add_assoc]; done)) | (((funext n; simp only [Heap.set]; (repeat' split) <;> simp_all)) <;> first | rfl | exact ⟨rfl, rfl⟩))) ⟨hi3, ?_⟩ (by dsimp only; omega)
             dsimp only
             rw [take_succ _ _ hi3]
             exact hD.pass _ fun hg => seen_of hg hc2 hc3)
          | (refine hK4 _ (i + 1, S2) (Weak.to (by repeat (first | exact Keeps.nil | refine Keeps.c rfl rfl ?_ | refine Keeps.c (by (first | (first | rfl | ((conv => lhs; whnf); first | (simp [cellsA, faultsT, faultsD, namesD, Fault.mk_c, Nat.add_assoc, empty_append, Bool.and_assoc]; done) | (simp [cellsA, faultsT, faultsD, namesD, Nat.add_assoc, empty_append, Bool.and_assoc]; repeat (first | rfl | constructor)))) | rfl | (simp only [get_same, ev]; done) | (simp [*, cellsA]; done) | (show V.a (A.d (D.slice _ _ _ _)) = V.a (A.d (D.slice _ _ _ _)); simp [*, cellsA]; done))) rfl ?_)) (by repeat (first | exact Pfx.nil | apply Pfx.cons)) (by first | rfl | (first | rfl | (simp only [Heap.set_set, List.length_append, List.length_nil, List.length_cons, List.length_map, List.length_singleton, Nat.zero_add]; done) | (simp [Heap.set_set, Nat.add_assoc]; done)) | (((funext n; simp only [Heap.set]; (repeat' split) <;> simp_all)) <;> first | rfl | exact ⟨rfl, rfl⟩))) ⟨hi3, ?_⟩ (by dsimp only; omega)
             dsimp only
             rw [take_succ _ _ hi3]
             exact hD.child _ (by have := hc2; simpa using this) (hb2 hc4))
  · first
    | (cases hc0; done)
    | skip
    refine AWp.exit ?_
    refine hK2 _ ?_
    clear hK6 K6 hK4 K4 hK2 K2
    refine AWp.seqK fun K19 hK19 => ?_
    refine AWp.region ?_
    refine AOps.s0 (Cert.assign (by conv => lhs; whnf)) rfl ?_
    refine AOps.nil ?_
    refine hK19 _ ?_
    clear hK19 K19
    refine AWp.ret ?_
    repeat (first | refine xBlock_ret ?_ | refine xThen_ret ?_)
    first
    | (have e : x.inputs.l.take i = x.inputs.l := List.take_of_length_le (map_ge hc0)
       rw [e] at hD
       exact retQ.ret rfl ⟨false, S1, rfl, rfl, fun h => (by cases h), fun _ => hD⟩)
    | (have hq : (x.inputs.l[i]'hi3).type.name.1 = t.name.1 := by have := hc2; simpa using this
       have hgo : goes d t.name.1 (x.inputs.l[i]'hi3) = true := by
         have h1 := direct_of (x.inputs.l[i]'hi3).type false hc1
         unfold goes; rw [h1, hq]; simp
       have hr := Sch.Reach.here (d := d) (List.getElem_mem hi3) hgo
       rw [hq] at hr
       exact retQ.ret rfl ⟨true, S1, rfl, rfl, fun _ => hr, fun h => (by cases h)⟩)
    | exact retQ.ret rfl ⟨true, S2, rfl, rfl, fun _ => Sch.Reach.via (List.getElem_mem hi3) hgo (hb1 hc4), fun h => (by cases h)⟩
theorem sch_loops1 (d : Doc) (t : Def) (c tk m w : Nat) (F : List Fault) (H : Heap) (hne : tk ≠ c) (hmc : m ≠ c) (hmt : m ≠ tk) (hwc : w ≠ c) (hwt : w ≠ tk) (hwm : w ≠ m)
    (hw : H w = some (.cells [.func 48 [.view t.c, .view [.ptr c 0], .view [.map m], .ptr w 0]])) : ∀ (k : Nat)
    (S : List (List UInt8)) (x : Def), S.Nodup → (∀ n ∈ S, n ∈ d.defs.l.map (·.name.1)) → d.defs.l.length < S.length + k →
      ACalls Try.prog 48 [.agg x.c, .d (.view t.c), .d (.view [.ptr c 0]), .d (.view [.map m]), .d (.ptr w 0)] (dh H c tk m d F S) (DfsPost H c tk m d F t.name.1 x.inputs.l S)
  | 0, S, x, hS, hK, hk => by
    have := nodup_sub S (d.defs.l.map (·.name.1)) hS hK
    simp at this; omega
  | k + 1, S, x, hS, hK, hk => sch_loops1_step d t c tk m w F H hne hmc hmt hwc hwt hwm hw k (sch_loops1 d t c tk m w F H hne hmc hmt hwc hwt hwm hw k) S x hS hK hk
end Go.Proofs


namespace Go.Proofs
open Go Go.Ab Go.Ab.Sch
open Classical in
noncomputable def reachB (d : Doc) (t : Def) : Bool := decide (Sch.Reach d t.name.1 t.inputs.l t.name.1)
theorem circB_eq (d : Doc) (t : Def) : circB d t = (decide (t.kind = 5) && reachB d t) := rfl
set_option maxRecDepth 100000 in
theorem sch_loops (d : Doc) (t : Def) (c tk : Nat) (F : List Fault) (H : Heap) (hne : tk ≠ c) :
    ACalls Try.prog 39 [.d (.ptr c 0), .agg t.c] (ck H c tk d F) fun r h' => r = .a (.d (.bool (reachB d t))) ∧ h' = ck H c tk d F := by
  refine ACalls.of_wp (fn := Try.f39) (c := _) Try.tab_ok (fun _ _ => Try.call39 _ _) Try.func39 rfl (n := 12) rfl (rs := [.tmp 4]) rfl rfl ?_
  refine AWp.seqK fun K1 hK1 => ?_
  refine AWp.region ?_
  refine AOps.s0 (Cert.boxV rfl) rfl ?_
  refine AOps.s0 (Cert.boxV rfl) rfl ?_
  refine AOps.s0 (Cert.assign (by conv => lhs; whnf)) rfl ?_
  refine AOps.nil ?_
  refine hK1 _ ?_
  clear hK1 K1
  refine AWp.seqK fun K2 hK2 => ?_
  refine AWp.region ?_
  refine AOps.sE StepE.makeMap rfl (fun _ _ _ ⟨id7, hid7, e1, e2, e3⟩ => ?_); subst e1 e2 e3
  refine AOps.sL (Cert.allocL (Try.tab_ok _ _ rfl) rfl (by repeat (first | exact Snoc.nil | apply Snoc.cons))) rfl ?_
  refine AOps.sLn (Cert.storeL1 (Try.tab_ok _ _ rfl) rfl rfl rfl rfl (by repeat (first | exact SetAt.zero | apply SetAt.succ)) (by repeat (first | exact SetAt.zero | apply SetAt.succ))) ?_
  refine AOps.nil ?_
  refine hK2 _ ?_
  clear hK2 K2
  refine AWp.freeze 5 _ rfl (by repeat (first | exact Snoc.nil | apply Snoc.cons)) (Keeps.c (k := 2) (by conv => lhs; whnf) (by rfl) (Keeps.c (k := 3) (by conv => lhs; whnf) (by rfl) Keeps.nil)) ?_
  refine AWp.seqK fun K3 hK3 => ?_
  refine AWp.region ?_
  refine AOps.sE (StepE.allocO (Try.tab_ok _ _ rfl) rfl) rfl (fun _ _ _ ⟨id6, hid6, e1, e2, e3⟩ => ?_); subst e1 e2 e3
  refine AOps.nil ?_
  refine hK3 _ ?_
  clear hK3 K3
  refine AWp.seqK fun K4 hK4 => ?_
  refine AWp.region ?_
  refine AOps.s0 (Cert.makeFunc rfl) rfl ?_
  refine AOps.sHn (Cert.storeP1 (Try.tab_ok _ _ rfl) rfl rfl (by (first | assumption | exact Heap.set_same _ _ _ | ((repeat (refine (Heap.set_other _ _ (by first | assumption | (apply Ne.symm; assumption))).trans ?_)); first | assumption | exact Heap.set_same _ _ _) | (simp only [Heap.set_set, Heap.set_same]; done) | (simp [Heap.set, *]; done))) rfl (by repeat (first | exact SetAt.zero | apply SetAt.succ))) rfl rfl ?_
  refine AOps.nil ?_
  refine hK4 _ ?_
  clear hK4 K4
  refine AWp.seqK fun K5 hK5 => ?_
  refine AWp.region ?_
  have hmc : id7 ≠ c := Heap.ne_of hid7 (Heap.set_same _ _ _)
  have hmt : id7 ≠ tk := Heap.ne_of hid7 (by (first | assumption | exact Heap.set_same _ _ _ | ((repeat (refine (Heap.set_other _ _ (by first | assumption | (apply Ne.symm; assumption))).trans ?_)); first | assumption | exact Heap.set_same _ _ _) | (simp only [Heap.set_set, Heap.set_same]; done) | (simp [Heap.set, *]; done)))
  have hwm : id6 ≠ id7 := Heap.ne_of hid6 (Heap.set_same _ _ _)
  have hwc : id6 ≠ c := Heap.ne_of hid6 (by (first | assumption | exact Heap.set_same _ _ _ | ((repeat (refine (Heap.set_other _ _ (by first | assumption | (apply Ne.symm; assumption))).trans ?_)); first | assumption | exact Heap.set_same _ _ _) | (simp only [Heap.set_set, Heap.set_same]; done) | (simp [Heap.set, *]; done)))
  have hwt : id6 ≠ tk := Heap.ne_of hid6 (by (first | assumption | exact Heap.set_same _ _ _ | ((repeat (refine (Heap.set_other _ _ (by first | assumption | (apply Ne.symm; assumption))).trans ?_)); first | assumption | exact Heap.set_same _ _ _) | (simp only [Heap.set_set, Heap.set_same]; done) | (simp [Heap.set, *]; done)))
  refine AOps.s0 (Cert.loadP (Try.tab_ok _ _ rfl) rfl rfl (by (first | assumption | exact Heap.set_same _ _ _ | ((repeat (refine (Heap.set_other _ _ (by first | assumption | (apply Ne.symm; assumption))).trans ?_)); first | assumption | exact Heap.set_same _ _ _) | (simp only [Heap.set_set, Heap.set_same]; done) | (simp [Heap.set, *]; done))) rfl) rfl ?_
  refine AOps.s0 (Cert.loadV (Try.tab_ok _ _ rfl) rfl rfl rfl) rfl ?_
  refine AOps.sE (StepE.call rfl rfl (ACalls.atH (by ((funext n; simp only [Heap.set]; (repeat' split) <;> simp_all)) <;> first | rfl | exact ⟨rfl, rfl⟩) (sch_loops1 d t c tk id7 id6 F (H.set id6 (some (.cells [.func 48 [.view t.c, .view [.ptr c 0], .view [.map id7], .ptr id6 0]]))) hne hmc hmt hwc hwt hwm (Heap.set_same _ _ _) (d.defs.l.length + 1) [] t List.nodup_nil (by simp) (by simp)))) rfl (fun _ _ _ ⟨⟨b, S2, e1, e2, hb1, hb2⟩, e3⟩ => ?_); subst e1 e2 e3
  refine AOps.s0 (Cert.assign (by conv => lhs; whnf)) rfl ?_
  refine AOps.nil ?_
  refine hK5 _ ?_
  clear hK5 K5
  refine AWp.ret ?_
  repeat (first | refine xBlock_ret ?_ | refine xThen_ret ?_)
  have hr : b = reachB d t := by
    cases b with
    | true => symm; unfold reachB; simpa using hb1 rfl
    | false => symm; unfold reachB; simpa using (hb2 rfl).end
  subst hr
  refine retQ.retF (ck H c tk d F) rfl ⟨rfl, rfl⟩ ?_
  intro id o he
  have h1 : id ≠ id7 := fun e => by rw [e, hid7] at he; cases he
  have h2 : id ≠ id6 := fun e => by
    rw [Heap.set_other _ _ hwm, e.symm] at hid6
    rw [hid6] at he; cases he
  show dh _ c tk id7 d F S2 id = some o
  rw [← he]
  simp only [dh, ck, Heap.set]
  (repeat' split) <;> simp_all
end Go.Proofs


namespace Go.Proofs
open Go Go.Ab Go.Ab.Sch
theorem dh_new {H : Heap} {c tk : Nat} {d : Doc} {F : List Fault} {m : Nat} (h : ck H c tk d F m = none) : m ≠ c ∧ m ≠ tk ∧ H m = none := by
  have h1 : m ≠ c := Heap.ne_of h (Heap.set_same _ _ _)
  rw [ck, Heap.set_other _ _ h1] at h
  have h2 : m ≠ tk := Heap.ne_of h (Heap.set_same _ _ _)
  rw [Heap.set_other _ _ h2] at h
  exact ⟨h1, h2, h⟩
theorem dh_eq {H : Heap} {c tk m : Nat} {d : Doc} {F : List Fault} {S : List (List UInt8)} (h1 : m ≠ c) (h2 : m ≠ tk) : (ck H c tk d F).set m (some (.map (seenM S))) = dh H c tk m d F S := by
  funext n; simp only [dh, ck, Heap.set]; (repeat' split) <;> simp_all
theorem dh_sub {H : Heap} {c tk m : Nat} {d : Doc} {F : List Fault} {S : List (List UInt8)} (h : H m = none) : ∀ id o, ck H c tk d F id = some o → dh H c tk m d F S id = some o := by
  intro id o he
  rw [← he]
  simp only [dh, ck, Heap.set] at he ⊢
  (repeat' split) <;> simp_all
theorem sch_name' (d : Doc) (c tk m : Nat) (hne : tk ≠ c) (hmc : m ≠ c) (hmt : m ≠ tk) (F : List Fault) (hF : F.length ≤ 549755813888) (name at_ : List UInt8) (S : List (List UInt8)) (H : Heap) :
    ACalls Try.prog 49 [.d (.ptr c 0), .d (.str name), .d (.str at_), .d (.map m)] (dh H c tk m d F S) fun r h' => r = .tup [] ∧ h' = dh H c tk m d (F ++ names name false (S.contains name) at_) (insS S name) := by
  have h := sch_name d c tk m hne hmc hmt F hF name at_ S (H.set m (some (.map (seenM S)))) (Heap.set_same _ _ _)
  rw [Heap.set_set] at h
  exact h
theorem isInput_eq (d : Doc) (n : List UInt8) : isInput d n = isInputR d n := by
  unfold isInput leaf isInputR
  cases h : find d.defs.l n with
  | none => have : kind d n = 0 := by unfold kind; rw [h]; rfl
            rw [this]; simp
  | some t => simp
theorem typF_in (d : Doc) (n at_ : List UInt8) : typF d n at_ 1 = (if knownB d n then one (!isInputR d n) 10 at_ else one true 8 at_) := by
  unfold typF knownB
  rw [isInput_eq]
  cases (find d.defs.l n).isSome <;> cases scalar n <;> simp
theorem typF_out (d : Doc) (n at_ : List UInt8) : typF d n at_ 0 = (if knownB d n then one ((!scalar n && (find d.defs.l n).isSome) && decide (kind d n = 5)) 10 at_ else one true 8 at_) := by
  unfold typF knownB
  cases h : find d.defs.l n with
  | none => have : kind d n = 0 := by unfold kind; rw [h]; rfl
            rw [this]; cases scalar n <;> simp
  | some t => cases scalar n <;> simp
theorem typF_len (d : Doc) (n at_ : List UInt8) (p : Int) : (typF d n at_ p).length ≤ 1 := by
  unfold typF; split
  · exact one_len _ _ _
  · split <;> exact one_len _ _ _
theorem find_take_succ {α : Type} (p : α → Bool) (l : List α) (i : Nat) (h : i < l.length) : ((l.take (i + 1)).find? p).isSome = (((l.take i).find? p).isSome || p l[i]) := by
  rw [take_succ _ _ h, List.find?_append]
  cases (l.take i).find? p <;> cases hp : p l[i] <;> simp [hp]
theorem inputOf_succ (l : List Ab.Input) (i : Nat) (h : i < l.length) (n : List UInt8) : (inputOf (l.take (i + 1)) n).isSome = ((inputOf (l.take i) n).isSome || l[i].name.1 == n) := find_take_succ _ l i h
theorem fieldOf_succ (l : List Ab.Field) (i : Nat) (h : i < l.length) (n : List UInt8) : (fieldOf (l.take (i + 1)) n).isSome = ((fieldOf (l.take i) n).isSome || l[i].name.1 == n) := find_take_succ _ l i h
set_option maxRecDepth 100000 in
set_option maxHeartbeats 1000000 in
theorem sch_inputs (d : Doc) (c tk : Nat) (hne : tk ≠ c) (nl : Bool) (l : List Ab.Input) (hl : l.length ≤ 2048) (b e : List UInt8) (hb : b.length ≤ 1152921504606846976) (he : e.length ≤ 1152921504606846976) (F : List Fault) (hF : F.length ≤ 137438953472) (H : Heap) :
    ACalls Try.prog 42 [.d (.ptr c 0), .d (.slice 10 none nl (l.map Input.c)), .d (.str b), .d (.str e)] (ck H c tk d F) fun r h' => r = .tup [] ∧ h' = ck H c tk d (F ++ inputsF d l b e l.length) := by
  refine ACalls.of_wp (fn := Try.f42) (c := _) Try.tab_ok (fun _ _ => Try.call42 _ _) Try.func42 rfl (n := 38) rfl (rs := []) rfl rfl ?_
  refine AWp.seqK fun K1 hK1 => ?_
  refine AWp.region ?_
  refine AOps.sE StepE.makeMap rfl (fun _ _ _ ⟨id12, hid12, e1, e2, e3⟩ => ?_); subst e1 e2 e3
  refine AOps.s0 (Cert.assign (by conv => lhs; whnf)) rfl ?_
  refine AOps.nil ?_
  refine hK1 _ ?_
  clear hK1 K1
  refine AWp.seqK fun K2 hK2 => ?_
  refine AWp.region ?_
  obtain ⟨hmc, hmt, hmn⟩ := dh_new hid12
  refine AOps.s0 (Cert.move (by conv => lhs; whnf)) rfl ?_
  refine AOps.s0 (Cert.lenA (Try.tab_ok _ _ rfl) rfl rfl rfl) rfl ?_
  refine AOps.s0 (Cert.move (by conv => lhs; whnf)) rfl ?_
  refine AOps.nil ?_
  refine hK2 _ ?_
  clear hK2 K2
  refine AWp.block ?_
  refine AWp.loopH (KeepsT.cons (k := 0) (by conv => lhs; whnf) (KeepsT.cons (k := 2) (by conv => lhs; whnf) (KeepsT.cons (k := 3) (by conv => lhs; whnf) (KeepsT.cons (k := 8) (by conv => lhs; whnf) (KeepsT.cons (k := 13) (by conv => lhs; whnf) (KeepsT.cons (k := 14) (by conv => lhs; whnf) KeepsT.nil)))))) (fun (x : Nat × List (List UInt8) × List Fault) => [(15, .a (.d (.int .i64 x.1)))]) (fun x => dh H c tk id12 d x.2.2 x.2.1)
    (fun x => l.length - x.1) (fun x => x.1 ≤ l.length ∧ (∀ n, x.2.1.contains n = (inputOf (l.take x.1) n).isSome) ∧ x.2.2 = F ++ inputsF d l b e x.1) (0, [], F) ⟨Nat.zero_le _, fun _ => rfl, by simp [inputsF]⟩ (Weak.to (by repeat (first | exact Keeps.nil | refine Keeps.c rfl rfl ?_ | refine Keeps.c (by (first | (first | rfl | ((conv => lhs; whnf); first | (simp [cellsA, faultsT, faultsD, namesD, Fault.mk_c, Nat.add_assoc, empty_append, Bool.and_assoc]; done) | (simp [cellsA, faultsT, faultsD, namesD, Nat.add_assoc, empty_append, Bool.and_assoc]; repeat (first | rfl | constructor)))) | rfl | (simp only [get_same, ev]; done) | (simp [*, cellsA]; done) | (show V.a (A.d (D.slice _ _ _ _)) = V.a (A.d (D.slice _ _ _ _)); simp [*, cellsA]; done))) rfl ?_)) (by repeat (first | exact Pfx.nil | apply Pfx.cons)) (by first | rfl | (first | rfl | (simp only [Heap.set_set, List.length_append, List.length_nil, List.length_cons, List.length_map, List.length_singleton, Nat.zero_add]; done) | (simp [Heap.set_set, Nat.add_assoc]; done)) | (((funext n; simp only [Heap.set]; (repeat' split) <;> simp_all)) <;> first | rfl | exact ⟨rfl, rfl⟩))) ?_
  rintro ⟨i, S, F1⟩ ⟨hi, hS, hF1⟩ K3 hK3
  dsimp only at hi hS hF1
  refine AWp.seqK fun K4 hK4 => ?_
  refine AWp.region ?_
  refine AOps.s0 (Cert.binI rfl rfl rfl) rfl ?_
  refine AOps.nil ?_
  refine hK4 _ ?_
  clear hK4 K4
  refine AWp.seqK fun K5 hK5 => ?_
  refine AWp.cond rfl (fun hc0 => ?_) (fun hc0 => ?_)
  · first
    | (cases hc0; done)
    | skip
    refine AWp.skip ?_
    refine hK5 _ ?_
    clear hK5 K5
    refine AWp.seqK fun K6 hK6 => ?_
    refine AWp.block ?_
    refine AWp.seqK fun K7 hK7 => ?_
    refine AWp.region ?_
    have hi3 : i < l.length := map_lt hc0
    have hx : (l[i]'hi3).name.1.length ≤ 140737488355328 := (l[i]'hi3).name.2
    have hn := names_len (l[i]'hi3).name.1 false (S.contains (l[i]'hi3).name.1) (b ++ (l[i]'hi3).name.1 ++ e)
    have hil := inputsF_len d l b e i
    have hFl : F1.length ≤ F.length + 3 * i := by rw [hF1, List.length_append]; omega
    refine AOps.s0 (Cert.indexA (Try.tab_ok _ _ rfl) rfl (Try.tab_ok _ _ rfl) rfl rfl rfl (by omega) (map_get (by assumption))) rfl ?_
    refine AOps.s0 (Cert.loadV (Try.tab_ok _ _ rfl) rfl rfl rfl) rfl ?_
    refine AOps.sL (Cert.allocL (Try.tab_ok _ _ rfl) rfl (by repeat (first | exact Snoc.nil | apply Snoc.cons))) rfl ?_
    refine AOps.sLn (Cert.storeLF (Try.tab_ok _ _ rfl) rfl rfl rfl rfl rfl (by repeat (first | exact SetAt.zero | apply SetAt.succ))) ?_
    refine AOps.nil ?_
    refine hK7 _ ?_
    clear hK7 K7
    refine AWp.freeze 10 _ rfl (by repeat (first | exact Snoc.nil | apply Snoc.cons)) (Keeps.c (k := 0) (by conv => lhs; whnf) (by rfl) (Keeps.c (k := 2) (by conv => lhs; whnf) (by rfl) (Keeps.c (k := 3) (by conv => lhs; whnf) (by rfl) (Keeps.c (k := 8) (by conv => lhs; whnf) (by rfl) (Keeps.c (k := 13) (by conv => lhs; whnf) (by rfl) (Keeps.c (k := 14) (by conv => lhs; whnf) (by rfl) (Keeps.c (k := 15) (by conv => lhs; whnf) (by rfl) Keeps.nil))))))) ?_
    refine AWp.seqK fun K8 hK8 => ?_
    refine AWp.region ?_
    refine AOps.s0 (Cert.move (by conv => lhs; whnf)) rfl ?_
    refine AOps.s0 (Cert.fieldV (Try.tab_ok _ _ rfl) rfl rfl (Try.tab_ok _ _ rfl) rfl rfl (by conv => lhs; whnf)) rfl ?_
    refine AOps.s0 (Cert.loadV (Try.tab_ok _ _ rfl) rfl rfl rfl) rfl ?_
    refine AOps.s0 (Cert.concat rfl rfl (by first | omega | (show _ ≤ 4611686018427387904; simp only [List.length_append, List.length_cons, List.length_nil]; omega))) rfl ?_
    refine AOps.s0 (Cert.move (by conv => lhs; whnf)) rfl ?_
    refine AOps.s0 (Cert.concat rfl rfl (by first | omega | (show _ ≤ 4611686018427387904; simp only [List.length_append, List.length_cons, List.length_nil]; omega))) rfl ?_
    refine AOps.s0 (Cert.assign (by conv => lhs; whnf)) rfl ?_
    refine AOps.nil ?_
    refine hK8 _ ?_
    clear hK8 K8
    refine AWp.seqK fun K9 hK9 => ?_
    refine AWp.region ?_
    refine AOps.s0 (Cert.move (by conv => lhs; whnf)) rfl ?_
    refine AOps.s0 (Cert.fieldV (Try.tab_ok _ _ rfl) rfl rfl (Try.tab_ok _ _ rfl) rfl rfl (by conv => lhs; whnf)) rfl ?_
    refine AOps.s0 (Cert.loadV (Try.tab_ok _ _ rfl) rfl rfl rfl) rfl ?_
    refine AOps.s0 (Cert.move (by conv => lhs; whnf)) rfl ?_
    refine AOps.s0 (Cert.move (by conv => lhs; whnf)) rfl ?_
    refine AOps.sH (Cert.callH rfl rfl (sch_name' d c tk id12 hne hmc hmt F1 (by omega) (l[i]'hi3).name.1 (b ++ (l[i]'hi3).name.1 ++ e) S H)) rfl ?_
    refine AOps.nil ?_
    refine hK9 _ ?_
    clear hK9 K9
    refine AWp.region ?_
    refine AOps.s0 (Cert.move (by conv => lhs; whnf)) rfl ?_
    refine AOps.s0 (Cert.fieldV (Try.tab_ok _ _ rfl) rfl rfl (Try.tab_ok _ _ rfl) rfl rfl (by conv => lhs; whnf)) rfl ?_
    refine AOps.s0 (Cert.fieldV (Try.tab_ok _ _ rfl) rfl rfl (Try.tab_ok _ _ rfl) rfl rfl (by conv => lhs; whnf)) rfl ?_
    refine AOps.s0 (Cert.loadV (Try.tab_ok _ _ rfl) rfl rfl rfl) rfl ?_
    refine AOps.s0 (Cert.move (by conv => lhs; whnf)) rfl ?_
    refine AOps.sH (Cert.callH rfl rfl (sch_typ d c tk hne (F1 ++ names (l[i]'hi3).name.1 false (S.contains (l[i]'hi3).name.1) (b ++ (l[i]'hi3).name.1 ++ e)) (by rw [List.length_append]; omega) (l[i]'hi3).type.name.1 (b ++ (l[i]'hi3).name.1 ++ e) 1 (H.set id12 (some (.map (seenM (insS S (l[i]'hi3).name.1))))))) rfl ?_
    refine AOps.nil ?_
    refine hK6 _ ?_
    clear hK6 K6
    refine AWp.region ?_
    refine AOps.s0 (Cert.addI rfl rfl (by first | omega | (dsimp only; omega)) (by first | omega | (dsimp only; omega))) rfl ?_
    refine AOps.s0 (Cert.move (by conv => lhs; whnf)) rfl ?_
    refine AOps.nil ?_
    have hi4 : i < l.length := hi3
    refine hK3 _ (i + 1, insS S (l[i]'hi3).name.1, F1 ++ names (l[i]'hi3).name.1 false (S.contains (l[i]'hi3).name.1) (b ++ (l[i]'hi3).name.1 ++ e) ++ typF d (l[i]'hi3).type.name.1 (b ++ (l[i]'hi3).name.1 ++ e) 1) (Weak.to (by repeat (first | exact Keeps.nil | refine Keeps.c rfl rfl ?_ | refine Keeps.c (by (first | (first | rfl | ((conv => lhs; whnf); first | (simp [cellsA, faultsT, faultsD, namesD, Fault.mk_c, Nat.add_assoc, empty_append, Bool.and_assoc]; done) | (simp [cellsA, faultsT, faultsD, namesD, Nat.add_assoc, empty_append, Bool.and_assoc]; repeat (first | rfl | constructor)))) | rfl | (simp only [get_same, ev]; done) | (simp [*, cellsA]; done) | (show V.a (A.d (D.slice _ _ _ _)) = V.a (A.d (D.slice _ _ _ _)); simp [*, cellsA]; done))) rfl ?_)) (by repeat (first | exact Pfx.nil | apply Pfx.cons)) (by first | rfl | (first | rfl | (simp only [Heap.set_set, List.length_append, List.length_nil, List.length_cons, List.length_map, List.length_singleton, Nat.zero_add]; done) | (simp [Heap.set_set, Nat.add_assoc]; done)) | (((funext n; simp only [Heap.set]; (repeat' split) <;> simp_all)) <;> first | rfl | exact ⟨rfl, rfl⟩))) ⟨hi3, fun n => ?_, ?_⟩ (by dsimp only; omega)
    · dsimp only
      rw [insS_mem, inputOf_succ _ _ hi3, hS]
    · dsimp only
      rw [inputsF_succ, typF_in, hF1, hS]
      unfold inputF
      rw [getD_eq l i hi3]
      simp only [List.append_assoc]
  · first
    | (cases hc0; done)
    | skip
    refine AWp.exit ?_
    repeat (first | refine xBlock_normal ?_ | refine xThen_exit ?_ | refine xBlock_exit ?_)
    have h2 : i = l.length := Nat.le_antisymm hi (map_ge hc0)
    subst h2
    rw [hF1]
    refine retQ.normalF (xs := []) (ck H c tk d (F ++ inputsF d l b e l.length)) rfl ⟨rfl, rfl⟩ (dh_sub hmn)
end Go.Proofs


namespace Go.Proofs
open Go Go.Ab Go.Ab.Sch
theorem mseen_mem (l : List Member) (i : Nat) (h : i < l.length) (S : List (List UInt8)) (hS : ∀ n, S.contains n = mseenB l i n) (n : List UInt8) : (insS S l[i].name.1).contains n = mseenB l (i + 1) n := by
  rw [insS_mem, mseenB_succ _ _ _ h, hS]
set_option maxRecDepth 100000 in
set_option maxHeartbeats 1000000 in
theorem sch_members (d : Doc) (c tk : Nat) (hne : tk ≠ c) (t : Def) (hl : t.members.l.length ≤ 2048) (F : List Fault) (hF : F.length ≤ 137438953472) (H : Heap) :
    ACalls Try.prog 41 [.d (.ptr c 0), .agg t.c] (ck H c tk d F) fun r h' => r = .tup [] ∧ h' = ck H c tk d (F ++ membersF t.name.1 t.members.l t.members.l.length) := by
  refine ACalls.of_wp (fn := Try.f41) (c := _) Try.tab_ok (fun _ _ => Try.call41 _ _) Try.func41 rfl (n := 62) rfl (rs := []) rfl rfl ?_
  refine AWp.seqK fun K1 hK1 => ?_
  refine AWp.region ?_
  refine AOps.s0 (Cert.boxV rfl) rfl ?_
  refine AOps.nil ?_
  refine hK1 _ ?_
  clear hK1 K1
  refine AWp.seqK fun K2 hK2 => ?_
  refine AWp.region ?_
  refine AOps.sE StepE.makeMap rfl (fun _ _ _ ⟨id9, hid9, e1, e2, e3⟩ => ?_); subst e1 e2 e3
  refine AOps.s0 (Cert.assign (by conv => lhs; whnf)) rfl ?_
  refine AOps.nil ?_
  refine hK2 _ ?_
  clear hK2 K2
  refine AWp.seqK fun K3 hK3 => ?_
  refine AWp.region ?_
  obtain ⟨hmc, hmt, hmn⟩ := dh_new hid9
  refine AOps.s0 (Cert.fieldV (Try.tab_ok _ _ rfl) rfl rfl (Try.tab_ok _ _ rfl) rfl rfl (by conv => lhs; whnf)) rfl ?_
  refine AOps.s0 (Cert.loadV (Try.tab_ok _ _ rfl) rfl rfl rfl) rfl ?_
  refine AOps.s0 (Cert.lenA (Try.tab_ok _ _ rfl) rfl rfl rfl) rfl ?_
  refine AOps.s0 (Cert.move (by conv => lhs; whnf)) rfl ?_
  refine AOps.nil ?_
  refine hK3 _ ?_
  clear hK3 K3
  refine AWp.block ?_
  refine AWp.loopH (KeepsT.cons (k := 0) (by conv => lhs; whnf) (KeepsT.cons (k := 3) (by conv => lhs; whnf) (KeepsT.cons (k := 4) (by conv => lhs; whnf) (KeepsT.cons (k := 11) (by conv => lhs; whnf) (KeepsT.cons (k := 12) (by conv => lhs; whnf) KeepsT.nil))))) (fun (x : Nat × List (List UInt8) × List Fault) => [(13, .a (.d (.int .i64 x.1)))]) (fun x => dh H c tk id9 d x.2.2 x.2.1)
    (fun x => t.members.l.length - x.1) (fun x => x.1 ≤ t.members.l.length ∧ (∀ n, x.2.1.contains n = mseenB t.members.l x.1 n) ∧ x.2.2 = F ++ membersF t.name.1 t.members.l x.1) (0, [], F) ⟨Nat.zero_le _, fun _ => rfl, by simp [membersF]⟩ (Weak.to (by repeat (first | exact Keeps.nil | refine Keeps.c rfl rfl ?_ | refine Keeps.c (by (first | (first | rfl | ((conv => lhs; whnf); first | (simp [cellsA, faultsT, faultsD, namesD, Fault.mk_c, Nat.add_assoc, empty_append, Bool.and_assoc]; done) | (simp [cellsA, faultsT, faultsD, namesD, Nat.add_assoc, empty_append, Bool.and_assoc]; repeat (first | rfl | constructor)))) | rfl | (simp only [get_same, ev]; done) | (simp [*, cellsA]; done) | (show V.a (A.d (D.slice _ _ _ _)) = V.a (A.d (D.slice _ _ _ _)); simp [*, cellsA]; done))) rfl ?_)) (by repeat (first | exact Pfx.nil | apply Pfx.cons)) (by first | rfl | (first | rfl | (simp only [Heap.set_set, List.length_append, List.length_nil, List.length_cons, List.length_map, List.length_singleton, Nat.zero_add]; done) | (simp [Heap.set_set, Nat.add_assoc]; done)) | (((funext n; simp only [Heap.set]; (repeat' split) <;> simp_all)) <;> first | rfl | exact ⟨rfl, rfl⟩))) ?_
  rintro ⟨i, S, F1⟩ ⟨hi, hS, hF1⟩ K4 hK4
  dsimp only at hi hS hF1
  refine AWp.seqK fun K5 hK5 => ?_
  refine AWp.region ?_
  refine AOps.s0 (Cert.binI rfl rfl rfl) rfl ?_
  refine AOps.nil ?_
  refine hK5 _ ?_
  clear hK5 K5
  refine AWp.seqK fun K6 hK6 => ?_
  refine AWp.cond rfl (fun hc0 => ?_) (fun hc0 => ?_)
  · first
    | (cases hc0; done)
    | skip
    refine AWp.skip ?_
    refine hK6 _ ?_
    clear hK6 K6
    refine AWp.seqK fun K7 hK7 => ?_
    refine AWp.block ?_
    refine AWp.seqK fun K8 hK8 => ?_
    refine AWp.region ?_
    have hi3 : i < t.members.l.length := map_lt hc0
    have hx : (t.members.l[i]'hi3).name.1.length ≤ 140737488355328 := (t.members.l[i]'hi3).name.2
    have hx2 : t.name.1.length ≤ 140737488355328 := t.name.2
    have hn := one_len ((wordB (t.members.l[i]'hi3).name.1 || !nameI (t.members.l[i]'hi3).name.1) || reservedB (t.members.l[i]'hi3).name.1) 6 (t.name.1 ++ dot ++ (t.members.l[i]'hi3).name.1)
    have hil := membersF_len t.name.1 t.members.l i
    have hFl : F1.length ≤ F.length + 2 * i := by rw [hF1, List.length_append]; omega
    refine AOps.s0 (Cert.indexA (Try.tab_ok _ _ rfl) rfl (Try.tab_ok _ _ rfl) rfl rfl rfl (by omega) (map_get (by assumption))) rfl ?_
    refine AOps.s0 (Cert.loadV (Try.tab_ok _ _ rfl) rfl rfl rfl) rfl ?_
    refine AOps.sL (Cert.allocL (Try.tab_ok _ _ rfl) rfl (by repeat (first | exact Snoc.nil | apply Snoc.cons))) rfl ?_
    refine AOps.sLn (Cert.storeLF (Try.tab_ok _ _ rfl) rfl rfl rfl rfl rfl (by repeat (first | exact SetAt.zero | apply SetAt.succ))) ?_
    refine AOps.nil ?_
    refine hK8 _ ?_
    clear hK8 K8
    refine AWp.freeze 6 _ rfl (by repeat (first | exact Snoc.nil | apply Snoc.cons)) (Keeps.c (k := 0) (by conv => lhs; whnf) (by rfl) (Keeps.c (k := 3) (by conv => lhs; whnf) (by rfl) (Keeps.c (k := 4) (by conv => lhs; whnf) (by rfl) (Keeps.c (k := 11) (by conv => lhs; whnf) (by rfl) (Keeps.c (k := 12) (by conv => lhs; whnf) (by rfl) (Keeps.c (k := 13) (by conv => lhs; whnf) (by rfl) Keeps.nil)))))) ?_
    refine AWp.seqK fun K9 hK9 => ?_
    refine AWp.region ?_
    refine AOps.s0 (Cert.fieldV (Try.tab_ok _ _ rfl) rfl rfl (Try.tab_ok _ _ rfl) rfl rfl (by conv => lhs; whnf)) rfl ?_
    refine AOps.s0 (Cert.loadV (Try.tab_ok _ _ rfl) rfl rfl rfl) rfl ?_
    refine AOps.s0 (Cert.concat rfl rfl (by first | omega | (show _ ≤ 4611686018427387904; simp only [List.length_append, List.length_cons, List.length_nil]; omega))) rfl ?_
    refine AOps.s0 (Cert.fieldV (Try.tab_ok _ _ rfl) rfl rfl (Try.tab_ok _ _ rfl) rfl rfl (by conv => lhs; whnf)) rfl ?_
    refine AOps.s0 (Cert.loadV (Try.tab_ok _ _ rfl) rfl rfl rfl) rfl ?_
    refine AOps.s0 (Cert.concat rfl rfl (by first | omega | (show _ ≤ 4611686018427387904; simp only [List.length_append, List.length_cons, List.length_nil]; omega))) rfl ?_
    refine AOps.s0 (Cert.assign (by conv => lhs; whnf)) rfl ?_
    refine AOps.nil ?_
    refine hK9 _ ?_
    clear hK9 K9
    refine AWp.seqK fun K10 hK10 => ?_
    refine AWp.region ?_
    refine AOps.s0 (Cert.fieldV (Try.tab_ok _ _ rfl) rfl rfl (Try.tab_ok _ _ rfl) rfl rfl (by conv => lhs; whnf)) rfl ?_
    refine AOps.s0 (Cert.loadV (Try.tab_ok _ _ rfl) rfl rfl rfl) rfl ?_
    refine AOps.s0 (Cert.binS rfl rfl rfl) rfl ?_
    refine AOps.s0 (Cert.move (by conv => lhs; whnf)) rfl ?_
    refine AOps.gC rfl rfl (fun hC => Cert.fieldV (Try.tab_ok _ _ rfl) rfl rfl (Try.tab_ok _ _ rfl) rfl rfl (by conv => lhs; whnf)) rfl ?_
    refine AOps.gC rfl rfl (fun hC => Cert.ungd (k := 27) rfl (by first | exact hC | exact andL hC | exact andL (andL hC) | exact andL (andL (andL hC)) | exact andR hC | simp_all) (Cert.loadV (Try.tab_ok _ _ rfl) rfl rfl rfl)) rfl ?_
    refine AOps.gC rfl rfl (fun hC => Cert.ungd (k := 28) rfl (by first | exact hC | exact andL hC | exact andL (andL hC) | exact andL (andL (andL hC)) | exact andR hC | simp_all) (Cert.binS rfl rfl rfl)) rfl ?_
    refine AOps.s0 (Cert.pickOr rfl rfl rfl (fun h => by first | exact h | exact notT h | exact andI hC h | exact andI hC (notT h) | simp_all)) rfl ?_
    refine AOps.s0 (Cert.move (by conv => lhs; whnf)) rfl ?_
    refine AOps.gC rfl rfl (fun hC => Cert.fieldV (Try.tab_ok _ _ rfl) rfl rfl (Try.tab_ok _ _ rfl) rfl rfl (by conv => lhs; whnf)) rfl ?_
    refine AOps.gC rfl rfl (fun hC => Cert.ungd (k := 32) rfl (by first | exact hC | exact andL hC | exact andL (andL hC) | exact andL (andL (andL hC)) | exact andR hC | simp_all) (Cert.loadV (Try.tab_ok _ _ rfl) rfl rfl rfl)) rfl ?_
    refine AOps.gC rfl rfl (fun hC => Cert.ungd (k := 33) rfl (by first | exact hC | exact andL hC | exact andL (andL hC) | exact andL (andL (andL hC)) | exact andR hC | simp_all) (Cert.binS rfl rfl rfl)) rfl ?_
    refine AOps.s0 (Cert.pickOr rfl rfl rfl (fun h => by first | exact h | exact notT h | exact andI hC h | exact andI hC (notT h) | simp_all)) rfl ?_
    refine AOps.s0 (Cert.assign (by conv => lhs; whnf)) rfl ?_
    refine AOps.nil ?_
    refine hK10 _ ?_
    clear hK10 K10
    refine AWp.seqK fun K11 hK11 => ?_
    refine AWp.region ?_
    refine AOps.s0 (Cert.move (by conv => lhs; whnf)) rfl ?_
    refine AOps.s0 (Cert.move (by conv => lhs; whnf)) rfl ?_
    refine AOps.s0 (Cert.move (by conv => lhs; whnf)) rfl ?_
    refine AOps.gC rfl rfl (fun hC => Cert.fieldV (Try.tab_ok _ _ rfl) rfl rfl (Try.tab_ok _ _ rfl) rfl rfl (by conv => lhs; whnf)) rfl ?_
    refine AOps.gC rfl rfl (fun hC => Cert.ungd (k := 39) rfl (by first | exact hC | exact andL hC | exact andL (andL hC) | exact andL (andL (andL hC)) | exact andR hC | simp_all) (Cert.loadV (Try.tab_ok _ _ rfl) rfl rfl rfl)) rfl ?_
    refine AOps.gC rfl rfl (fun hC => Cert.ungd (k := 40) rfl (by first | exact hC | exact andL hC | exact andL (andL hC) | exact andL (andL (andL hC)) | exact andR hC | simp_all) (Cert.callP rfl rfl (text_Name _))) rfl ?_
    refine AOps.gC rfl rfl (fun hC => Cert.ungd (k := 41) rfl (by first | exact hC | exact andL hC | exact andL (andL hC) | exact andL (andL (andL hC)) | exact andR hC | simp_all) (Cert.notB rfl)) rfl ?_
    refine AOps.s0 (Cert.pickOr rfl rfl rfl (fun h => by first | exact h | exact notT h | exact andI hC h | exact andI hC (notT h) | simp_all)) rfl ?_
    refine AOps.s0 (Cert.move (by conv => lhs; whnf)) rfl ?_
    refine AOps.gC rfl rfl (fun hC => Cert.fieldV (Try.tab_ok _ _ rfl) rfl rfl (Try.tab_ok _ _ rfl) rfl rfl (by conv => lhs; whnf)) rfl ?_
    refine AOps.gC rfl rfl (fun hC => Cert.ungd (k := 45) rfl (by first | exact hC | exact andL hC | exact andL (andL hC) | exact andL (andL (andL hC)) | exact andR hC | simp_all) (Cert.loadV (Try.tab_ok _ _ rfl) rfl rfl rfl)) rfl ?_
    refine AOps.gC rfl rfl (fun hC => Cert.ungd (k := 46) rfl (by first | exact hC | exact andL hC | exact andL (andL hC) | exact andL (andL (andL hC)) | exact andR hC | simp_all) (Cert.callP rfl rfl (text_Reserved _))) rfl ?_
    refine AOps.s0 (Cert.pickOr rfl rfl rfl (fun h => by first | exact h | exact notT h | exact andI hC h | exact andI hC (notT h) | simp_all)) rfl ?_
    refine AOps.s0 (Cert.move (by conv => lhs; whnf)) rfl ?_
    refine AOps.sH (Cert.callH rfl rfl (sch_add d c tk hne F1 (by omega) ((wordB (t.members.l[i]'hi3).name.1 || !nameI (t.members.l[i]'hi3).name.1) || reservedB (t.members.l[i]'hi3).name.1) 6 (t.name.1 ++ dot ++ (t.members.l[i]'hi3).name.1) (H.set id9 (some (.map (seenM S)))))) rfl ?_
    refine AOps.nil ?_
    refine hK11 _ ?_
    clear hK11 K11
    refine AWp.seqK fun K12 hK12 => ?_
    refine AWp.region ?_
    refine AOps.s0 (Cert.move (by conv => lhs; whnf)) rfl ?_
    refine AOps.s0 (Cert.move (by conv => lhs; whnf)) rfl ?_
    refine AOps.s0 (Cert.fieldV (Try.tab_ok _ _ rfl) rfl rfl (Try.tab_ok _ _ rfl) rfl rfl (by conv => lhs; whnf)) rfl ?_
    refine AOps.s0 (Cert.loadV (Try.tab_ok _ _ rfl) rfl rfl rfl) rfl ?_
    refine AOps.s0 (Cert.lookupSeen (Try.tab_ok _ _ rfl) rfl (Try.tab_ok _ _ rfl) (Try.tab_ok _ _ rfl) rfl rfl rfl rfl (by (first | assumption | exact Heap.set_same _ _ _ | ((repeat (refine (Heap.set_other _ _ (by first | assumption | (apply Ne.symm; assumption))).trans ?_)); first | assumption | exact Heap.set_same _ _ _) | (simp only [Heap.set_set, Heap.set_same]; done) | (simp [Heap.set, *]; done)))) rfl ?_
    refine AOps.s0 (Cert.move (by conv => lhs; whnf)) rfl ?_
    refine AOps.sH (Cert.callH rfl rfl (sch_add d c tk hne (F1 ++ one ((wordB (t.members.l[i]'hi3).name.1 || !nameI (t.members.l[i]'hi3).name.1) || reservedB (t.members.l[i]'hi3).name.1) 6 (t.name.1 ++ dot ++ (t.members.l[i]'hi3).name.1)) (by rw [List.length_append]; omega) (S.contains (t.members.l[i]'hi3).name.1) 7 (t.name.1 ++ dot ++ (t.members.l[i]'hi3).name.1) (H.set id9 (some (.map (seenM S)))))) rfl ?_
    refine AOps.nil ?_
    refine hK12 _ ?_
    clear hK12 K12
    refine AWp.region ?_
    refine AOps.s0 (Cert.move (by conv => lhs; whnf)) rfl ?_
    refine AOps.s0 (Cert.fieldV (Try.tab_ok _ _ rfl) rfl rfl (Try.tab_ok _ _ rfl) rfl rfl (by conv => lhs; whnf)) rfl ?_
    refine AOps.s0 (Cert.loadV (Try.tab_ok _ _ rfl) rfl rfl rfl) rfl ?_
    refine AOps.sHn (Cert.mapUpdate (Try.tab_ok _ _ rfl) rfl (Try.tab_ok _ _ rfl) rfl rfl rfl rfl (by (first | assumption | exact Heap.set_same _ _ _ | ((repeat (refine (Heap.set_other _ _ (by first | assumption | (apply Ne.symm; assumption))).trans ?_)); first | assumption | exact Heap.set_same _ _ _) | (simp only [Heap.set_set, Heap.set_same]; done) | (simp [Heap.set, *]; done))) (by first | exact seen_upd _ _ | assumption) rfl) rfl rfl ?_
    refine AOps.nil ?_
    refine hK7 _ ?_
    clear hK7 K7
    refine AWp.region ?_
    refine AOps.s0 (Cert.addI rfl rfl (by first | omega | (dsimp only; omega)) (by first | omega | (dsimp only; omega))) rfl ?_
    refine AOps.s0 (Cert.move (by conv => lhs; whnf)) rfl ?_
    refine AOps.nil ?_
    refine hK4 _ (i + 1, insS S (t.members.l[i]'hi3).name.1, F1 ++ one ((wordB (t.members.l[i]'hi3).name.1 || !nameI (t.members.l[i]'hi3).name.1) || reservedB (t.members.l[i]'hi3).name.1) 6 (t.name.1 ++ dot ++ (t.members.l[i]'hi3).name.1) ++ one (S.contains (t.members.l[i]'hi3).name.1) 7 (t.name.1 ++ dot ++ (t.members.l[i]'hi3).name.1)) (Weak.to (by repeat (first | exact Keeps.nil | refine Keeps.c rfl rfl ?_ | refine Keeps.c (by (first | (first | rfl | ((conv => lhs; whnf); first | (simp [cellsA, faultsT, faultsD, namesD, Fault.mk_c, Nat.add_assoc, empty_append, Bool.and_assoc]; done) | (simp [cellsA, faultsT, faultsD, namesD, Nat.add_assoc, empty_append, Bool.and_assoc]; repeat (first | rfl | constructor)))) | rfl | (simp only [get_same, ev]; done) | (simp [*, cellsA]; done) | (show V.a (A.d (D.slice _ _ _ _)) = V.a (A.d (D.slice _ _ _ _)); simp [*, cellsA]; done))) rfl ?_)) (by repeat (first | exact Pfx.nil | apply Pfx.cons)) (by first | rfl | (first | rfl | (simp only [Heap.set_set, List.length_append, List.length_nil, List.length_cons, List.length_map, List.length_singleton, Nat.zero_add]; done) | (simp [Heap.set_set, Nat.add_assoc]; done)) | (((funext n; simp only [Heap.set]; (repeat' split) <;> simp_all)) <;> first | rfl | exact ⟨rfl, rfl⟩))) ⟨hi3, fun n => mseen_mem _ _ hi3 _ hS n, ?_⟩ (by dsimp only; omega)
    dsimp only
    rw [membersF_succ, hF1, hS]
    unfold memberF names allowed
    rw [getD_eq _ i hi3, nameI_eq]
    simp only [Bool.not_and, Bool.not_not, Bool.or_assoc, List.append_assoc]
  · first
    | (cases hc0; done)
    | skip
    refine AWp.exit ?_
    repeat (first | refine xBlock_normal ?_ | refine xThen_exit ?_ | refine xBlock_exit ?_)
    have h2 : i = t.members.l.length := Nat.le_antisymm hi (map_ge hc0)
    rw [h2] at hF1
    rw [hF1]
    refine retQ.normalF (xs := []) (ck H c tk d (F ++ membersF t.name.1 t.members.l t.members.l.length)) rfl ⟨rfl, rfl⟩ (dh_sub hmn)
set_option maxRecDepth 100000 in
set_option maxHeartbeats 1000000 in
theorem sch_fields (d : Doc) (c tk : Nat) (hne : tk ≠ c) (t : Def) (hl : t.fields.l.length ≤ 2048) (ha : ∀ f ∈ t.fields.l, f.args.l.length ≤ 2048) (F : List Fault) (hF : F.length ≤ 68719476736) (H : Heap) :
    ACalls Try.prog 40 [.d (.ptr c 0), .agg t.c] (ck H c tk d F) fun r h' => r = .tup [] ∧ h' = ck H c tk d (F ++ fieldsF d t.name.1 t.fields.l t.fields.l.length) := by
  refine ACalls.of_wp (fn := Try.f40) (c := _) Try.tab_ok (fun _ _ => Try.call40 _ _) Try.func40 rfl (n := 41) rfl (rs := []) rfl rfl ?_
  refine AWp.seqK fun K1 hK1 => ?_
  refine AWp.region ?_
  refine AOps.s0 (Cert.boxV rfl) rfl ?_
  refine AOps.nil ?_
  refine hK1 _ ?_
  clear hK1 K1
  refine AWp.seqK fun K2 hK2 => ?_
  refine AWp.region ?_
  refine AOps.sE StepE.makeMap rfl (fun _ _ _ ⟨id8, hid8, e1, e2, e3⟩ => ?_); subst e1 e2 e3
  refine AOps.s0 (Cert.assign (by conv => lhs; whnf)) rfl ?_
  refine AOps.nil ?_
  refine hK2 _ ?_
  clear hK2 K2
  refine AWp.seqK fun K3 hK3 => ?_
  refine AWp.region ?_
  obtain ⟨hmc, hmt, hmn⟩ := dh_new hid8
  refine AOps.s0 (Cert.fieldV (Try.tab_ok _ _ rfl) rfl rfl (Try.tab_ok _ _ rfl) rfl rfl (by conv => lhs; whnf)) rfl ?_
  refine AOps.s0 (Cert.loadV (Try.tab_ok _ _ rfl) rfl rfl rfl) rfl ?_
  refine AOps.s0 (Cert.lenA (Try.tab_ok _ _ rfl) rfl rfl rfl) rfl ?_
  refine AOps.s0 (Cert.move (by conv => lhs; whnf)) rfl ?_
  refine AOps.nil ?_
  refine hK3 _ ?_
  clear hK3 K3
  refine AWp.block ?_
  refine AWp.loopH (KeepsT.cons (k := 0) (by conv => lhs; whnf) (KeepsT.cons (k := 3) (by conv => lhs; whnf) (KeepsT.cons (k := 4) (by conv => lhs; whnf) (KeepsT.cons (k := 10) (by conv => lhs; whnf) (KeepsT.cons (k := 11) (by conv => lhs; whnf) KeepsT.nil))))) (fun (x : Nat × List (List UInt8) × List Fault) => [(12, .a (.d (.int .i64 x.1)))]) (fun x => dh H c tk id8 d x.2.2 x.2.1)
    (fun x => t.fields.l.length - x.1) (fun x => x.1 ≤ t.fields.l.length ∧ (∀ n, x.2.1.contains n = (fieldOf (t.fields.l.take x.1) n).isSome) ∧ x.2.2 = F ++ fieldsF d t.name.1 t.fields.l x.1) (0, [], F) ⟨Nat.zero_le _, fun _ => rfl, by simp [fieldsF]⟩ (Weak.to (by repeat (first | exact Keeps.nil | refine Keeps.c rfl rfl ?_ | refine Keeps.c (by (first | (first | rfl | ((conv => lhs; whnf); first | (simp [cellsA, faultsT, faultsD, namesD, Fault.mk_c, Nat.add_assoc, empty_append, Bool.and_assoc]; done) | (simp [cellsA, faultsT, faultsD, namesD, Nat.add_assoc, empty_append, Bool.and_assoc]; repeat (first | rfl | constructor)))) | rfl | (simp only [get_same, ev]; done) | (simp [*, cellsA]; done) | (show V.a (A.d (D.slice _ _ _ _)) = V.a (A.d (D.slice _ _ _ _)); simp [*, cellsA]; done))) rfl ?_)) (by repeat (first | exact Pfx.nil | apply Pfx.cons)) (by first | rfl | (first | rfl | (simp only [Heap.set_set, List.length_append, List.length_nil, List.length_cons, List.length_map, List.length_singleton, Nat.zero_add]; done) | (simp [Heap.set_set, Nat.add_assoc]; done)) | (((funext n; simp only [Heap.set]; (repeat' split) <;> simp_all)) <;> first | rfl | exact ⟨rfl, rfl⟩))) ?_
  rintro ⟨i, S, F1⟩ ⟨hi, hS, hF1⟩ K4 hK4
  dsimp only at hi hS hF1
  refine AWp.seqK fun K5 hK5 => ?_
  refine AWp.region ?_
  refine AOps.s0 (Cert.binI rfl rfl rfl) rfl ?_
  refine AOps.nil ?_
  refine hK5 _ ?_
  clear hK5 K5
  refine AWp.seqK fun K6 hK6 => ?_
  refine AWp.cond rfl (fun hc0 => ?_) (fun hc0 => ?_)
  · first
    | (cases hc0; done)
    | skip
    refine AWp.skip ?_
    refine hK6 _ ?_
    clear hK6 K6
    refine AWp.seqK fun K7 hK7 => ?_
    refine AWp.block ?_
    refine AWp.seqK fun K8 hK8 => ?_
    refine AWp.region ?_
    have hi3 : i < t.fields.l.length := map_lt hc0
    have hx : (t.fields.l[i]'hi3).name.1.length ≤ 140737488355328 := (t.fields.l[i]'hi3).name.2
    have hx2 : t.name.1.length ≤ 140737488355328 := t.name.2
    have hn := names_len (t.fields.l[i]'hi3).name.1 false (S.contains (t.fields.l[i]'hi3).name.1) (t.name.1 ++ dot ++ (t.fields.l[i]'hi3).name.1)
    have hty := typF_len d (t.fields.l[i]'hi3).type.name.1 (t.name.1 ++ dot ++ (t.fields.l[i]'hi3).name.1) 0
    have hil := fieldsF_len d t.name.1 t.fields.l ha i
    have hFl : F1.length ≤ F.length + 8192 * i := by rw [hF1, List.length_append]; omega
    refine AOps.s0 (Cert.indexA (Try.tab_ok _ _ rfl) rfl (Try.tab_ok _ _ rfl) rfl rfl rfl (by omega) (map_get (by assumption))) rfl ?_
    refine AOps.s0 (Cert.loadV (Try.tab_ok _ _ rfl) rfl rfl rfl) rfl ?_
    refine AOps.sL (Cert.allocL (Try.tab_ok _ _ rfl) rfl (by repeat (first | exact Snoc.nil | apply Snoc.cons))) rfl ?_
    refine AOps.sLn (Cert.storeLF (Try.tab_ok _ _ rfl) rfl rfl rfl rfl rfl (by repeat (first | exact SetAt.zero | apply SetAt.succ))) ?_
    refine AOps.nil ?_
    refine hK8 _ ?_
    clear hK8 K8
    refine AWp.freeze 6 _ rfl (by repeat (first | exact Snoc.nil | apply Snoc.cons)) (Keeps.c (k := 0) (by conv => lhs; whnf) (by rfl) (Keeps.c (k := 3) (by conv => lhs; whnf) (by rfl) (Keeps.c (k := 4) (by conv => lhs; whnf) (by rfl) (Keeps.c (k := 10) (by conv => lhs; whnf) (by rfl) (Keeps.c (k := 11) (by conv => lhs; whnf) (by rfl) (Keeps.c (k := 12) (by conv => lhs; whnf) (by rfl) Keeps.nil)))))) ?_
    refine AWp.seqK fun K9 hK9 => ?_
    refine AWp.region ?_
    refine AOps.s0 (Cert.fieldV (Try.tab_ok _ _ rfl) rfl rfl (Try.tab_ok _ _ rfl) rfl rfl (by conv => lhs; whnf)) rfl ?_
    refine AOps.s0 (Cert.loadV (Try.tab_ok _ _ rfl) rfl rfl rfl) rfl ?_
    refine AOps.s0 (Cert.concat rfl rfl (by first | omega | (show _ ≤ 4611686018427387904; simp only [List.length_append, List.length_cons, List.length_nil]; omega))) rfl ?_
    refine AOps.s0 (Cert.fieldV (Try.tab_ok _ _ rfl) rfl rfl (Try.tab_ok _ _ rfl) rfl rfl (by conv => lhs; whnf)) rfl ?_
    refine AOps.s0 (Cert.loadV (Try.tab_ok _ _ rfl) rfl rfl rfl) rfl ?_
    refine AOps.s0 (Cert.concat rfl rfl (by first | omega | (show _ ≤ 4611686018427387904; simp only [List.length_append, List.length_cons, List.length_nil]; omega))) rfl ?_
    refine AOps.s0 (Cert.assign (by conv => lhs; whnf)) rfl ?_
    refine AOps.nil ?_
    refine hK9 _ ?_
    clear hK9 K9
    refine AWp.seqK fun K10 hK10 => ?_
    refine AWp.region ?_
    refine AOps.s0 (Cert.move (by conv => lhs; whnf)) rfl ?_
    refine AOps.s0 (Cert.fieldV (Try.tab_ok _ _ rfl) rfl rfl (Try.tab_ok _ _ rfl) rfl rfl (by conv => lhs; whnf)) rfl ?_
    refine AOps.s0 (Cert.loadV (Try.tab_ok _ _ rfl) rfl rfl rfl) rfl ?_
    refine AOps.s0 (Cert.move (by conv => lhs; whnf)) rfl ?_
    refine AOps.s0 (Cert.move (by conv => lhs; whnf)) rfl ?_
    refine AOps.sH (Cert.callH rfl rfl (sch_name' d c tk id8 hne hmc hmt F1 (by omega) (t.fields.l[i]'hi3).name.1 (t.name.1 ++ dot ++ (t.fields.l[i]'hi3).name.1) S H)) rfl ?_
    refine AOps.nil ?_
    refine hK10 _ ?_
    clear hK10 K10
    refine AWp.seqK fun K11 hK11 => ?_
    refine AWp.region ?_
    refine AOps.s0 (Cert.move (by conv => lhs; whnf)) rfl ?_
    refine AOps.s0 (Cert.fieldV (Try.tab_ok _ _ rfl) rfl rfl (Try.tab_ok _ _ rfl) rfl rfl (by conv => lhs; whnf)) rfl ?_
    refine AOps.s0 (Cert.fieldV (Try.tab_ok _ _ rfl) rfl rfl (Try.tab_ok _ _ rfl) rfl rfl (by conv => lhs; whnf)) rfl ?_
    refine AOps.s0 (Cert.loadV (Try.tab_ok _ _ rfl) rfl rfl rfl) rfl ?_
    refine AOps.s0 (Cert.move (by conv => lhs; whnf)) rfl ?_
    refine AOps.sH (Cert.callH rfl rfl (sch_typ d c tk hne (F1 ++ names (t.fields.l[i]'hi3).name.1 false (S.contains (t.fields.l[i]'hi3).name.1) (t.name.1 ++ dot ++ (t.fields.l[i]'hi3).name.1)) (by rw [List.length_append]; omega) (t.fields.l[i]'hi3).type.name.1 (t.name.1 ++ dot ++ (t.fields.l[i]'hi3).name.1) 0 (H.set id8 (some (.map (seenM (insS S (t.fields.l[i]'hi3).name.1))))))) rfl ?_
    refine AOps.nil ?_
    refine hK11 _ ?_
    clear hK11 K11
    refine AWp.region ?_
    refine AOps.s0 (Cert.move (by conv => lhs; whnf)) rfl ?_
    refine AOps.s0 (Cert.fieldV (Try.tab_ok _ _ rfl) rfl rfl (Try.tab_ok _ _ rfl) rfl rfl (by conv => lhs; whnf)) rfl ?_
    refine AOps.s0 (Cert.loadV (Try.tab_ok _ _ rfl) rfl rfl rfl) rfl ?_
    refine AOps.s0 (Cert.move (by conv => lhs; whnf)) rfl ?_
    refine AOps.s0 (Cert.concat rfl rfl (by first | omega | (show _ ≤ 4611686018427387904; simp only [List.length_append, List.length_cons, List.length_nil]; omega))) rfl ?_
    refine AOps.sH (Cert.callH rfl rfl (sch_inputs d c tk hne _ (t.fields.l[i]'hi3).args.l (ha _ (List.getElem_mem hi3)) (t.name.1 ++ dot ++ (t.fields.l[i]'hi3).name.1 ++ [40]) [41] (by simp [dot]; omega) (by decide) (F1 ++ names (t.fields.l[i]'hi3).name.1 false (S.contains (t.fields.l[i]'hi3).name.1) (t.name.1 ++ dot ++ (t.fields.l[i]'hi3).name.1) ++ typF d (t.fields.l[i]'hi3).type.name.1 (t.name.1 ++ dot ++ (t.fields.l[i]'hi3).name.1) 0) (by rw [List.length_append, List.length_append]; omega) (H.set id8 (some (.map (seenM (insS S (t.fields.l[i]'hi3).name.1))))))) rfl ?_
    refine AOps.nil ?_
    refine hK7 _ ?_
    clear hK7 K7
    refine AWp.region ?_
    refine AOps.s0 (Cert.addI rfl rfl (by first | omega | (dsimp only; omega)) (by first | omega | (dsimp only; omega))) rfl ?_
    refine AOps.s0 (Cert.move (by conv => lhs; whnf)) rfl ?_
    refine AOps.nil ?_
    refine hK4 _ (i + 1, insS S (t.fields.l[i]'hi3).name.1, F1 ++ names (t.fields.l[i]'hi3).name.1 false (S.contains (t.fields.l[i]'hi3).name.1) (t.name.1 ++ dot ++ (t.fields.l[i]'hi3).name.1) ++ typF d (t.fields.l[i]'hi3).type.name.1 (t.name.1 ++ dot ++ (t.fields.l[i]'hi3).name.1) 0 ++ inputsF d (t.fields.l[i]'hi3).args.l (t.name.1 ++ dot ++ (t.fields.l[i]'hi3).name.1 ++ [40]) [41] (t.fields.l[i]'hi3).args.l.length) (Weak.to (by repeat (first | exact Keeps.nil | refine Keeps.c rfl rfl ?_ | refine Keeps.c (by (first | (first | rfl | ((conv => lhs; whnf); first | (simp [cellsA, faultsT, faultsD, namesD, Fault.mk_c, Nat.add_assoc, empty_append, Bool.and_assoc]; done) | (simp [cellsA, faultsT, faultsD, namesD, Nat.add_assoc, empty_append, Bool.and_assoc]; repeat (first | rfl | constructor)))) | rfl | (simp only [get_same, ev]; done) | (simp [*, cellsA]; done) | (show V.a (A.d (D.slice _ _ _ _)) = V.a (A.d (D.slice _ _ _ _)); simp [*, cellsA]; done))) rfl ?_)) (by repeat (first | exact Pfx.nil | apply Pfx.cons)) (by first | rfl | (first | rfl | (simp only [Heap.set_set, List.length_append, List.length_nil, List.length_cons, List.length_map, List.length_singleton, Nat.zero_add]; done) | (simp [Heap.set_set, Nat.add_assoc]; done)) | (((funext n; simp only [Heap.set]; (repeat' split) <;> simp_all)) <;> first | rfl | exact ⟨rfl, rfl⟩))) ⟨hi3, fun n => ?_, ?_⟩ (by dsimp only; omega)
    · dsimp only
      rw [insS_mem, fieldOf_succ _ _ hi3, hS]
    · dsimp only
      rw [fieldsF_succ, typF_out, hF1, hS]
      unfold fieldF
      rw [getD_eq _ i hi3]
      simp only [List.append_assoc]
  · first
    | (cases hc0; done)
    | skip
    refine AWp.exit ?_
    repeat (first | refine xBlock_normal ?_ | refine xThen_exit ?_ | refine xBlock_exit ?_)
    have h2 : i = t.fields.l.length := Nat.le_antisymm hi (map_ge hc0)
    rw [h2] at hF1
    rw [hF1]
    refine retQ.normalF (xs := []) (ck H c tk d (F ++ fieldsF d t.name.1 t.fields.l t.fields.l.length)) rfl ⟨rfl, rfl⟩ (dh_sub hmn)
end Go.Proofs

