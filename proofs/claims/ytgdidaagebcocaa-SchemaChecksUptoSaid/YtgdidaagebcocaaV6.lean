import Derived.Test.YtgdidaagebcocaaV5
import Derived.Test.YtgdidaagebcocaaRows
set_option linter.unusedVariables false
set_option linter.unusedSimpArgs false
namespace Go.Proofs
open Go Go.Ab Go.Ab.Sch
/-! ### The size of a document -/
structure BdT (t : Def) : Prop where
  fields : t.fields.l.length ≤ 1048576
  members : t.members.l.length ≤ 1048576
  inputs : t.inputs.l.length ≤ 1048576
  dirs : t.dirs.l.length ≤ 1048576
  impls : t.impls.l.length ≤ 1048576
  sub : ∀ f ∈ t.fields.l, f.args.l.length ≤ 1048576 ∧ f.dirs.l.length ≤ 1048576
structure Bd (d : Doc) : Prop where
  defs : d.defs.l.length ≤ 1048576
  each : ∀ t ∈ d.defs.l, BdT t
def fieldN (f : Ab.Field) : Nat := f.args.l.length + f.dirs.l.length
def fieldsN (l : List Ab.Field) : Nat := (l.map fieldN).sum
def ownN (t : Def) : Nat := 1 + t.fields.l.length + t.members.l.length + t.inputs.l.length + t.dirs.l.length + t.impls.l.length
def partN (t : Def) : Nat := ownN t + fieldsN t.fields.l
def totN (l : List Def) : Nat := (l.map partN).sum
theorem sum_take {α : Type} (f : α → Nat) (l : List α) (i : Nat) (h : i < l.length) : ((l.take (i + 1)).map f).sum = ((l.take i).map f).sum + f l[i] := by
  rw [take_succ _ _ h, List.map_append, List.sum_append]; simp
theorem mem_sum {α : Type} {f : α → Nat} {l : List α} {a : α} (h : a ∈ l) : f a ≤ (l.map f).sum := by
  induction l with
  | nil => cases h
  | cons x r ih =>
    simp only [List.map_cons, List.sum_cons]
    rcases List.mem_cons.1 h with e | e
    · subst e; omega
    · have := ih e; omega
theorem sum_bd {α : Type} (f : α → Nat) (b : Nat) : ∀ (l : List α), (∀ a ∈ l, f a ≤ b) → (l.map f).sum ≤ l.length * b
  | [], _ => by simp
  | a :: l, h => by
    have h1 := h a (by simp)
    have h2 := sum_bd f b l fun x hx => h x (by simp [hx])
    simp only [List.map_cons, List.sum_cons, List.length_cons, Nat.succ_mul]; omega
theorem BdT.fieldsN {t : Def} (h : BdT t) (k : Nat) : fieldsN (t.fields.l.take k) ≤ 2199023255552 := by
  have h1 := sum_bd fieldN 2097152 (t.fields.l.take k) fun f hf => by
    have := h.sub f (List.mem_of_mem_take hf)
    unfold fieldN; omega
  have h2 : (t.fields.l.take k).length ≤ 1048576 := by have := h.fields; simp; omega
  have h3 := Nat.mul_le_mul_right 2097152 h2
  unfold Go.Proofs.fieldsN; omega
theorem BdT.partN {t : Def} (h : BdT t) : partN t ≤ 2199028498433 := by
  have h1 := h.fieldsN t.fields.l.length
  rw [List.take_length] at h1
  have := h.fields; have := h.members; have := h.inputs; have := h.dirs; have := h.impls
  unfold Go.Proofs.partN ownN; omega
theorem Bd.totN {d : Doc} (h : Bd d) (i : Nat) (hi : i ≤ 70) : totN (d.defs.l.take i) ≤ 153931994890310 := by
  have h1 := sum_bd Go.Proofs.partN 2199028498433 (d.defs.l.take i) fun t ht => (h.each t (List.mem_of_mem_take ht)).partN
  have h2 : (d.defs.l.take i).length ≤ 70 := by simp; omega
  have h3 := Nat.mul_le_mul_right 2199028498433 h2
  unfold Go.Proofs.totN; omega
def largeB (d : Doc) : Bool := decide (70 < d.defs.l.length) || decide (1000 < totN d.defs.l)
theorem largeB_small {d : Doc} (h : largeB d = false) : Small d := by
  unfold largeB at h
  simp only [Bool.or_eq_false_iff, decide_eq_false_iff_not] at h
  have hp : ∀ t ∈ d.defs.l, partN t ≤ 1000 := fun t ht => by
    have := mem_sum (f := partN) ht
    unfold totN at h; omega
  have hf : ∀ t ∈ d.defs.l, ∀ f ∈ t.fields.l, fieldN f ≤ 1000 := fun t ht f hf => by
    have h1 := hp t ht
    have := mem_sum (f := fieldN) hf
    unfold partN fieldsN at h1; omega
  refine ⟨by omega, fun t ht => ?_, fun t ht => ?_, fun t ht => ?_, fun t ht f hf' => ?_⟩
  · have := hp t ht; unfold partN ownN at this; omega
  · have := hp t ht; unfold partN ownN at this; omega
  · have := hp t ht; unfold partN ownN at this; omega
  · have := hf t ht f hf'; unfold fieldN at this; omega
set_option maxRecDepth 100000 in
set_option maxHeartbeats 1000000 in
theorem ref_Large (d : Doc) (hb : Bd d) (H : Heap) : ACalls Try.prog 8 [.agg d.c] H fun r h' => r = .a (.d (.bool (largeB d))) ∧ h' = H := by
  refine ACalls.of_wp (fn := Try.f8) (c := _) Try.tab_ok (fun _ _ => Try.call8 _ _) Try.func8 rfl (n := 71) rfl (rs := [.tmp 2]) rfl rfl ?_
  refine AWp.seqK fun K1 hK1 => ?_
  refine AWp.region ?_
  refine AOps.s0 (Cert.boxV rfl) rfl ?_
  refine AOps.s0 (Cert.assign (by conv => lhs; whnf)) rfl ?_
  refine AOps.nil ?_
  refine hK1 _ ?_
  clear hK1 K1
  refine AWp.seqK fun K2 hK2 => ?_
  refine AWp.seqK fun K3 hK3 => ?_
  refine AWp.region ?_
  refine AOps.s0 (Cert.fieldV (Try.tab_ok _ _ rfl) rfl rfl (Try.tab_ok _ _ rfl) rfl rfl (by conv => lhs; whnf)) rfl ?_
  refine AOps.s0 (Cert.loadV (Try.tab_ok _ _ rfl) rfl rfl rfl) rfl ?_
  refine AOps.s0 (Cert.lenA (Try.tab_ok _ _ rfl) rfl rfl rfl) rfl ?_
  refine AOps.s0 (Cert.binI rfl rfl rfl) rfl ?_
  refine AOps.nil ?_
  refine hK3 _ ?_
  clear hK3 K3
  refine AWp.cond rfl (fun hc0 => ?_) (fun hc0 => ?_)
  · first
    | (cases hc0; done)
    | skip
    refine AWp.seqK fun K4 hK4 => ?_
    refine AWp.region ?_
    refine AOps.s0 (Cert.assign (by conv => lhs; whnf)) rfl ?_
    refine AOps.nil ?_
    refine hK4 _ ?_
    clear hK4 K4
    refine AWp.ret ?_
    repeat (first | refine xBlock_ret ?_ | refine xThen_ret ?_)
    first
    | (refine retQ.ret rfl ⟨?_, rfl⟩
       have h1 : decide (70 < d.defs.l.length) = true := by have := of_decide_eq_true hc0; simp only [List.length_map] at this; exact decide_eq_true (by omega)
       unfold largeB; rw [h1]; rfl)
    | (refine retQ.ret rfl ⟨?_, rfl⟩
       have h1 : decide (70 < d.defs.l.length) = false := decide_eq_false (by omega)
       have h2 : i = d.defs.l.length := Nat.le_antisymm hi (map_ge hc1)
       rw [h2, List.take_length] at hn
       unfold largeB; rw [h1, Bool.false_or]
       have h3 : decide (1000 < n) = decide (1000 < totN d.defs.l) := by rw [hn]; exact decide_eq_decide.2 (by omega)
       rw [← h3]; rfl)
  · first
    | (cases hc0; done)
    | skip
    refine AWp.skip ?_
    refine hK2 _ ?_
    clear hK2 K2
    refine AWp.seqK fun K5 hK5 => ?_
    refine AWp.region ?_
    refine AOps.s0 (Cert.assign (by conv => lhs; whnf)) rfl ?_
    refine AOps.nil ?_
    refine hK5 _ ?_
    clear hK5 K5
    refine AWp.seqK fun K6 hK6 => ?_
    refine AWp.seqK fun K7 hK7 => ?_
    refine AWp.region ?_
    refine AOps.s0 (Cert.assign (by conv => lhs; whnf)) rfl ?_
    refine AOps.nil ?_
    refine hK7 _ ?_
    clear hK7 K7
    refine AWp.block ?_
    have hle : d.defs.l.length ≤ 70 := by have := of_decide_eq_false hc0; simp only [List.length_map] at this; omega
    refine AWp.loopC (KeepsT.cons (k := 1) (by conv => lhs; whnf) KeepsT.nil) (fun x : Nat × Int => [(4, .a (.d (.int .i64 x.1))), (3, .a (.d (.int .i64 x.2)))])
      (fun x => d.defs.l.length - x.1) (fun x => x.1 ≤ d.defs.l.length ∧ x.2 = (totN (d.defs.l.take x.1) : Nat)) (0, 0) ⟨Nat.zero_le _, rfl⟩ (Weak.to (by repeat (first | exact Keeps.nil | refine Keeps.c rfl rfl ?_ | refine Keeps.c (by (first | (first | rfl | ((conv => lhs; whnf); first | (simp [cellsA, faultsT, faultsD, namesD, Fault.mk_c, Nat.add_assoc, empty_append, Bool.and_assoc]; done) | (simp [cellsA, faultsT, faultsD, namesD, Nat.add_assoc, empty_append, Bool.and_assoc]; repeat (first | rfl | constructor)))) | rfl | (simp only [get_same, ev]; done) | (simp [*, cellsA]; done) | (show V.a (A.d (D.slice _ _ _ _)) = V.a (A.d (D.slice _ _ _ _)); simp [*, cellsA]; done))) rfl ?_)) (by repeat (first | exact Pfx.nil | apply Pfx.cons)) (by first | rfl | (first | rfl | (simp only [Heap.set_set, List.length_append, List.length_nil, List.length_cons, List.length_map, List.length_singleton, Nat.zero_add]; done) | (simp [Heap.set_set, Nat.add_assoc]; done)) | (((funext n; simp only [Heap.set]; (repeat' split) <;> simp_all)) <;> first | rfl | exact ⟨rfl, rfl⟩))) ?_
    rintro ⟨i, n⟩ ⟨hi, hn⟩ K8 hK8
    dsimp only at hi hn
    have hB := hb.totN i (by omega)
    refine AWp.seqK fun K9 hK9 => ?_
    refine AWp.seqK fun K10 hK10 => ?_
    refine AWp.region ?_
    refine AOps.s0 (Cert.move (by conv => lhs; whnf)) rfl ?_
    refine AOps.s0 (Cert.fieldV (Try.tab_ok _ _ rfl) rfl rfl (Try.tab_ok _ _ rfl) rfl rfl (by conv => lhs; whnf)) rfl ?_
    refine AOps.s0 (Cert.loadV (Try.tab_ok _ _ rfl) rfl rfl rfl) rfl ?_
    refine AOps.s0 (Cert.lenA (Try.tab_ok _ _ rfl) rfl rfl rfl) rfl ?_
    refine AOps.s0 (Cert.binI rfl rfl rfl) rfl ?_
    refine AOps.nil ?_
    refine hK10 _ ?_
    clear hK10 K10
    refine AWp.cond rfl (fun hc1 => ?_) (fun hc1 => ?_)
    · first
      | (cases hc1; done)
      | skip
      refine AWp.skip ?_
      refine hK9 _ ?_
      clear hK9 K9
      refine AWp.seqK fun K11 hK11 => ?_
      refine AWp.block ?_
      refine AWp.seqK fun K12 hK12 => ?_
      refine AWp.region ?_
      have hi3 : i < d.defs.l.length := map_lt hc1
      have hT := hb.each _ (List.getElem_mem hi3)
      have g1 : ((d.defs.l[i]'hi3).fields.l.map Field.c).length ≤ 1048576 := by simp only [List.length_map]; exact hT.fields
      have g2 : ((d.defs.l[i]'hi3).members.l.map Member.c).length ≤ 1048576 := by simp only [List.length_map]; exact hT.members
      have g3 : ((d.defs.l[i]'hi3).inputs.l.map Input.c).length ≤ 1048576 := by simp only [List.length_map]; exact hT.inputs
      have g4 : ((d.defs.l[i]'hi3).dirs.l.map Dir.c).length ≤ 1048576 := by simp only [List.length_map]; exact hT.dirs
      have g5 : ((d.defs.l[i]'hi3).impls.l.map strC).length ≤ 1048576 := by simp only [List.length_map]; exact hT.impls
      refine AOps.s0 (Cert.fieldV (Try.tab_ok _ _ rfl) rfl rfl (Try.tab_ok _ _ rfl) rfl rfl (by conv => lhs; whnf)) rfl ?_
      refine AOps.s0 (Cert.loadV (Try.tab_ok _ _ rfl) rfl rfl rfl) rfl ?_
      refine AOps.s0 (Cert.move (by conv => lhs; whnf)) rfl ?_
      refine AOps.s0 (Cert.indexA (Try.tab_ok _ _ rfl) rfl (Try.tab_ok _ _ rfl) rfl rfl rfl (by omega) (map_get (by assumption))) rfl ?_
      refine AOps.s0 (Cert.loadV (Try.tab_ok _ _ rfl) rfl rfl rfl) rfl ?_
      refine AOps.sL (Cert.allocL (Try.tab_ok _ _ rfl) rfl (by repeat (first | exact Snoc.nil | apply Snoc.cons))) rfl ?_
      refine AOps.sLn (Cert.storeLF (Try.tab_ok _ _ rfl) rfl rfl rfl rfl rfl (by repeat (first | exact SetAt.zero | apply SetAt.succ))) ?_
      refine AOps.nil ?_
      refine hK12 _ ?_
      clear hK12 K12
      refine AWp.freeze 5 _ rfl (by repeat (first | exact Snoc.nil | apply Snoc.cons)) (Keeps.c (k := 1) (by conv => lhs; whnf) (by rfl) (Keeps.c (k := 3) (by conv => lhs; whnf) (by rfl) (Keeps.c (k := 4) (by conv => lhs; whnf) (by rfl) Keeps.nil))) ?_
      refine AWp.seqK fun K13 hK13 => ?_
      refine AWp.region ?_
      refine AOps.s0 (Cert.move (by conv => lhs; whnf)) rfl ?_
      refine AOps.s0 (Cert.fieldV (Try.tab_ok _ _ rfl) rfl rfl (Try.tab_ok _ _ rfl) rfl rfl (by conv => lhs; whnf)) rfl ?_
      refine AOps.s0 (Cert.loadV (Try.tab_ok _ _ rfl) rfl rfl rfl) rfl ?_
      refine AOps.s0 (Cert.lenA (Try.tab_ok _ _ rfl) rfl rfl rfl) rfl ?_
      refine AOps.s0 (Cert.addI rfl rfl (by first | omega | (dsimp only; omega)) (by first | omega | (dsimp only; omega))) rfl ?_
      refine AOps.s0 (Cert.fieldV (Try.tab_ok _ _ rfl) rfl rfl (Try.tab_ok _ _ rfl) rfl rfl (by conv => lhs; whnf)) rfl ?_
      refine AOps.s0 (Cert.loadV (Try.tab_ok _ _ rfl) rfl rfl rfl) rfl ?_
      refine AOps.s0 (Cert.lenA (Try.tab_ok _ _ rfl) rfl rfl rfl) rfl ?_
      refine AOps.s0 (Cert.addI rfl rfl (by first | omega | (dsimp only; omega)) (by first | omega | (dsimp only; omega))) rfl ?_
      refine AOps.s0 (Cert.fieldV (Try.tab_ok _ _ rfl) rfl rfl (Try.tab_ok _ _ rfl) rfl rfl (by conv => lhs; whnf)) rfl ?_
      refine AOps.s0 (Cert.loadV (Try.tab_ok _ _ rfl) rfl rfl rfl) rfl ?_
      refine AOps.s0 (Cert.lenA (Try.tab_ok _ _ rfl) rfl rfl rfl) rfl ?_
      refine AOps.s0 (Cert.addI rfl rfl (by first | omega | (dsimp only; omega)) (by first | omega | (dsimp only; omega))) rfl ?_
      refine AOps.s0 (Cert.fieldV (Try.tab_ok _ _ rfl) rfl rfl (Try.tab_ok _ _ rfl) rfl rfl (by conv => lhs; whnf)) rfl ?_
      refine AOps.s0 (Cert.loadV (Try.tab_ok _ _ rfl) rfl rfl rfl) rfl ?_
      refine AOps.s0 (Cert.lenA (Try.tab_ok _ _ rfl) rfl rfl rfl) rfl ?_
      refine AOps.s0 (Cert.addI rfl rfl (by first | omega | (dsimp only; omega)) (by first | omega | (dsimp only; omega))) rfl ?_
      refine AOps.s0 (Cert.fieldV (Try.tab_ok _ _ rfl) rfl rfl (Try.tab_ok _ _ rfl) rfl rfl (by conv => lhs; whnf)) rfl ?_
      refine AOps.s0 (Cert.loadV (Try.tab_ok _ _ rfl) rfl rfl rfl) rfl ?_
      refine AOps.s0 (Cert.lenA (Try.tab_ok _ _ rfl) rfl rfl rfl) rfl ?_
      refine AOps.s0 (Cert.addI rfl rfl (by first | omega | (dsimp only; omega)) (by first | omega | (dsimp only; omega))) rfl ?_
      refine AOps.s0 (Cert.addI rfl rfl (by first | omega | (dsimp only; omega)) (by first | omega | (dsimp only; omega))) rfl ?_
      refine AOps.s0 (Cert.assign (by conv => lhs; whnf)) rfl ?_
      refine AOps.nil ?_
      refine hK13 _ ?_
      clear hK13 K13
      refine AWp.seqK fun K14 hK14 => ?_
      refine AWp.region ?_
      refine AOps.s0 (Cert.assign (by conv => lhs; whnf)) rfl ?_
      refine AOps.nil ?_
      refine hK14 _ ?_
      clear hK14 K14
      refine AWp.block ?_
      refine AWp.loopC (KeepsT.cons (k := 1) (by conv => lhs; whnf) (KeepsT.cons (k := 4) (by conv => lhs; whnf) (KeepsT.cons (k := 5) (by conv => lhs; whnf) KeepsT.nil))) (fun x : Nat × Int => [(6, .a (.d (.int .i64 x.1))), (3, .a (.d (.int .i64 x.2)))])
        (fun x => (d.defs.l[i]'hi3).fields.l.length - x.1) (fun x => x.1 ≤ (d.defs.l[i]'hi3).fields.l.length ∧ x.2 = n + (ownN (d.defs.l[i]'hi3) : Nat) + (fieldsN ((d.defs.l[i]'hi3).fields.l.take x.1) : Nat))
        (0, n + (1 + (((d.defs.l[i]'hi3).fields.l.map Field.c).length : Int) + (((d.defs.l[i]'hi3).members.l.map Member.c).length : Int) + (((d.defs.l[i]'hi3).inputs.l.map Input.c).length : Int) + (((d.defs.l[i]'hi3).dirs.l.map Dir.c).length : Int) + (((d.defs.l[i]'hi3).impls.l.map strC).length : Int))) ⟨Nat.zero_le _, by dsimp only [fieldsN, ownN]; simp only [List.length_map, List.take_zero, List.map_nil, List.sum_nil]; omega⟩ (Weak.to (by repeat (first | exact Keeps.nil | refine Keeps.c rfl rfl ?_ | refine Keeps.c (by (first | (first | rfl | ((conv => lhs; whnf); first | (simp [cellsA, faultsT, faultsD, namesD, Fault.mk_c, Nat.add_assoc, empty_append, Bool.and_assoc]; done) | (simp [cellsA, faultsT, faultsD, namesD, Nat.add_assoc, empty_append, Bool.and_assoc]; repeat (first | rfl | constructor)))) | rfl | (simp only [get_same, ev]; done) | (simp [*, cellsA]; done) | (show V.a (A.d (D.slice _ _ _ _)) = V.a (A.d (D.slice _ _ _ _)); simp [*, cellsA]; done))) rfl ?_)) (by repeat (first | exact Pfx.nil | apply Pfx.cons)) (by first | rfl | (first | rfl | (simp only [Heap.set_set, List.length_append, List.length_nil, List.length_cons, List.length_map, List.length_singleton, Nat.zero_add]; done) | (simp [Heap.set_set, Nat.add_assoc]; done)) | (((funext n; simp only [Heap.set]; (repeat' split) <;> simp_all)) <;> first | rfl | exact ⟨rfl, rfl⟩))) ?_
      rintro ⟨k, m⟩ ⟨hk, hm⟩ K15 hK15
      dsimp only at hk hm
      have hF := hT.fieldsN k
      have hO : ownN (d.defs.l[i]'hi3) ≤ 5242881 := by
        have := hT.fields; have := hT.members; have := hT.inputs; have := hT.dirs; have := hT.impls
        unfold ownN; omega
      have hF2 := hT.fields
      refine AWp.seqK fun K16 hK16 => ?_
      refine AWp.seqK fun K17 hK17 => ?_
      refine AWp.region ?_
      refine AOps.s0 (Cert.move (by conv => lhs; whnf)) rfl ?_
      refine AOps.s0 (Cert.fieldV (Try.tab_ok _ _ rfl) rfl rfl (Try.tab_ok _ _ rfl) rfl rfl (by conv => lhs; whnf)) rfl ?_
      refine AOps.s0 (Cert.loadV (Try.tab_ok _ _ rfl) rfl rfl rfl) rfl ?_
      refine AOps.s0 (Cert.lenA (Try.tab_ok _ _ rfl) rfl rfl rfl) rfl ?_
      refine AOps.s0 (Cert.binI rfl rfl rfl) rfl ?_
      refine AOps.nil ?_
      refine hK17 _ ?_
      clear hK17 K17
      refine AWp.cond rfl (fun hc2 => ?_) (fun hc2 => ?_)
      · first
        | (cases hc2; done)
        | skip
        refine AWp.skip ?_
        refine hK16 _ ?_
        clear hK16 K16
        refine AWp.seqK fun K18 hK18 => ?_
        refine AWp.block ?_
        refine AWp.draw rfl ?_
        have hk3 : k < (d.defs.l[i]'hi3).fields.l.length := map_lt hc2
        have hs := hT.sub _ (List.getElem_mem hk3)
        have g6 : (((d.defs.l[i]'hi3).fields.l[k]'hk3).args.l.map Input.c).length ≤ 1048576 := by simp only [List.length_map]; exact hs.1
        have g7 : (((d.defs.l[i]'hi3).fields.l[k]'hk3).dirs.l.map Dir.c).length ≤ 1048576 := by simp only [List.length_map]; exact hs.2
        refine DOps.s0 (Cert.move (by conv => lhs; whnf)) rfl ?_
        refine DOps.s0 (Cert.fieldV (Try.tab_ok _ _ rfl) rfl rfl (Try.tab_ok _ _ rfl) rfl rfl (by conv => lhs; whnf)) rfl ?_
        refine DOps.s0 (Cert.loadV (Try.tab_ok _ _ rfl) rfl rfl rfl) rfl ?_
        refine DOps.s0 (Cert.move (by conv => lhs; whnf)) rfl ?_
        refine DOps.s0 (Cert.indexA (Try.tab_ok _ _ rfl) rfl (Try.tab_ok _ _ rfl) rfl rfl rfl (by omega) (map_get (by assumption))) rfl ?_
        refine DOps.s0 (Cert.fieldV (Try.tab_ok _ _ rfl) rfl rfl (Try.tab_ok _ _ rfl) rfl rfl (by conv => lhs; whnf)) rfl ?_
        refine DOps.s0 (Cert.loadV (Try.tab_ok _ _ rfl) rfl rfl rfl) rfl ?_
        refine DOps.s0 (Cert.lenA (Try.tab_ok _ _ rfl) rfl rfl rfl) rfl ?_
        refine DOps.s0 (Cert.fieldV (Try.tab_ok _ _ rfl) rfl rfl (Try.tab_ok _ _ rfl) rfl rfl (by conv => lhs; whnf)) rfl ?_
        refine DOps.s0 (Cert.loadV (Try.tab_ok _ _ rfl) rfl rfl rfl) rfl ?_
        refine DOps.s0 (Cert.move (by conv => lhs; whnf)) rfl ?_
        refine DOps.s0 (Cert.indexA (Try.tab_ok _ _ rfl) rfl (Try.tab_ok _ _ rfl) rfl rfl rfl (by omega) (map_get (by assumption))) rfl ?_
        refine DOps.s0 (Cert.fieldV (Try.tab_ok _ _ rfl) rfl rfl (Try.tab_ok _ _ rfl) rfl rfl (by conv => lhs; whnf)) rfl ?_
        refine DOps.s0 (Cert.loadV (Try.tab_ok _ _ rfl) rfl rfl rfl) rfl ?_
        refine DOps.s0 (Cert.lenA (Try.tab_ok _ _ rfl) rfl rfl rfl) rfl ?_
        refine DOps.s0 (Cert.addI rfl rfl (by first | omega | (dsimp only; omega)) (by first | omega | (dsimp only; omega))) rfl ?_
        refine DOps.s0 (Cert.addI rfl rfl (by first | omega | (dsimp only; omega)) (by first | omega | (dsimp only; omega))) rfl ?_
        refine DOps.s0 (Cert.assign (by conv => lhs; whnf)) rfl ?_
        refine DOps.nil (by decide +kernel) ?_
        refine hK18 _ ?_
        clear hK18 K18
        refine AWp.region ?_
        refine AOps.s0 (Cert.move (by conv => lhs; whnf)) rfl ?_
        refine AOps.s0 (Cert.addI rfl rfl (by first | omega | (dsimp only; omega)) (by first | omega | (dsimp only; omega))) rfl ?_
        refine AOps.s0 (Cert.assign (by conv => lhs; whnf)) rfl ?_
        refine AOps.nil ?_
        refine hK15 _ (k + 1, m + ((((d.defs.l[i]'hi3).fields.l[k]'hk3).args.l.map Input.c).length + (((d.defs.l[i]'hi3).fields.l[k]'hk3).dirs.l.map Dir.c).length : Int)) (Weak.to (by repeat (first | exact Keeps.nil | refine Keeps.c rfl rfl ?_ | refine Keeps.c (by (first | (first | rfl | ((conv => lhs; whnf); first | (simp [cellsA, faultsT, faultsD, namesD, Fault.mk_c, Nat.add_assoc, empty_append, Bool.and_assoc]; done) | (simp [cellsA, faultsT, faultsD, namesD, Nat.add_assoc, empty_append, Bool.and_assoc]; repeat (first | rfl | constructor)))) | rfl | (simp only [get_same, ev]; done) | (simp [*, cellsA]; done) | (show V.a (A.d (D.slice _ _ _ _)) = V.a (A.d (D.slice _ _ _ _)); simp [*, cellsA]; done))) rfl ?_)) (by repeat (first | exact Pfx.nil | apply Pfx.cons)) (by first | rfl | (first | rfl | (simp only [Heap.set_set, List.length_append, List.length_nil, List.length_cons, List.length_map, List.length_singleton, Nat.zero_add]; done) | (simp [Heap.set_set, Nat.add_assoc]; done)) | (((funext n; simp only [Heap.set]; (repeat' split) <;> simp_all)) <;> first | rfl | exact ⟨rfl, rfl⟩))) ⟨hk3, ?_⟩ (by dsimp only; omega)
        dsimp only
        rw [hm]
        unfold fieldsN
        rw [sum_take _ _ _ hk3]
        unfold fieldN
        simp only [List.length_map]
        omega
      · first
        | (cases hc2; done)
        | skip
        refine AWp.exit ?_
        refine hK11 _ ?_
        clear hK16 K16 hK15 K15 hK11 K11
        refine AWp.region ?_
        refine AOps.s0 (Cert.move (by conv => lhs; whnf)) rfl ?_
        refine AOps.s0 (Cert.addI rfl rfl (by first | omega | (dsimp only; omega)) (by first | omega | (dsimp only; omega))) rfl ?_
        refine AOps.s0 (Cert.assign (by conv => lhs; whnf)) rfl ?_
        refine AOps.nil ?_
        have hk4 : k = (d.defs.l[i]'hi3).fields.l.length := Nat.le_antisymm hk (map_ge hc2)
        refine hK8 _ (i + 1, m) (Weak.to (by repeat (first | exact Keeps.nil | refine Keeps.c rfl rfl ?_ | refine Keeps.c (by (first | (first | rfl | ((conv => lhs; whnf); first | (simp [cellsA, faultsT, faultsD, namesD, Fault.mk_c, Nat.add_assoc, empty_append, Bool.and_assoc]; done) | (simp [cellsA, faultsT, faultsD, namesD, Nat.add_assoc, empty_append, Bool.and_assoc]; repeat (first | rfl | constructor)))) | rfl | (simp only [get_same, ev]; done) | (simp [*, cellsA]; done) | (show V.a (A.d (D.slice _ _ _ _)) = V.a (A.d (D.slice _ _ _ _)); simp [*, cellsA]; done))) rfl ?_)) (by repeat (first | exact Pfx.nil | apply Pfx.cons)) (by first | rfl | (first | rfl | (simp only [Heap.set_set, List.length_append, List.length_nil, List.length_cons, List.length_map, List.length_singleton, Nat.zero_add]; done) | (simp [Heap.set_set, Nat.add_assoc]; done)) | (((funext n; simp only [Heap.set]; (repeat' split) <;> simp_all)) <;> first | rfl | exact ⟨rfl, rfl⟩))) ⟨hi3, ?_⟩ (by dsimp only; omega)
        dsimp only
        rw [hm, hk4, List.take_length, hn]
        unfold totN
        rw [sum_take _ _ _ hi3]
        unfold partN
        omega
    · first
      | (cases hc1; done)
      | skip
      refine AWp.exit ?_
      refine hK6 _ ?_
      clear hK9 K9 hK8 K8 hK6 K6
      refine AWp.seqK fun K19 hK19 => ?_
      refine AWp.region ?_
      refine AOps.s0 (Cert.move (by conv => lhs; whnf)) rfl ?_
      refine AOps.s0 (Cert.binI rfl rfl rfl) rfl ?_
      refine AOps.s0 (Cert.assign (by conv => lhs; whnf)) rfl ?_
      refine AOps.nil ?_
      refine hK19 _ ?_
      clear hK19 K19
      refine AWp.ret ?_
      repeat (first | refine xBlock_ret ?_ | refine xThen_ret ?_)
      first
      | (refine retQ.ret rfl ⟨?_, rfl⟩
         have h1 : decide (70 < d.defs.l.length) = true := by have := of_decide_eq_true hc0; simp only [List.length_map] at this; exact decide_eq_true (by omega)
         unfold largeB; rw [h1]; rfl)
      | (refine retQ.ret rfl ⟨?_, rfl⟩
         have h1 : decide (70 < d.defs.l.length) = false := decide_eq_false (by omega)
         have h2 : i = d.defs.l.length := Nat.le_antisymm hi (map_ge hc1)
         rw [h2, List.take_length] at hn
         unfold largeB; rw [h1, Bool.false_or]
         have h3 : decide (1000 < n) = decide (1000 < totN d.defs.l) := by rw [hn]; exact decide_eq_decide.2 (by omega)
         rw [← h3]; rfl)
def placeI (l : List Def) (n : List UInt8) : Int := match l.findIdx? (fun t => t.name.1 == n) with
  | some i => i
  | none => -1
theorem findIdx_take {α : Type} (p : α → Bool) (l : List α) (i : Nat) (h : i < l.length) (hp : (l.take i).findIdx? p = none) (hq : p l[i] = true) : l.findIdx? p = some i := by
  rw [List.findIdx?_eq_some_iff_getElem]
  refine ⟨h, hq, fun j hj => ?_⟩
  rw [List.findIdx?_eq_none_iff] at hp
  have := hp (l[j]'(by omega)) (by rw [List.mem_take_iff_getElem]; exact ⟨j, by omega, rfl⟩)
  simp [this]
theorem findIdx_step {α : Type} (p : α → Bool) (l : List α) (i : Nat) (h : i < l.length) (hp : (l.take i).findIdx? p = none) (hq : p l[i] = false) : (l.take (i + 1)).findIdx? p = none := by
  rw [take_succ _ _ h, List.findIdx?_eq_none_iff]
  rw [List.findIdx?_eq_none_iff] at hp
  intro x hx
  rcases List.mem_append.1 hx with h1 | h1
  · exact hp x h1
  · simp at h1; subst h1; exact hq
set_option maxRecDepth 100000 in
theorem law_place (d : Doc) (n : List UInt8) (H : Heap) : ACalls Try.prog 13 [.agg d.c, .d (.str n)] H fun r h' => r = .a (.d (.int .i64 (placeI d.defs.l n))) ∧ h' = H := by
  refine ACalls.of_wp (fn := Try.f13) (c := _) Try.tab_ok (fun _ _ => Try.call13 _ _) Try.func13 rfl (n := 22) rfl (rs := [.tmp 4]) rfl rfl ?_
  refine AWp.seqK fun K1 hK1 => ?_
  refine AWp.region ?_
  refine AOps.s0 (Cert.boxV rfl) rfl ?_
  refine AOps.s0 (Cert.assign (by conv => lhs; whnf)) rfl ?_
  refine AOps.nil ?_
  refine hK1 _ ?_
  clear hK1 K1
  refine AWp.seqK fun K2 hK2 => ?_
  refine AWp.seqK fun K3 hK3 => ?_
  refine AWp.region ?_
  refine AOps.s0 (Cert.assign (by conv => lhs; whnf)) rfl ?_
  refine AOps.nil ?_
  refine hK3 _ ?_
  clear hK3 K3
  refine AWp.block ?_
  refine AWp.loopC (KeepsT.cons (k := 1) (by conv => lhs; whnf) (KeepsT.cons (k := 2) (by conv => lhs; whnf) KeepsT.nil)) (fun i : Nat => [(5, .a (.d (.int .i64 i)))])
    (fun i => d.defs.l.length - i) (fun i => i ≤ d.defs.l.length ∧ (d.defs.l.take i).findIdx? (fun t => t.name.1 == n) = none) 0 ⟨Nat.zero_le _, rfl⟩ (Weak.to (by repeat (first | exact Keeps.nil | refine Keeps.c rfl rfl ?_ | refine Keeps.c (by (first | (first | rfl | ((conv => lhs; whnf); first | (simp [cellsA, faultsT, faultsD, namesD, Fault.mk_c, Nat.add_assoc, empty_append, Bool.and_assoc]; done) | (simp [cellsA, faultsT, faultsD, namesD, Nat.add_assoc, empty_append, Bool.and_assoc]; repeat (first | rfl | constructor)))) | rfl | (simp only [get_same, ev]; done) | (simp [*, cellsA]; done) | (show V.a (A.d (D.slice _ _ _ _)) = V.a (A.d (D.slice _ _ _ _)); simp [*, cellsA]; done))) rfl ?_)) (by repeat (first | exact Pfx.nil | apply Pfx.cons)) (by first | rfl | (first | rfl | (simp only [Heap.set_set, List.length_append, List.length_nil, List.length_cons, List.length_map, List.length_singleton, Nat.zero_add]; done) | (simp [Heap.set_set, Nat.add_assoc]; done)) | (((funext n; simp only [Heap.set]; (repeat' split) <;> simp_all)) <;> first | rfl | exact ⟨rfl, rfl⟩))) ?_
  intro i ⟨hi, hf⟩ K4 hK4
  have hmax : d.defs.l.length ≤ 140737488355328 := d.defs.ok
  refine AWp.seqK fun K5 hK5 => ?_
  refine AWp.seqK fun K6 hK6 => ?_
  refine AWp.region ?_
  refine AOps.s0 (Cert.move (by conv => lhs; whnf)) rfl ?_
  refine AOps.s0 (Cert.fieldV (Try.tab_ok _ _ rfl) rfl rfl (Try.tab_ok _ _ rfl) rfl rfl (by conv => lhs; whnf)) rfl ?_
  refine AOps.s0 (Cert.loadV (Try.tab_ok _ _ rfl) rfl rfl rfl) rfl ?_
  refine AOps.s0 (Cert.lenA (Try.tab_ok _ _ rfl) rfl rfl rfl) rfl ?_
  refine AOps.s0 (Cert.binI rfl rfl rfl) rfl ?_
  refine AOps.nil ?_
  refine hK6 _ ?_
  clear hK6 K6
  refine AWp.cond rfl (fun hc0 => ?_) (fun hc0 => ?_)
  · first
    | (cases hc0; done)
    | skip
    refine AWp.skip ?_
    refine hK5 _ ?_
    clear hK5 K5
    refine AWp.seqK fun K7 hK7 => ?_
    refine AWp.block ?_
    refine AWp.seqK fun K8 hK8 => ?_
    refine AWp.region ?_
    have hi3 : i < d.defs.l.length := map_lt hc0
    refine AOps.s0 (Cert.fieldV (Try.tab_ok _ _ rfl) rfl rfl (Try.tab_ok _ _ rfl) rfl rfl (by conv => lhs; whnf)) rfl ?_
    refine AOps.s0 (Cert.loadV (Try.tab_ok _ _ rfl) rfl rfl rfl) rfl ?_
    refine AOps.s0 (Cert.move (by conv => lhs; whnf)) rfl ?_
    refine AOps.s0 (Cert.indexA (Try.tab_ok _ _ rfl) rfl (Try.tab_ok _ _ rfl) rfl rfl rfl (by omega) (map_get (by assumption))) rfl ?_
    refine AOps.s0 (Cert.fieldV (Try.tab_ok _ _ rfl) rfl rfl (Try.tab_ok _ _ rfl) rfl rfl (by conv => lhs; whnf)) rfl ?_
    refine AOps.s0 (Cert.loadV (Try.tab_ok _ _ rfl) rfl rfl rfl) rfl ?_
    refine AOps.s0 (Cert.move (by conv => lhs; whnf)) rfl ?_
    refine AOps.s0 (Cert.binS rfl rfl rfl) rfl ?_
    refine AOps.nil ?_
    refine hK8 _ ?_
    clear hK8 K8
    refine AWp.cond rfl (fun hc1 => ?_) (fun hc1 => ?_)
    · first
      | (cases hc1; done)
      | skip
      refine AWp.seqK fun K9 hK9 => ?_
      refine AWp.region ?_
      refine AOps.s0 (Cert.move (by conv => lhs; whnf)) rfl ?_
      refine AOps.s0 (Cert.assign (by conv => lhs; whnf)) rfl ?_
      refine AOps.nil ?_
      refine hK9 _ ?_
      clear hK9 K9
      refine AWp.ret ?_
      repeat (first | refine xBlock_ret ?_ | refine xThen_ret ?_)
      refine retQ.ret rfl ⟨?_, rfl⟩
      first
      | (unfold placeI; rw [findIdx_take _ _ i hi3 hf hc1]; rfl)
      | (rw [List.take_of_length_le (map_ge hc0)] at hf
         unfold placeI; rw [hf]; rfl)
    · first
      | (cases hc1; done)
      | skip
      refine AWp.skip ?_
      refine hK7 _ ?_
      clear hK7 K7
      refine AWp.region ?_
      refine AOps.s0 (Cert.move (by conv => lhs; whnf)) rfl ?_
      refine AOps.s0 (Cert.addI rfl rfl (by first | omega | (dsimp only; omega)) (by first | omega | (dsimp only; omega))) rfl ?_
      refine AOps.s0 (Cert.assign (by conv => lhs; whnf)) rfl ?_
      refine AOps.nil ?_
      exact hK4 _ (i + 1) (Weak.to (by repeat (first | exact Keeps.nil | refine Keeps.c rfl rfl ?_ | refine Keeps.c (by (first | (first | rfl | ((conv => lhs; whnf); first | (simp [cellsA, faultsT, faultsD, namesD, Fault.mk_c, Nat.add_assoc, empty_append, Bool.and_assoc]; done) | (simp [cellsA, faultsT, faultsD, namesD, Nat.add_assoc, empty_append, Bool.and_assoc]; repeat (first | rfl | constructor)))) | rfl | (simp only [get_same, ev]; done) | (simp [*, cellsA]; done) | (show V.a (A.d (D.slice _ _ _ _)) = V.a (A.d (D.slice _ _ _ _)); simp [*, cellsA]; done))) rfl ?_)) (by repeat (first | exact Pfx.nil | apply Pfx.cons)) (by first | rfl | (first | rfl | (simp only [Heap.set_set, List.length_append, List.length_nil, List.length_cons, List.length_map, List.length_singleton, Nat.zero_add]; done) | (simp [Heap.set_set, Nat.add_assoc]; done)) | (((funext n; simp only [Heap.set]; (repeat' split) <;> simp_all)) <;> first | rfl | exact ⟨rfl, rfl⟩))) ⟨hi3, findIdx_step _ _ i hi3 hf hc1⟩ (by omega)
  · first
    | (cases hc0; done)
    | skip
    refine AWp.exit ?_
    refine hK2 _ ?_
    clear hK5 K5 hK4 K4 hK2 K2
    refine AWp.seqK fun K10 hK10 => ?_
    refine AWp.region ?_
    refine AOps.s0 (Cert.assign (by conv => lhs; whnf)) rfl ?_
    refine AOps.nil ?_
    refine hK10 _ ?_
    clear hK10 K10
    refine AWp.ret ?_
    repeat (first | refine xBlock_ret ?_ | refine xThen_ret ?_)
    refine retQ.ret rfl ⟨?_, rfl⟩
    first
    | (unfold placeI; rw [findIdx_take _ _ i hi3 hf hc1]; rfl)
    | (rw [List.take_of_length_le (map_ge hc0)] at hf
       unfold placeI; rw [hf]; rfl)
end Go.Proofs


namespace Go.Proofs
open Go Go.Ab Go.Ab.Sch
theorem checkAll_len (d : Doc) (hs : Small d) (b : Bool) : (checkAll d b).length ≤ 140737488355328 := by
  unfold checkAll
  rw [List.length_append]
  have h1 := checkF_len d hs d.defs.l.length (Nat.le_refl _)
  have h2 := hs.defs
  have h3 := one_len (b && !(find d.defs.l sQuery).isSome) 30 sQuery
  omega
def exField : Ab.Field := ⟨⟨[120], by decide⟩, Slc.empty, ⟨⟨[66], by decide⟩, Slc.empty⟩, Slc.empty⟩
def exDef : Def := ⟨1, ⟨[65], by decide⟩, Slc.empty, Slc.empty, ⟨false, [exField], by decide, by decide⟩, Slc.empty, Slc.empty⟩
def exDoc : Doc := ⟨⟨false, [exDef], by decide, by decide⟩⟩
theorem exSmall : Small exDoc := by
  refine ⟨by decide, ?_, ?_, ?_, ?_⟩
  · intro t ht; cases ht with
    | head => decide
    | tail _ h => cases h
  · intro t ht; cases ht with
    | head => decide
    | tail _ h => cases h
  · intro t ht; cases ht with
    | head => decide
    | tail _ h => cases h
  · intro t ht; cases ht with
    | head => intro f hf; cases hf with
      | head => decide
      | tail _ h => cases h
    | tail _ h => cases h
theorem exCheck : checkAll exDoc true = [⟨8, [65, 46, 120]⟩, ⟨30, sQuery⟩] := by
  have h1 : circB exDoc exDef = false := by unfold circB; simp [exDef]
  have h2 : wholeF exDoc 0 exDef = [] := by unfold wholeF; rw [h1]; decide
  have h3 : partF exDoc exDef = [⟨8, [65, 46, 120]⟩] := by unfold partF; rw [if_pos (.inl rfl)]; decide
  have h4 : checkF exDoc 1 = [⟨8, [65, 46, 120]⟩] := by
    rw [checkF_succ]
    show [] ++ (wholeF exDoc 0 exDef ++ partF exDoc exDef) = _
    rw [h2, h3]; rfl
  unfold checkAll
  show checkF exDoc 1 ++ _ = _
  rw [h4]; decide
set_option maxRecDepth 100000 in
set_option maxHeartbeats 1000000 in
theorem law_example (H : Heap) : ACalls Try.prog 9 [] H fun r h' => r = .a (.d (.bool true)) ∧ h' = H := by
  refine ACalls.of_wp (fn := Try.f9) (c := _) Try.tab_ok (fun _ _ => Try.call9 _ _) Try.func9 rfl (n := 36) rfl (rs := [.tmp 0]) rfl rfl ?_
  refine AWp.seqK fun K1 hK1 => ?_
  refine AWp.region ?_
  refine AOps.s0 (Cert.assign (by conv => lhs; whnf)) rfl ?_
  refine AOps.nil ?_
  refine hK1 _ ?_
  clear hK1 K1
  refine AWp.seqK fun K2 hK2 => ?_
  refine AWp.region ?_
  refine AOps.s0 (Cert.build Try.tab_ok rfl rfl rfl rfl rfl rfl) rfl ?_
  refine AOps.s0 (Cert.build Try.tab_ok rfl rfl rfl rfl rfl rfl) rfl ?_
  refine AOps.s0 (Cert.buildSlice (Try.tab_ok _ _ rfl) rfl (Try.tab_ok _ _ rfl) rfl rfl rfl rfl rfl rfl) rfl ?_
  refine AOps.s0 (Cert.build Try.tab_ok rfl rfl rfl rfl rfl rfl) rfl ?_
  refine AOps.s0 (Cert.buildSlice (Try.tab_ok _ _ rfl) rfl (Try.tab_ok _ _ rfl) rfl rfl rfl rfl rfl rfl) rfl ?_
  refine AOps.s0 (Cert.build Try.tab_ok rfl rfl rfl rfl rfl rfl) rfl ?_
  refine AOps.sL (Cert.allocL (Try.tab_ok _ _ rfl) rfl (by repeat (first | exact Snoc.nil | apply Snoc.cons))) rfl ?_
  refine AOps.sLn (Cert.storeLF (Try.tab_ok _ _ rfl) rfl rfl rfl rfl rfl (by repeat (first | exact SetAt.zero | apply SetAt.succ))) ?_
  refine AOps.nil ?_
  refine hK2 _ ?_
  clear hK2 K2
  refine AWp.freeze 1 _ rfl (by repeat (first | exact Snoc.nil | apply Snoc.cons)) Keeps.nil ?_
  refine AWp.seqK fun K3 hK3 => ?_
  refine AWp.region ?_
  refine AOps.s0 (Cert.loadV (Try.tab_ok _ _ rfl) rfl rfl rfl) rfl ?_
  refine AOps.s0 (Cert.callP rfl rfl (sch_Find exDoc [65])) rfl ?_
  refine AOps.s0 (Cert.move (by conv => lhs; whnf)) rfl ?_
  refine AOps.s0 (Cert.extract rfl rfl) rfl ?_
  refine AOps.s0 (Cert.extract rfl rfl) rfl ?_
  refine AOps.sL (Cert.allocL (Try.tab_ok _ _ rfl) rfl (by repeat (first | exact Snoc.nil | apply Snoc.cons))) rfl ?_
  refine AOps.sLn (Cert.storeLF (Try.tab_ok _ _ rfl) rfl rfl rfl rfl rfl (by repeat (first | exact SetAt.zero | apply SetAt.succ))) ?_
  refine AOps.s0 (Cert.assign (by conv => lhs; whnf)) rfl ?_
  refine AOps.nil ?_
  refine hK3 _ ?_
  clear hK3 K3
  refine AWp.freeze 2 _ rfl (by repeat (first | exact Snoc.nil | apply Snoc.cons)) (Keeps.c (k := 1) (by conv => lhs; whnf) (by rfl) (Keeps.c (k := 3) (by conv => lhs; whnf) (by rfl) Keeps.nil)) ?_
  refine AWp.seqK fun K4 hK4 => ?_
  refine AWp.region ?_
  refine AOps.s0 (Cert.move (by conv => lhs; whnf)) rfl ?_
  refine AOps.s0 (Cert.move (by conv => lhs; whnf)) rfl ?_
  refine AOps.g0 rfl rfl (by first | rfl | assumption) (Cert.fieldV (Try.tab_ok _ _ rfl) rfl rfl (Try.tab_ok _ _ rfl) rfl rfl (by conv => lhs; whnf)) rfl ?_
  refine AOps.g0 rfl rfl (by first | rfl | assumption) (Cert.loadV (Try.tab_ok _ _ rfl) rfl rfl rfl) rfl ?_
  refine AOps.g0 rfl rfl (by first | rfl | assumption) (Cert.binI rfl rfl rfl) rfl ?_
  refine AOps.s0 (Cert.pickT rfl (by first | rfl | assumption) (by conv => lhs; whnf)) rfl ?_
  refine AOps.s0 (Cert.move (by conv => lhs; whnf)) rfl ?_
  refine AOps.g0 rfl rfl (by first | rfl | assumption) (Cert.callP rfl rfl (sch_Scalar [73, 68])) rfl ?_
  refine AOps.s0 (Cert.pickT rfl (by first | rfl | assumption) (by conv => lhs; whnf)) rfl ?_
  refine AOps.s0 (Cert.move (by conv => lhs; whnf)) rfl ?_
  refine AOps.g0 rfl rfl (by first | rfl | assumption) (Cert.callP rfl rfl (sch_Root 1)) rfl ?_
  refine AOps.g0 rfl rfl (by first | rfl | assumption) (Cert.binS rfl rfl rfl) rfl ?_
  refine AOps.s0 (Cert.pickT rfl (by first | rfl | assumption) (by conv => lhs; whnf)) rfl ?_
  refine AOps.s0 (Cert.move (by conv => lhs; whnf)) rfl ?_
  refine AOps.g0 rfl rfl (by first | rfl | assumption) (Cert.loadV (Try.tab_ok _ _ rfl) rfl rfl rfl) rfl ?_
  refine AOps.g0 rfl rfl (by first | rfl | assumption) (Cert.callP rfl rfl (sch_Check exDoc exSmall true)) rfl ?_
  refine AOps.g0 rfl rfl (by first | rfl | assumption) (Cert.build Try.tab_ok rfl rfl rfl rfl rfl rfl) rfl ?_
  refine AOps.g0 rfl rfl (by first | rfl | assumption) (Cert.build Try.tab_ok rfl rfl rfl rfl rfl rfl) rfl ?_
  refine AOps.g0 rfl rfl (by first | rfl | assumption) (Cert.buildSlice (Try.tab_ok _ _ rfl) rfl (Try.tab_ok _ _ rfl) rfl rfl rfl rfl rfl rfl) rfl ?_
  refine AOps.g0 rfl rfl (by first | rfl | assumption) (Cert.callP rfl rfl (ref_Faults none none _ false (checkAll exDoc true) [⟨8, [65, 46, 120]⟩, ⟨30, sQuery⟩] (checkAll_len _ exSmall _))) rfl ?_
  refine AOps.s0 (Cert.pickT rfl (by first | rfl | assumption) (by conv => lhs; whnf)) rfl ?_
  refine AOps.s0 (Cert.assign (by conv => lhs; whnf)) rfl ?_
  refine AOps.nil ?_
  refine hK4 _ ?_
  clear hK4 K4
  refine AWp.ret ?_
  repeat (first | refine xBlock_ret ?_ | refine xThen_ret ?_)
  refine retQ.ret rfl ⟨?_, rfl⟩
  have h1 : decide (checkAll exDoc true = [⟨8, [65, 46, 120]⟩, ⟨30, sQuery⟩]) = true := decide_eq_true exCheck
  show V.a (A.d (D.bool (decide (checkAll exDoc true = [⟨8, [65, 46, 120]⟩, ⟨30, sQuery⟩])))) = _
  rw [h1]
set_option maxRecDepth 100000 in
set_option maxHeartbeats 1000000 in
theorem law_SchemaChecks (d : Doc) (hb : Bd d) (H : Heap) : ACalls Try.prog 3 [.agg d.c] H fun r h' => r = .a (.d (.bool true)) ∧ h' = H := by
  refine ACalls.of_wp (fn := Try.f3) (c := _) Try.tab_ok (fun _ _ => Try.call3 _ _) Try.func3 rfl (n := 21) rfl (rs := [.tmp 2]) rfl rfl ?_
  refine AWp.seqK fun K1 hK1 => ?_
  refine AWp.region ?_
  refine AOps.s0 (Cert.boxV rfl) rfl ?_
  refine AOps.s0 (Cert.assign (by conv => lhs; whnf)) rfl ?_
  refine AOps.nil ?_
  refine hK1 _ ?_
  clear hK1 K1
  refine AWp.seqK fun K2 hK2 => ?_
  refine AWp.seqK fun K3 hK3 => ?_
  refine AWp.region ?_
  refine AOps.s0 (Cert.loadV (Try.tab_ok _ _ rfl) rfl rfl rfl) rfl ?_
  refine AOps.s0 (Cert.callP rfl rfl (ref_Large d hb)) rfl ?_
  refine AOps.nil ?_
  refine hK3 _ ?_
  clear hK3 K3
  refine AWp.cond rfl (fun hc0 => ?_) (fun hc0 => ?_)
  · first
    | (cases hc0; done)
    | skip
    refine AWp.seqK fun K4 hK4 => ?_
    refine AWp.region ?_
    refine AOps.s0 (Cert.callP rfl rfl law_example) rfl ?_
    refine AOps.s0 (Cert.assign (by conv => lhs; whnf)) rfl ?_
    refine AOps.nil ?_
    refine hK4 _ ?_
    clear hK4 K4
    refine AWp.ret ?_
    repeat (first | refine xBlock_ret ?_ | refine xThen_ret ?_)
    refine retQ.ret rfl ⟨?_, rfl⟩
    first
    | rfl
    | (show V.a (A.d (D.bool _)) = _
       congr 3
       simp)
  · first
    | (cases hc0; done)
    | skip
    refine AWp.skip ?_
    refine hK2 _ ?_
    clear hK2 K2
    refine AWp.seqK fun K5 hK5 => ?_
    refine AWp.draw rfl ?_
    have hs := largeB_small hc0
    refine DOps.s0 (Cert.loadV (Try.tab_ok _ _ rfl) rfl rfl rfl) rfl ?_
    refine DOps.s0 (Cert.callP rfl rfl (sch_Check d hs false)) rfl ?_
    refine DOps.s0 (Cert.loadV (Try.tab_ok _ _ rfl) rfl rfl rfl) rfl ?_
    refine DOps.s0 (Cert.callP rfl rfl (ref_Check d hs false)) rfl ?_
    refine DOps.s0 (Cert.callP rfl rfl (ref_Faults none none _ _ (checkAll d false) (checkAll d false) (checkAll_len _ hs _))) rfl ?_
    refine DOps.s0 (Cert.move (by conv => lhs; whnf)) rfl ?_
    refine DOps.gC rfl rfl (fun hC => Cert.loadV (Try.tab_ok _ _ rfl) rfl rfl rfl) rfl ?_
    refine DOps.gC rfl rfl (fun hC => Cert.ungd (k := 12) rfl (by first | exact hC | exact andL hC | exact andL (andL hC) | exact andL (andL (andL hC)) | exact andR hC | simp_all) (Cert.callP rfl rfl (sch_Check d hs true))) rfl ?_
    refine DOps.gC rfl rfl (fun hC => Cert.loadV (Try.tab_ok _ _ rfl) rfl rfl rfl) rfl ?_
    refine DOps.gC rfl rfl (fun hC => Cert.ungd (k := 14) rfl (by first | exact hC | exact andL hC | exact andL (andL hC) | exact andL (andL (andL hC)) | exact andR hC | simp_all) (Cert.callP rfl rfl (ref_Check d hs true))) rfl ?_
    refine DOps.gC rfl rfl (fun hC => Cert.ungd (k := 13) rfl (by first | exact hC | exact andL hC | exact andL (andL hC) | exact andL (andL (andL hC)) | exact andR hC | simp_all) (Cert.ungd (k := 15) rfl (by first | exact hC | exact andL hC | exact andL (andL hC) | exact andL (andL (andL hC)) | exact andR hC | simp_all) (Cert.callP rfl rfl (ref_Faults none none _ _ (checkAll d true) (checkAll d true) (checkAll_len _ hs _))))) rfl ?_
    refine DOps.s0 (Cert.pickAnd rfl rfl (fun h => by first | exact h | exact notT h | exact andI hC h | exact andI hC (notT h) | simp_all) rfl) rfl ?_
    refine DOps.s0 (Cert.move (by conv => lhs; whnf)) rfl ?_
    refine DOps.gC rfl rfl (fun hC => Cert.callP rfl rfl law_example) rfl ?_
    refine DOps.s0 (Cert.pickAnd rfl rfl (fun h => by first | exact h | exact notT h | exact andI hC h | exact andI hC (notT h) | simp_all) rfl) rfl ?_
    refine DOps.s0 (Cert.assign (by conv => lhs; whnf)) rfl ?_
    refine DOps.nil (by decide +kernel) ?_
    refine hK5 _ ?_
    clear hK5 K5
    refine AWp.ret ?_
    repeat (first | refine xBlock_ret ?_ | refine xThen_ret ?_)
    refine retQ.ret rfl ⟨?_, rfl⟩
    first
    | rfl
    | (show V.a (A.d (D.bool _)) = _
       congr 3
       simp)
end Go.Proofs


namespace Go.Proofs.Ytgdidaagebcocaa
open Go Go.Ab Go.Ab.Sch Go.RowKit Go.ChangeShapes Go.WideShapes Go.ChangeAt
theorem bulkAll {H : Type} (l : List (DataW H)) : Rows.uptoBulkAll l = (l.map Rows.uptoBulk).sum := by
  induction l with
  | nil => rfl
  | cons x r ih => simp only [Rows.uptoBulkAll, List.map_cons, List.sum_cons, ih]
theorem bulkB {H : Type} : Bulk (H := H) Rows.uptoBulk := by
  refine ⟨fun d => ?_, fun b => by simp [Rows.uptoBulk], fun e s => by simp only [Rows.uptoBulk, bulkAll]; omega, fun l => by simp only [Rows.uptoBulk, bulkAll]; omega⟩
  cases d with
  | lit l => cases l <;> simp [Rows.uptoBulk]
  | nil => simp [Rows.uptoBulk]
  | ptr d => simp [Rows.uptoBulk]
  | slice elems spare => simp [Rows.uptoBulk]
  | agg parts => simp [Rows.uptoBulk]
  | iface t d => simp [Rows.uptoBulk]
  | map entries => simp [Rows.uptoBulk]
  | held h => simp [Rows.uptoBulk]
abbrev rdN {H : Type} (t : TypeId) {α : Type} (R : α → List D) (sz : α → Nat) (wf : α → Prop) : Prop := ∀ N, RdN (H := H) Try.prog Rows.uptoBulk N t R sz wf
theorem rd_str {H : Type} : rdN (H := H) 9 strC Str.sz fun _ => True := fun _ => RdN.str bulkB (Try.tab_ok _ _ rfl) rfl
theorem rd_int {H : Type} : rdN (H := H) 3 intC (fun _ => 1) i64 := fun _ => RdN.int bulkB (Try.tab_ok _ _ rfl) rfl
theorem rd_bool {H : Type} : rdN (H := H) 4 (fun b : Bool => [.bool b]) (fun _ => 1) fun _ => True := fun _ => RdN.bool bulkB (Try.tab_ok _ _ rfl) rfl
theorem rd_strs {H : Type} : rdN (H := H) 39 (fun s : Slc Str => [s.d 1 strC]) (Slc.sz Str.sz) (Slc.wf fun _ => True) := RdA.slice bulkB (Try.tab_ok _ _ rfl) rfl (Try.tab_ok _ _ rfl) rfl (by decide) (fun _ => rfl) rd_str
theorem rd_ints {H : Type} : rdN (H := H) 31 (fun s : Slc Int => [s.d 1 intC]) (Slc.sz fun _ => 1) (Slc.wf i64) := RdA.slice bulkB (Try.tab_ok _ _ rfl) rfl (Try.tab_ok _ _ rfl) rfl (by decide) (fun _ => rfl) rd_int
theorem rd_val {H : Type} : rdN (H := H) 52 Val.c (fun _ => 1) fun _ => True := RdA.val bulkB (Try.tab_ok _ _ rfl) rfl rfl (Try.tab_ok _ _ rfl) rfl rfl (Try.tab_ok _ _ rfl) rfl rfl (Try.tab_ok _ _ rfl) rfl rfl (Try.tab_ok _ _ rfl) rfl rfl
theorem rd_ref {H : Type} : rdN (H := H) 33 Ref.c Ref.sz fun _ => True :=
  RdA.struct bulkB (Try.tab_ok _ _ rfl) rfl (fun N => .cons (Try.tab_ok _ _ rfl) rfl (rd_str N) (.cons (Try.tab_ok _ _ rfl) rfl (rd_ints N) .nil)) (fun a => ⟨a.1, a.2.1⟩) (fun _ => rfl) (fun _ => Nat.le_refl _) (fun _ _ => trivial)
theorem rd_arg {H : Type} : rdN (H := H) 107 Arg.c Arg.sz fun _ => True :=
  RdA.struct bulkB (Try.tab_ok _ _ rfl) rfl (fun N => .cons (Try.tab_ok _ _ rfl) rfl (rd_str N) (.cons (Try.tab_ok _ _ rfl) rfl (rd_val N) .nil)) (fun a => ⟨a.1, a.2.1⟩) (fun _ => rfl) (fun _ => Nat.le_refl _) (fun _ _ => trivial)
theorem rd_args {H : Type} : rdN (H := H) 102 (fun s : Slc Arg => [s.d 6 Arg.c]) (Slc.sz Arg.sz) (Slc.wf fun _ => True) := RdA.slice bulkB (Try.tab_ok _ _ rfl) rfl (Try.tab_ok _ _ rfl) rfl (by decide) (fun _ => rfl) rd_arg
theorem rd_dir {H : Type} : rdN (H := H) 104 Dir.c Dir.sz fun _ => True :=
  RdA.struct bulkB (Try.tab_ok _ _ rfl) rfl (fun N => .cons (Try.tab_ok _ _ rfl) rfl (rd_str N) (.cons (Try.tab_ok _ _ rfl) rfl (rd_args N) .nil)) (fun a => ⟨a.1, a.2.1⟩) (fun _ => rfl) (fun _ => Nat.le_refl _) (fun _ _ => trivial)
theorem rd_dirs {H : Type} : rdN (H := H) 35 (fun s : Slc Dir => [s.d 2 Dir.c]) (Slc.sz Dir.sz) (Slc.wf fun _ => True) := RdA.slice bulkB (Try.tab_ok _ _ rfl) rfl (Try.tab_ok _ _ rfl) rfl (by decide) (fun _ => rfl) rd_dir
theorem rd_input {H : Type} : rdN (H := H) 54 Input.c Input.sz fun _ => True :=
  RdA.struct bulkB (Try.tab_ok _ _ rfl) rfl (fun N => .cons (Try.tab_ok _ _ rfl) rfl (rd_str N) (.cons (Try.tab_ok _ _ rfl) rfl (rd_ref N) (.cons (Try.tab_ok _ _ rfl) rfl (rd_bool N) (.cons (Try.tab_ok _ _ rfl) rfl (rd_val N) (.cons (Try.tab_ok _ _ rfl) rfl (rd_dirs N) .nil)))))
    (fun a => ⟨a.1, a.2.1, a.2.2.1, a.2.2.2.1, a.2.2.2.2.1⟩) (fun _ => rfl) (fun _ => Nat.le_refl _) (fun _ _ => trivial)
theorem rd_inputs {H : Type} : rdN (H := H) 34 (fun s : Slc Ab.Input => [s.d 10 Input.c]) (Slc.sz Input.sz) (Slc.wf fun _ => True) := RdA.slice bulkB (Try.tab_ok _ _ rfl) rfl (Try.tab_ok _ _ rfl) rfl (by decide) (fun _ => rfl) rd_input
theorem rd_field {H : Type} : rdN (H := H) 37 Field.c Field.sz fun _ => True :=
  RdA.struct bulkB (Try.tab_ok _ _ rfl) rfl (fun N => .cons (Try.tab_ok _ _ rfl) rfl (rd_str N) (.cons (Try.tab_ok _ _ rfl) rfl (rd_inputs N) (.cons (Try.tab_ok _ _ rfl) rfl (rd_ref N) (.cons (Try.tab_ok _ _ rfl) rfl (rd_dirs N) .nil))))
    (fun a => ⟨a.1, a.2.1, a.2.2.1, a.2.2.2.1⟩) (fun _ => rfl) (fun _ => Nat.le_refl _) (fun _ _ => trivial)
theorem rd_fields {H : Type} : rdN (H := H) 38 (fun s : Slc Ab.Field => [s.d 5 Field.c]) (Slc.sz Field.sz) (Slc.wf fun _ => True) := RdA.slice bulkB (Try.tab_ok _ _ rfl) rfl (Try.tab_ok _ _ rfl) rfl (by decide) (fun _ => rfl) rd_field
theorem rd_member {H : Type} : rdN (H := H) 78 Member.c Member.sz fun _ => True :=
  RdA.struct bulkB (Try.tab_ok _ _ rfl) rfl (fun N => .cons (Try.tab_ok _ _ rfl) rfl (rd_str N) (.cons (Try.tab_ok _ _ rfl) rfl (rd_dirs N) .nil)) (fun a => ⟨a.1, a.2.1⟩) (fun _ => rfl) (fun _ => Nat.le_refl _) (fun _ _ => trivial)
theorem rd_members {H : Type} : rdN (H := H) 40 (fun s : Slc Member => [s.d 2 Member.c]) (Slc.sz Member.sz) (Slc.wf fun _ => True) := RdA.slice bulkB (Try.tab_ok _ _ rfl) rfl (Try.tab_ok _ _ rfl) rfl (by decide) (fun _ => rfl) rd_member
theorem rd_def {H : Type} : rdN (H := H) 42 Def.c Def.sz fun _ => True :=
  RdA.struct bulkB (Try.tab_ok _ _ rfl) rfl (fun N => .cons (Try.tab_ok _ _ rfl) rfl (rd_int N) (.cons (Try.tab_ok _ _ rfl) rfl (rd_str N) (.cons (Try.tab_ok _ _ rfl) rfl (rd_strs N) (.cons (Try.tab_ok _ _ rfl) rfl (rd_dirs N) (.cons (Try.tab_ok _ _ rfl) rfl (rd_fields N)
    (.cons (Try.tab_ok _ _ rfl) rfl (rd_members N) (.cons (Try.tab_ok _ _ rfl) rfl (rd_inputs N) .nil))))))) (fun a => ⟨a.1, a.2.1, a.2.2.1, a.2.2.2.1, a.2.2.2.2.1, a.2.2.2.2.2.1, a.2.2.2.2.2.2.1⟩) (fun _ => rfl) (fun _ => Nat.le_refl _) (fun _ _ => trivial)
theorem rd_defs {H : Type} : rdN (H := H) 22 (fun s : Slc Def => [s.d 7 Def.c]) (Slc.sz Def.sz) (Slc.wf fun _ => True) := RdA.slice bulkB (Try.tab_ok _ _ rfl) rfl (Try.tab_ok _ _ rfl) rfl (by decide) (fun _ => rfl) rd_def
theorem rd_doc {H : Type} : rdN (H := H) 24 Doc.c Doc.sz fun _ => True :=
  RdA.struct bulkB (Try.tab_ok _ _ rfl) rfl (fun N => .cons (Try.tab_ok _ _ rfl) rfl (rd_defs N) .nil) (fun a => ⟨a.1⟩) (fun _ => rfl) (fun _ => Nat.le_refl _) (fun _ _ => trivial)
theorem bd_of {d : Doc} (h : d.sz ≤ 1048576) : Bd d := by
  have hd : ∀ x : Def, 1 ≤ x.sz := fun x => by unfold Def.sz; omega
  have hdir : ∀ x : Dir, 1 ≤ x.sz := fun x => by have := x.name.sz_pos; unfold Dir.sz; omega
  have hin : ∀ x : Ab.Input, 1 ≤ x.sz := fun x => by have := x.name.sz_pos; unfold Input.sz; omega
  have hfi : ∀ x : Ab.Field, 1 ≤ x.sz := fun x => by have := x.name.sz_pos; unfold Field.sz; omega
  have hme : ∀ x : Member, 1 ≤ x.sz := fun x => by have := x.name.sz_pos; unfold Member.sz; omega
  unfold Doc.sz at h
  have h1 := d.defs.len_le hd
  refine ⟨by omega, fun t ht => ?_⟩
  have h2 : t.sz ≤ 1048576 := Nat.le_trans (Slc.mem_le (f := Def.sz) ht) h
  have e1 := t.fields.len_le hfi
  have e2 := t.members.len_le hme
  have e3 := t.inputs.len_le hin
  have e4 := t.dirs.len_le hdir
  have e5 := t.impls.len_le Str.sz_pos
  unfold Def.sz at h2
  refine ⟨by omega, by omega, by omega, by omega, by omega, fun f hf => ?_⟩
  have h3 : f.sz ≤ 1048576 := Nat.le_trans (Slc.mem_le (f := Field.sz) hf) (by omega)
  have e6 := f.args.len_le hin
  have e7 := f.dirs.len_le hdir
  unfold Field.sz at h3
  exact ⟨by omega, by omega⟩
theorem own : ownKnob Try.prog.godebug = none := by kernel_rfl
theorem laid : laidOutB Try.prog = true := by kernel_rfl
theorem bound {H : Type} {l : List (DataW H)} (hk : Rows.uptoSmall H l = true) : Rows.uptoBulkAll l ≤ 1048576 := of_decide_eq_true hk
end Go.Proofs.Ytgdidaagebcocaa

