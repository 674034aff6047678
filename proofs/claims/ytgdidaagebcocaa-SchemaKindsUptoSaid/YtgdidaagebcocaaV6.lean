import Derived.Test.YtgdidaagebcocaaV5
set_option linter.unusedVariables false
set_option linter.unusedSimpArgs false
namespace Go.Proofs
open Go Go.Ab Go.Ab.Sch
/-! ### The size of a document -/
structure BdT (t : Def) : Prop where
  fields : t.fields.l.length ≤ 1048576
  members : t.members.l.length ≤ 1048576
  inputs : t.inputs.l.length ≤ 1048576
  dirs : t.dirs.l.length ≤ 1048576
  impls : t.impls.l.length ≤ 1048576
  sub : ∀ f ∈ t.fields.l, f.args.l.length ≤ 1048576 ∧ f.dirs.l.length ≤ 1048576
structure Bd (d : Doc) : Prop where
  defs : d.defs.l.length ≤ 1048576
  each : ∀ t ∈ d.defs.l, BdT t
def fieldN (f : Ab.Field) : Nat := f.args.l.length + f.dirs.l.length
def fieldsN (l : List Ab.Field) : Nat := (l.map fieldN).sum
def ownN (t : Def) : Nat := 1 + t.fields.l.length + t.members.l.length + t.inputs.l.length + t.dirs.l.length + t.impls.l.length
def partN (t : Def) : Nat := ownN t + fieldsN t.fields.l
def totN (l : List Def) : Nat := (l.map partN).sum
theorem sum_take {α : Type} (f : α → Nat) (l : List α) (i : Nat) (h : i < l.length) : ((l.take (i + 1)).map f).sum = ((l.take i).map f).sum + f l[i] := by
  rw [take_succ _ _ h, List.map_append, List.sum_append]; simp
theorem mem_sum {α : Type} {f : α → Nat} {l : List α} {a : α} (h : a ∈ l) : f a ≤ (l.map f).sum := by
  induction l with
  | nil => cases h
  | cons x r ih =>
    simp only [List.map_cons, List.sum_cons]
    rcases List.mem_cons.1 h with e | e
    · subst e; omega
    · have := ih e; omega
theorem sum_bd {α : Type} (f : α → Nat) (b : Nat) : ∀ (l : List α), (∀ a ∈ l, f a ≤ b) → (l.map f).sum ≤ l.length * b
  | [], _ => by simp
  | a :: l, h => by
    have h1 := h a (by simp)
    have h2 := sum_bd f b l fun x hx => h x (by simp [hx])
    simp only [List.map_cons, List.sum_cons, List.length_cons, Nat.succ_mul]; omega
theorem BdT.fieldsN {t : Def} (h : BdT t) (k : Nat) : fieldsN (t.fields.l.take k) ≤ 2199023255552 := by
  have h1 := sum_bd fieldN 2097152 (t.fields.l.take k) fun f hf => by
    have := h.sub f (List.mem_of_mem_take hf)
    unfold fieldN; omega
  have h2 : (t.fields.l.take k).length ≤ 1048576 := by have := h.fields; simp; omega
  have h3 := Nat.mul_le_mul_right 2097152 h2
  unfold Go.Proofs.fieldsN; omega
theorem BdT.partN {t : Def} (h : BdT t) : partN t ≤ 2199028498433 := by
  have h1 := h.fieldsN t.fields.l.length
  rw [List.take_length] at h1
  have := h.fields; have := h.members; have := h.inputs; have := h.dirs; have := h.impls
  unfold Go.Proofs.partN ownN; omega
theorem Bd.totN {d : Doc} (h : Bd d) (i : Nat) (hi : i ≤ 70) : totN (d.defs.l.take i) ≤ 153931994890310 := by
  have h1 := sum_bd Go.Proofs.partN 2199028498433 (d.defs.l.take i) fun t ht => (h.each t (List.mem_of_mem_take ht)).partN
  have h2 : (d.defs.l.take i).length ≤ 70 := by simp; omega
  have h3 := Nat.mul_le_mul_right 2199028498433 h2
  unfold Go.Proofs.totN; omega
def largeB (d : Doc) : Bool := decide (70 < d.defs.l.length) || decide (1000 < totN d.defs.l)
theorem largeB_small {d : Doc} (h : largeB d = false) : Small d := by
  unfold largeB at h
  simp only [Bool.or_eq_false_iff, decide_eq_false_iff_not] at h
  have hp : ∀ t ∈ d.defs.l, partN t ≤ 1000 := fun t ht => by
    have := mem_sum (f := partN) ht
    unfold totN at h; omega
  have hf : ∀ t ∈ d.defs.l, ∀ f ∈ t.fields.l, fieldN f ≤ 1000 := fun t ht f hf => by
    have h1 := hp t ht
    have := mem_sum (f := fieldN) hf
    unfold partN fieldsN at h1; omega
  refine ⟨by omega, fun t ht => ?_, fun t ht => ?_, fun t ht => ?_, fun t ht f hf' => ?_⟩
  · have := hp t ht; unfold partN ownN at this; omega
  · have := hp t ht; unfold partN ownN at this; omega
  · have := hp t ht; unfold partN ownN at this; omega
  · have := hf t ht f hf'; unfold fieldN at this; omega
set_option maxRecDepth 100000 in
set_option maxHeartbeats 1000000 in
theorem ref_Large (d : Doc) (hb : Bd d) (H : Heap) : ACalls Try.prog 8 [.agg d.c] H fun r h' => r = .a (.d (.bool (largeB d))) ∧ h' = H := by
  refine ACalls.of_wp (fn := Try.f8) (c := _) Try.tab_ok (fun _ _ => Try.call8 _ _) Try.func8 rfl (n := 71) rfl (rs := [.tmp 2]) rfl rfl ?_
  refine AWp.seqK fun K1 hK1 => ?_
  refine AWp.region ?_
  refine AOps.s0 (Cert.boxV rfl) rfl ?_
  refine AOps.s0 (Cert.assign (by conv => lhs; whnf)) rfl ?_
  refine AOps.nil ?_
  refine hK1 _ ?_
  clear hK1 K1
  refine AWp.seqK fun K2 hK2 => ?_
  refine AWp.seqK fun K3 hK3 => ?_
  refine AWp.region ?_
  refine AOps.s0 (Cert.fieldV (Try.tab_ok _ _ rfl) rfl rfl (Try.tab_ok _ _ rfl) rfl rfl (by conv => lhs; whnf)) rfl ?_
  refine AOps.s0 (Cert.loadV (Try.tab_ok _ _ rfl) rfl rfl rfl) rfl ?_
  refine AOps.s0 (Cert.lenA (Try.tab_ok _ _ rfl) rfl rfl rfl) rfl ?_
  refine AOps.s0 (Cert.binI rfl rfl rfl) rfl ?_
  refine AOps.nil ?_
  refine hK3 _ ?_
  clear hK3 K3
  refine AWp.cond rfl (fun hc0 => ?_) (fun hc0 => ?_)
  · first
    | (cases hc0; done)
    | skip
    refine AWp.seqK fun K4 hK4 => ?_
    refine AWp.region ?_
    refine AOps.s0 (Cert.assign (by conv => lhs; whnf)) rfl ?_
    refine AOps.nil ?_
    refine hK4 _ ?_
    clear hK4 K4
    refine AWp.ret ?_
    repeat (first | refine xBlock_ret ?_ | refine xThen_ret ?_)
    first
    | (refine retQ.ret rfl ⟨?_, rfl⟩
       have h1 : decide (70 < d.defs.l.length) = true := by have := of_decide_eq_true hc0; simp only [List.length_map] at this; exact decide_eq_true (by omega)
       unfold largeB; rw [h1]; rfl)
    | (refine retQ.ret rfl ⟨?_, rfl⟩
       have h1 : decide (70 < d.defs.l.length) = false := decide_eq_false (by omega)
       have h2 : i = d.defs.l.length := Nat.le_antisymm hi (map_ge hc1)
       rw [h2, List.take_length] at hn
       unfold largeB; rw [h1, Bool.false_or]
       have h3 : decide (1000 < n) = decide (1000 < totN d.defs.l) := by rw [hn]; exact decide_eq_decide.2 (by omega)
       rw [← h3]; rfl)
  · first
    | (cases hc0; done)
    | skip
    refine AWp.skip ?_
    refine hK2 _ ?_
    clear hK2 K2
    refine AWp.seqK fun K5 hK5 => ?_
    refine AWp.region ?_
    refine AOps.s0 (Cert.assign (by conv => lhs; whnf)) rfl ?_
    refine AOps.nil ?_
    refine hK5 _ ?_
    clear hK5 K5
    refine AWp.seqK fun K6 hK6 => ?_
    refine AWp.seqK fun K7 hK7 => ?_
    refine AWp.region ?_
    refine AOps.s0 (Cert.assign (by conv => lhs; whnf)) rfl ?_
    refine AOps.nil ?_
    refine hK7 _ ?_
    clear hK7 K7
    refine AWp.block ?_
    have hle : d.defs.l.length ≤ 70 := by have := of_decide_eq_false hc0; simp only [List.length_map] at this; omega
    refine AWp.loopC (KeepsT.cons (k := 1) (by conv => lhs; whnf) KeepsT.nil) (fun x : Nat × Int => [(4, .a (.d (.int .i64 x.1))), (3, .a (.d (.int .i64 x.2)))])
      (fun x => d.defs.l.length - x.1) (fun x => x.1 ≤ d.defs.l.length ∧ x.2 = (totN (d.defs.l.take x.1) : Nat)) (0, 0) ⟨Nat.zero_le _, rfl⟩ (Weak.to (by repeat (first | exact Keeps.nil | refine Keeps.c rfl rfl ?_ | refine Keeps.c (by (first | (first | rfl | ((conv => lhs; whnf); first | (simp [cellsA, faultsT, faultsD, namesD, Fault.mk_c, Nat.add_assoc, empty_append, Bool.and_assoc]; done) | (simp [cellsA, faultsT, faultsD, namesD, Nat.add_assoc, empty_append, Bool.and_assoc]; repeat (first | rfl | constructor)))) | rfl | (simp only [get_same, ev]; done) | (simp [*, cellsA]; done) | (show V.a (A.d (D.slice _ _ _ _)) = V.a (A.d (D.slice _ _ _ _)); simp [*, cellsA]; done))) rfl ?_)) (by repeat (first | exact Pfx.nil | apply Pfx.cons)) (by first | rfl | (first | rfl | (simp only [Heap.set_set, List.length_append, List.length_nil, List.length_cons, List.length_map, List.length_singleton, Nat.zero_add]; done) | (simp [Heap.set_set, Nat.add_assoc]; done)) | (((funext n; simp only [Heap.set]; (repeat' split) <;> simp_all)) <;> first | rfl | exact ⟨rfl, rfl⟩))) ?_
    rintro ⟨i, n⟩ ⟨hi, hn⟩ K8 hK8
    dsimp only at hi hn
    have hB := hb.totN i (by omega)
    refine AWp.seqK fun K9 hK9 => ?_
    refine AWp.seqK fun K10 hK10 => ?_
    refine AWp.region ?_
    refine AOps.s0 (Cert.move (by conv => lhs; whnf)) rfl ?_
    refine AOps.s0 (Cert.fieldV (Try.tab_ok _ _ rfl) rfl rfl (Try.tab_ok _ _ rfl) rfl rfl (by conv => lhs; whnf)) rfl ?_
    refine AOps.s0 (Cert.loadV (Try.tab_ok _ _ rfl) rfl rfl rfl) rfl ?_
    refine AOps.s0 (Cert.lenA (Try.tab_ok _ _ rfl) rfl rfl rfl) rfl ?_
    refine AOps.s0 (Cert.binI rfl rfl rfl) rfl ?_
    refine AOps.nil ?_
    refine hK10 _ ?_
    clear hK10 K10
    refine AWp.cond rfl (fun hc1 => ?_) (fun hc1 => ?_)
    · first
      | (cases hc1; done)
      | skip
      refine AWp.skip ?_
      refine hK9 _ ?_
      clear hK9 K9
      refine AWp.seqK fun K11 hK11 => ?_
      refine AWp.block ?_
      refine AWp.seqK fun K12 hK12 => ?_
      refine AWp.region ?_
      have hi3 : i < d.defs.l.length := map_lt hc1
      have hT := hb.each _ (List.getElem_mem hi3)
      have g1 : ((d.defs.l[i]'hi3).fields.l.map Field.c).length ≤ 1048576 := by simp only [List.length_map]; exact hT.fields
      have g2 : ((d.defs.l[i]'hi3).members.l.map Member.c).length ≤ 1048576 := by simp only [List.length_map]; exact hT.members
      have g3 : ((d.defs.l[i]'hi3).inputs.l.map Input.c).length ≤ 1048576 := by simp only [List.length_map]; exact hT.inputs
      have g4 : ((d.defs.l[i]'hi3).dirs.l.map Dir.c).length ≤ 1048576 := by simp only [List.length_map]; exact hT.dirs
      have g5 : ((d.defs.l[i]'hi3).impls.l.map strC).length ≤ 1048576 := by simp only [List.length_map]; exact hT.impls
      refine AOps.s0 (Cert.fieldV (Try.tab_ok _ _ rfl) rfl rfl (Try.tab_ok _ _ rfl) rfl rfl (by conv => lhs; whnf)) rfl ?_
      refine AOps.s0 (Cert.loadV (Try.tab_ok _ _ rfl) rfl rfl rfl) rfl ?_
      refine AOps.s0 (Cert.move (by conv => lhs; whnf)) rfl ?_
      refine AOps.s0 (Cert.indexA (Try.tab_ok _ _ rfl) rfl (Try.tab_ok _ _ rfl) rfl rfl rfl (by omega) (map_get (by assumption))) rfl ?_
      refine AOps.s0 (Cert.loadV (Try.tab_ok _ _ rfl) rfl rfl rfl) rfl ?_
      refine AOps.sL (Cert.allocL (Try.tab_ok _ _ rfl) rfl (by repeat (first | exact Snoc.nil | apply Snoc.cons))) rfl ?_
      refine AOps.sLn (Cert.storeLF (Try.tab_ok _ _ rfl) rfl rfl rfl rfl rfl (by repeat (first | exact SetAt.zero | apply SetAt.succ))) ?_
      refine AOps.nil ?_
      refine hK12 _ ?_
      clear hK12 K12
      refine AWp.freeze 5 _ rfl (by repeat (first | exact Snoc.nil | apply Snoc.cons)) (Keeps.c (k := 1) (by conv => lhs; whnf) (by rfl) (Keeps.c (k := 3) (by conv => lhs; whnf) (by rfl) (Keeps.c (k := 4) (by conv => lhs; whnf) (by rfl) Keeps.nil))) ?_
      refine AWp.seqK fun K13 hK13 => ?_
      refine AWp.region ?_
      refine AOps.s0 (Cert.move (by conv => lhs; whnf)) rfl ?_
      refine AOps.s0 (Cert.fieldV (Try.tab_ok _ _ rfl) rfl rfl (Try.tab_ok _ _ rfl) rfl rfl (by conv => lhs; whnf)) rfl ?_
      refine AOps.s0 (Cert.loadV (Try.tab_ok _ _ rfl) rfl rfl rfl) rfl ?_
      refine AOps.s0 (Cert.lenA (Try.tab_ok _ _ rfl) rfl rfl rfl) rfl ?_
      refine AOps.s0 (Cert.addI rfl rfl (by first | omega | (dsimp only; omega)) (by first | omega | (dsimp only; omega))) rfl ?_
      refine AOps.s0 (Cert.fieldV (Try.tab_ok _ _ rfl) rfl rfl (Try.tab_ok _ _ rfl) rfl rfl (by conv => lhs; whnf)) rfl ?_
      refine AOps.s0 (Cert.loadV (Try.tab_ok _ _ rfl) rfl rfl rfl) rfl ?_
      refine AOps.s0 (Cert.lenA (Try.tab_ok _ _ rfl) rfl rfl rfl) rfl ?_
      refine AOps.s0 (Cert.addI rfl rfl (by first | omega | (dsimp only; omega)) (by first | omega | (dsimp only; omega))) rfl ?_
      refine AOps.s0 (Cert.fieldV (Try.tab_ok _ _ rfl) rfl rfl (Try.tab_ok _ _ rfl) rfl rfl (by conv => lhs; whnf)) rfl ?_
      refine AOps.s0 (Cert.loadV (Try.tab_ok _ _ rfl) rfl rfl rfl) rfl ?_
      refine AOps.s0 (Cert.lenA (Try.tab_ok _ _ rfl) rfl rfl rfl) rfl ?_
      refine AOps.s0 (Cert.addI rfl rfl (by first | omega | (dsimp only; omega)) (by first | omega | (dsimp only; omega))) rfl ?_
      refine AOps.s0 (Cert.fieldV (Try.tab_ok _ _ rfl) rfl rfl (Try.tab_ok _ _ rfl) rfl rfl (by conv => lhs; whnf)) rfl ?_
      refine AOps.s0 (Cert.loadV (Try.tab_ok _ _ rfl) rfl rfl rfl) rfl ?_
      refine AOps.s0 (Cert.lenA (Try.tab_ok _ _ rfl) rfl rfl rfl) rfl ?_
      refine AOps.s0 (Cert.addI rfl rfl (by first | omega | (dsimp only; omega)) (by first | omega | (dsimp only; omega))) rfl ?_
      refine AOps.s0 (Cert.fieldV (Try.tab_ok _ _ rfl) rfl rfl (Try.tab_ok _ _ rfl) rfl rfl (by conv => lhs; whnf)) rfl ?_
      refine AOps.s0 (Cert.loadV (Try.tab_ok _ _ rfl) rfl rfl rfl) rfl ?_
      refine AOps.s0 (Cert.lenA (Try.tab_ok _ _ rfl) rfl rfl rfl) rfl ?_
      refine AOps.s0 (Cert.addI rfl rfl (by first | omega | (dsimp only; omega)) (by first | omega | (dsimp only; omega))) rfl ?_
      refine AOps.s0 (Cert.addI rfl rfl (by first | omega | (dsimp only; omega)) (by first | omega | (dsimp only; omega))) rfl ?_
      refine AOps.s0 (Cert.assign (by conv => lhs; whnf)) rfl ?_
      refine AOps.nil ?_
      refine hK13 _ ?_
      clear hK13 K13
      refine AWp.seqK fun K14 hK14 => ?_
      refine AWp.region ?_
      refine AOps.s0 (Cert.assign (by conv => lhs; whnf)) rfl ?_
      refine AOps.nil ?_
      refine hK14 _ ?_
      clear hK14 K14
      refine AWp.block ?_
      refine AWp.loopC (KeepsT.cons (k := 1) (by conv => lhs; whnf) (KeepsT.cons (k := 4) (by conv => lhs; whnf) (KeepsT.cons (k := 5) (by conv => lhs; whnf) KeepsT.nil))) (fun x : Nat × Int => [(6, .a (.d (.int .i64 x.1))), (3, .a (.d (.int .i64 x.2)))])
        (fun x => (d.defs.l[i]'hi3).fields.l.length - x.1) (fun x => x.1 ≤ (d.defs.l[i]'hi3).fields.l.length ∧ x.2 = n + (ownN (d.defs.l[i]'hi3) : Nat) + (fieldsN ((d.defs.l[i]'hi3).fields.l.take x.1) : Nat))
        (0, n + (1 + (((d.defs.l[i]'hi3).fields.l.map Field.c).length : Int) + (((d.defs.l[i]'hi3).members.l.map Member.c).length : Int) + (((d.defs.l[i]'hi3).inputs.l.map Input.c).length : Int) + (((d.defs.l[i]'hi3).dirs.l.map Dir.c).length : Int) + (((d.defs.l[i]'hi3).impls.l.map strC).length : Int))) ⟨Nat.zero_le _, by dsimp only [fieldsN, ownN]; simp only [List.length_map, List.take_zero, List.map_nil, List.sum_nil]; omega⟩ (Weak.to (by repeat (first | exact Keeps.nil | refine Keeps.c rfl rfl ?_ | refine Keeps.c (by (first | (first | rfl | ((conv => lhs; whnf); first | (simp [cellsA, faultsT, faultsD, namesD, Fault.mk_c, Nat.add_assoc, empty_append, Bool.and_assoc]; done) | (simp [cellsA, faultsT, faultsD, namesD, Nat.add_assoc, empty_append, Bool.and_assoc]; repeat (first | rfl | constructor)))) | rfl | (simp only [get_same, ev]; done) | (simp [*, cellsA]; done) | (show V.a (A.d (D.slice _ _ _ _)) = V.a (A.d (D.slice _ _ _ _)); simp [*, cellsA]; done))) rfl ?_)) (by repeat (first | exact Pfx.nil | apply Pfx.cons)) (by first | rfl | (first | rfl | (simp only [Heap.set_set, List.length_append, List.length_nil, List.length_cons, List.length_map, List.length_singleton, Nat.zero_add]; done) | (simp [Heap.set_set, Nat.add_assoc]; done)) | (((funext n; simp only [Heap.set]; (repeat' split) <;> simp_all)) <;> first | rfl | exact ⟨rfl, rfl⟩))) ?_
      rintro ⟨k, m⟩ ⟨hk, hm⟩ K15 hK15
      dsimp only at hk hm
      have hF := hT.fieldsN k
      have hO : ownN (d.defs.l[i]'hi3) ≤ 5242881 := by
        have := hT.fields; have := hT.members; have := hT.inputs; have := hT.dirs; have := hT.impls
        unfold ownN; omega
      have hF2 := hT.fields
      refine AWp.seqK fun K16 hK16 => ?_
      refine AWp.seqK fun K17 hK17 => ?_
      refine AWp.region ?_
      refine AOps.s0 (Cert.move (by conv => lhs; whnf)) rfl ?_
      refine AOps.s0 (Cert.fieldV (Try.tab_ok _ _ rfl) rfl rfl (Try.tab_ok _ _ rfl) rfl rfl (by conv => lhs; whnf)) rfl ?_
      refine AOps.s0 (Cert.loadV (Try.tab_ok _ _ rfl) rfl rfl rfl) rfl ?_
      refine AOps.s0 (Cert.lenA (Try.tab_ok _ _ rfl) rfl rfl rfl) rfl ?_
      refine AOps.s0 (Cert.binI rfl rfl rfl) rfl ?_
      refine AOps.nil ?_
      refine hK17 _ ?_
      clear hK17 K17
      refine AWp.cond rfl (fun hc2 => ?_) (fun hc2 => ?_)
      · first
        | (cases hc2; done)
        | skip
        refine AWp.skip ?_
        refine hK16 _ ?_
        clear hK16 K16
        refine AWp.seqK fun K18 hK18 => ?_
        refine AWp.block ?_
        refine AWp.draw rfl ?_
        have hk3 : k < (d.defs.l[i]'hi3).fields.l.length := map_lt hc2
        have hs := hT.sub _ (List.getElem_mem hk3)
        have g6 : (((d.defs.l[i]'hi3).fields.l[k]'hk3).args.l.map Input.c).length ≤ 1048576 := by simp only [List.length_map]; exact hs.1
        have g7 : (((d.defs.l[i]'hi3).fields.l[k]'hk3).dirs.l.map Dir.c).length ≤ 1048576 := by simp only [List.length_map]; exact hs.2
        refine DOps.s0 (Cert.move (by conv => lhs; whnf)) rfl ?_
        refine DOps.s0 (Cert.fieldV (Try.tab_ok _ _ rfl) rfl rfl (Try.tab_ok _ _ rfl) rfl rfl (by conv => lhs; whnf)) rfl ?_
        refine DOps.s0 (Cert.loadV (Try.tab_ok _ _ rfl) rfl rfl rfl) rfl ?_
        refine DOps.s0 (Cert.move (by conv => lhs; whnf)) rfl ?_
        refine DOps.s0 (Cert.indexA (Try.tab_ok _ _ rfl) rfl (Try.tab_ok _ _ rfl) rfl rfl rfl (by omega) (map_get (by assumption))) rfl ?_
        refine DOps.s0 (Cert.fieldV (Try.tab_ok _ _ rfl) rfl rfl (Try.tab_ok _ _ rfl) rfl rfl (by conv => lhs; whnf)) rfl ?_
        refine DOps.s0 (Cert.loadV (Try.tab_ok _ _ rfl) rfl rfl rfl) rfl ?_
        refine DOps.s0 (Cert.lenA (Try.tab_ok _ _ rfl) rfl rfl rfl) rfl ?_
        refine DOps.s0 (Cert.fieldV (Try.tab_ok _ _ rfl) rfl rfl (Try.tab_ok _ _ rfl) rfl rfl (by conv => lhs; whnf)) rfl ?_
        refine DOps.s0 (Cert.loadV (Try.tab_ok _ _ rfl) rfl rfl rfl) rfl ?_
        refine DOps.s0 (Cert.move (by conv => lhs; whnf)) rfl ?_
        refine DOps.s0 (Cert.indexA (Try.tab_ok _ _ rfl) rfl (Try.tab_ok _ _ rfl) rfl rfl rfl (by omega) (map_get (by assumption))) rfl ?_
        refine DOps.s0 (Cert.fieldV (Try.tab_ok _ _ rfl) rfl rfl (Try.tab_ok _ _ rfl) rfl rfl (by conv => lhs; whnf)) rfl ?_
        refine DOps.s0 (Cert.loadV (Try.tab_ok _ _ rfl) rfl rfl rfl) rfl ?_
        refine DOps.s0 (Cert.lenA (Try.tab_ok _ _ rfl) rfl rfl rfl) rfl ?_
        refine DOps.s0 (Cert.addI rfl rfl (by first | omega | (dsimp only; omega)) (by first | omega | (dsimp only; omega))) rfl ?_
        refine DOps.s0 (Cert.addI rfl rfl (by first | omega | (dsimp only; omega)) (by first | omega | (dsimp only; omega))) rfl ?_
        refine DOps.s0 (Cert.assign (by conv => lhs; whnf)) rfl ?_
        refine DOps.nil (by decide +kernel) ?_
        refine hK18 _ ?_
        clear hK18 K18
        refine AWp.region ?_
        refine AOps.s0 (Cert.move (by conv => lhs; whnf)) rfl ?_
        refine AOps.s0 (Cert.addI rfl rfl (by first | omega | (dsimp only; omega)) (by first | omega | (dsimp only; omega))) rfl ?_
        refine AOps.s0 (Cert.assign (by conv => lhs; whnf)) rfl ?_
        refine AOps.nil ?_
        refine hK15 _ (k + 1, m + ((((d.defs.l[i]'hi3).fields.l[k]'hk3).args.l.map Input.c).length + (((d.defs.l[i]'hi3).fields.l[k]'hk3).dirs.l.map Dir.c).length : Int)) (Weak.to (by repeat (first | exact Keeps.nil | refine Keeps.c rfl rfl ?_ | refine Keeps.c (by (first | (first | rfl | ((conv => lhs; whnf); first | (simp [cellsA, faultsT, faultsD, namesD, Fault.mk_c, Nat.add_assoc, empty_append, Bool.and_assoc]; done) | (simp [cellsA, faultsT, faultsD, namesD, Nat.add_assoc, empty_append, Bool.and_assoc]; repeat (first | rfl | constructor)))) | rfl | (simp only [get_same, ev]; done) | (simp [*, cellsA]; done) | (show V.a (A.d (D.slice _ _ _ _)) = V.a (A.d (D.slice _ _ _ _)); simp [*, cellsA]; done))) rfl ?_)) (by repeat (first | exact Pfx.nil | apply Pfx.cons)) (by first | rfl | (first | rfl | (simp only [Heap.set_set, List.length_append, List.length_nil, List.length_cons, List.length_map, List.length_singleton, Nat.zero_add]; done) | (simp [Heap.set_set, Nat.add_assoc]; done)) | (((funext n; simp only [Heap.set]; (repeat' split) <;> simp_all)) <;> first | rfl | exact ⟨rfl, rfl⟩))) ⟨hk3, ?_⟩ (by dsimp only; omega)
        dsimp only
        rw [hm]
        unfold fieldsN
        rw [sum_take _ _ _ hk3]
        unfold fieldN
        simp only [List.length_map]
        omega
      · first
        | (cases hc2; done)
        | skip
        refine AWp.exit ?_
        refine hK11 _ ?_
        clear hK16 K16 hK15 K15 hK11 K11
        refine AWp.region ?_
        refine AOps.s0 (Cert.move (by conv => lhs; whnf)) rfl ?_
        refine AOps.s0 (Cert.addI rfl rfl (by first | omega | (dsimp only; omega)) (by first | omega | (dsimp only; omega))) rfl ?_
        refine AOps.s0 (Cert.assign (by conv => lhs; whnf)) rfl ?_
        refine AOps.nil ?_
        have hk4 : k = (d.defs.l[i]'hi3).fields.l.length := Nat.le_antisymm hk (map_ge hc2)
        refine hK8 _ (i + 1, m) (Weak.to (by repeat (first | exact Keeps.nil | refine Keeps.c rfl rfl ?_ | refine Keeps.c (by (first | (first | rfl | ((conv => lhs; whnf); first | (simp [cellsA, faultsT, faultsD, namesD, Fault.mk_c, Nat.add_assoc, empty_append, Bool.and_assoc]; done) | (simp [cellsA, faultsT, faultsD, namesD, Nat.add_assoc, empty_append, Bool.and_assoc]; repeat (first | rfl | constructor)))) | rfl | (simp only [get_same, ev]; done) | (simp [*, cellsA]; done) | (show V.a (A.d (D.slice _ _ _ _)) = V.a (A.d (D.slice _ _ _ _)); simp [*, cellsA]; done))) rfl ?_)) (by repeat (first | exact Pfx.nil | apply Pfx.cons)) (by first | rfl | (first | rfl | (simp only [Heap.set_set, List.length_append, List.length_nil, List.length_cons, List.length_map, List.length_singleton, Nat.zero_add]; done) | (simp [Heap.set_set, Nat.add_assoc]; done)) | (((funext n; simp only [Heap.set]; (repeat' split) <;> simp_all)) <;> first | rfl | exact ⟨rfl, rfl⟩))) ⟨hi3, ?_⟩ (by dsimp only; omega)
        dsimp only
        rw [hm, hk4, List.take_length, hn]
        unfold totN
        rw [sum_take _ _ _ hi3]
        unfold partN
        omega
    · first
      | (cases hc1; done)
      | skip
      refine AWp.exit ?_
      refine hK6 _ ?_
      clear hK9 K9 hK8 K8 hK6 K6
      refine AWp.seqK fun K19 hK19 => ?_
      refine AWp.region ?_
      refine AOps.s0 (Cert.move (by conv => lhs; whnf)) rfl ?_
      refine AOps.s0 (Cert.binI rfl rfl rfl) rfl ?_
      refine AOps.s0 (Cert.assign (by conv => lhs; whnf)) rfl ?_
      refine AOps.nil ?_
      refine hK19 _ ?_
      clear hK19 K19
      refine AWp.ret ?_
      repeat (first | refine xBlock_ret ?_ | refine xThen_ret ?_)
      first
      | (refine retQ.ret rfl ⟨?_, rfl⟩
         have h1 : decide (70 < d.defs.l.length) = true := by have := of_decide_eq_true hc0; simp only [List.length_map] at this; exact decide_eq_true (by omega)
         unfold largeB; rw [h1]; rfl)
      | (refine retQ.ret rfl ⟨?_, rfl⟩
         have h1 : decide (70 < d.defs.l.length) = false := decide_eq_false (by omega)
         have h2 : i = d.defs.l.length := Nat.le_antisymm hi (map_ge hc1)
         rw [h2, List.take_length] at hn
         unfold largeB; rw [h1, Bool.false_or]
         have h3 : decide (1000 < n) = decide (1000 < totN d.defs.l) := by rw [hn]; exact decide_eq_decide.2 (by omega)
         rw [← h3]; rfl)
def placeI (l : List Def) (n : List UInt8) : Int := match l.findIdx? (fun t => t.name.1 == n) with
  | some i => i
  | none => -1
theorem findIdx_take {α : Type} (p : α → Bool) (l : List α) (i : Nat) (h : i < l.length) (hp : (l.take i).findIdx? p = none) (hq : p l[i] = true) : l.findIdx? p = some i := by
  rw [List.findIdx?_eq_some_iff_getElem]
  refine ⟨h, hq, fun j hj => ?_⟩
  rw [List.findIdx?_eq_none_iff] at hp
  have := hp (l[j]'(by omega)) (by rw [List.mem_take_iff_getElem]; exact ⟨j, by omega, rfl⟩)
  simp [this]
theorem findIdx_step {α : Type} (p : α → Bool) (l : List α) (i : Nat) (h : i < l.length) (hp : (l.take i).findIdx? p = none) (hq : p l[i] = false) : (l.take (i + 1)).findIdx? p = none := by
  rw [take_succ _ _ h, List.findIdx?_eq_none_iff]
  rw [List.findIdx?_eq_none_iff] at hp
  intro x hx
  rcases List.mem_append.1 hx with h1 | h1
  · exact hp x h1
  · simp at h1; subst h1; exact hq
set_option maxRecDepth 100000 in
theorem law_place (d : Doc) (n : List UInt8) (H : Heap) : ACalls Try.prog 13 [.agg d.c, .d (.str n)] H fun r h' => r = .a (.d (.int .i64 (placeI d.defs.l n))) ∧ h' = H := by
  refine ACalls.of_wp (fn := Try.f13) (c := _) Try.tab_ok (fun _ _ => Try.call13 _ _) Try.func13 rfl (n := 22) rfl (rs := [.tmp 4]) rfl rfl ?_
  refine AWp.seqK fun K1 hK1 => ?_
  refine AWp.region ?_
  refine AOps.s0 (Cert.boxV rfl) rfl ?_
  refine AOps.s0 (Cert.assign (by conv => lhs; whnf)) rfl ?_
  refine AOps.nil ?_
  refine hK1 _ ?_
  clear hK1 K1
  refine AWp.seqK fun K2 hK2 => ?_
  refine AWp.seqK fun K3 hK3 => ?_
  refine AWp.region ?_
  refine AOps.s0 (Cert.assign (by conv => lhs; whnf)) rfl ?_
  refine AOps.nil ?_
  refine hK3 _ ?_
  clear hK3 K3
  refine AWp.block ?_
  refine AWp.loopC (KeepsT.cons (k := 1) (by conv => lhs; whnf) (KeepsT.cons (k := 2) (by conv => lhs; whnf) KeepsT.nil)) (fun i : Nat => [(5, .a (.d (.int .i64 i)))])
    (fun i => d.defs.l.length - i) (fun i => i ≤ d.defs.l.length ∧ (d.defs.l.take i).findIdx? (fun t => t.name.1 == n) = none) 0 ⟨Nat.zero_le _, rfl⟩ (Weak.to (by repeat (first | exact Keeps.nil | refine Keeps.c rfl rfl ?_ | refine Keeps.c (by (first | (first | rfl | ((conv => lhs; whnf); first | (simp [cellsA, faultsT, faultsD, namesD, Fault.mk_c, Nat.add_assoc, empty_append, Bool.and_assoc]; done) | (simp [cellsA, faultsT, faultsD, namesD, Nat.add_assoc, empty_append, Bool.and_assoc]; repeat (first | rfl | constructor)))) | rfl | (simp only [get_same, ev]; done) | (simp [*, cellsA]; done) | (show V.a (A.d (D.slice _ _ _ _)) = V.a (A.d (D.slice _ _ _ _)); simp [*, cellsA]; done))) rfl ?_)) (by repeat (first | exact Pfx.nil | apply Pfx.cons)) (by first | rfl | (first | rfl | (simp only [Heap.set_set, List.length_append, List.length_nil, List.length_cons, List.length_map, List.length_singleton, Nat.zero_add]; done) | (simp [Heap.set_set, Nat.add_assoc]; done)) | (((funext n; simp only [Heap.set]; (repeat' split) <;> simp_all)) <;> first | rfl | exact ⟨rfl, rfl⟩))) ?_
  intro i ⟨hi, hf⟩ K4 hK4
  have hmax : d.defs.l.length ≤ 140737488355328 := d.defs.ok
  refine AWp.seqK fun K5 hK5 => ?_
  refine AWp.seqK fun K6 hK6 => ?_
  refine AWp.region ?_
  refine AOps.s0 (Cert.move (by conv => lhs; whnf)) rfl ?_
  refine AOps.s0 (Cert.fieldV (Try.tab_ok _ _ rfl) rfl rfl (Try.tab_ok _ _ rfl) rfl rfl (by conv => lhs; whnf)) rfl ?_
  refine AOps.s0 (Cert.loadV (Try.tab_ok _ _ rfl) rfl rfl rfl) rfl ?_
  refine AOps.s0 (Cert.lenA (Try.tab_ok _ _ rfl) rfl rfl rfl) rfl ?_
  refine AOps.s0 (Cert.binI rfl rfl rfl) rfl ?_
  refine AOps.nil ?_
  refine hK6 _ ?_
  clear hK6 K6
  refine AWp.cond rfl (fun hc0 => ?_) (fun hc0 => ?_)
  · first
    | (cases hc0; done)
    | skip
    refine AWp.skip ?_
    refine hK5 _ ?_
    clear hK5 K5
    refine AWp.seqK fun K7 hK7 => ?_
    refine AWp.block ?_
    refine AWp.seqK fun K8 hK8 => ?_
    refine AWp.region ?_
    have hi3 : i < d.defs.l.length := map_lt hc0
    refine AOps.s0 (Cert.fieldV (Try.tab_ok _ _ rfl) rfl rfl (Try.tab_ok _ _ rfl) rfl rfl (by conv => lhs; whnf)) rfl ?_
    refine AOps.s0 (Cert.loadV (Try.tab_ok _ _ rfl) rfl rfl rfl) rfl ?_
    refine AOps.s0 (Cert.move (by conv => lhs; whnf)) rfl ?_
    refine AOps.s0 (Cert.indexA (Try.tab_ok _ _ rfl) rfl (Try.tab_ok _ _ rfl) rfl rfl rfl (by omega) (map_get (by assumption))) rfl ?_
    refine AOps.s0 (Cert.fieldV (Try.tab_ok _ _ rfl) rfl rfl (Try.tab_ok _ _ rfl) rfl rfl (by conv => lhs; whnf)) rfl ?_
    refine AOps.s0 (Cert.loadV (Try.tab_ok _ _ rfl) rfl rfl rfl) rfl ?_
    refine AOps.s0 (Cert.move (by conv => lhs; whnf)) rfl ?_
    refine AOps.s0 (Cert.binS rfl rfl rfl) rfl ?_
    refine AOps.nil ?_
    refine hK8 _ ?_
    clear hK8 K8
    refine AWp.cond rfl (fun hc1 => ?_) (fun hc1 => ?_)
    · first
      | (cases hc1; done)
      | skip
      refine AWp.seqK fun K9 hK9 => ?_
      refine AWp.region ?_
      refine AOps.s0 (Cert.move (by conv => lhs; whnf)) rfl ?_
      refine AOps.s0 (Cert.assign (by conv => lhs; whnf)) rfl ?_
      refine AOps.nil ?_
      refine hK9 _ ?_
      clear hK9 K9
      refine AWp.ret ?_
      repeat (first | refine xBlock_ret ?_ | refine xThen_ret ?_)
      refine retQ.ret rfl ⟨?_, rfl⟩
      first
      | (unfold placeI; rw [findIdx_take _ _ i hi3 hf hc1]; rfl)
      | (rw [List.take_of_length_le (map_ge hc0)] at hf
         unfold placeI; rw [hf]; rfl)
    · first
      | (cases hc1; done)
      | skip
      refine AWp.skip ?_
      refine hK7 _ ?_
      clear hK7 K7
      refine AWp.region ?_
      refine AOps.s0 (Cert.move (by conv => lhs; whnf)) rfl ?_
      refine AOps.s0 (Cert.addI rfl rfl (by first | omega | (dsimp only; omega)) (by first | omega | (dsimp only; omega))) rfl ?_
      refine AOps.s0 (Cert.assign (by conv => lhs; whnf)) rfl ?_
      refine AOps.nil ?_
      exact hK4 _ (i + 1) (Weak.to (by repeat (first | exact Keeps.nil | refine Keeps.c rfl rfl ?_ | refine Keeps.c (by (first | (first | rfl | ((conv => lhs; whnf); first | (simp [cellsA, faultsT, faultsD, namesD, Fault.mk_c, Nat.add_assoc, empty_append, Bool.and_assoc]; done) | (simp [cellsA, faultsT, faultsD, namesD, Nat.add_assoc, empty_append, Bool.and_assoc]; repeat (first | rfl | constructor)))) | rfl | (simp only [get_same, ev]; done) | (simp [*, cellsA]; done) | (show V.a (A.d (D.slice _ _ _ _)) = V.a (A.d (D.slice _ _ _ _)); simp [*, cellsA]; done))) rfl ?_)) (by repeat (first | exact Pfx.nil | apply Pfx.cons)) (by first | rfl | (first | rfl | (simp only [Heap.set_set, List.length_append, List.length_nil, List.length_cons, List.length_map, List.length_singleton, Nat.zero_add]; done) | (simp [Heap.set_set, Nat.add_assoc]; done)) | (((funext n; simp only [Heap.set]; (repeat' split) <;> simp_all)) <;> first | rfl | exact ⟨rfl, rfl⟩))) ⟨hi3, findIdx_step _ _ i hi3 hf hc1⟩ (by omega)
  · first
    | (cases hc0; done)
    | skip
    refine AWp.exit ?_
    refine hK2 _ ?_
    clear hK5 K5 hK4 K4 hK2 K2
    refine AWp.seqK fun K10 hK10 => ?_
    refine AWp.region ?_
    refine AOps.s0 (Cert.assign (by conv => lhs; whnf)) rfl ?_
    refine AOps.nil ?_
    refine hK10 _ ?_
    clear hK10 K10
    refine AWp.ret ?_
    repeat (first | refine xBlock_ret ?_ | refine xThen_ret ?_)
    refine retQ.ret rfl ⟨?_, rfl⟩
    first
    | (unfold placeI; rw [findIdx_take _ _ i hi3 hf hc1]; rfl)
    | (rw [List.take_of_length_le (map_ge hc0)] at hf
       unfold placeI; rw [hf]; rfl)
end Go.Proofs


namespace Go.Proofs
open Go Go.Ab Go.Ab.Sch
theorem checkAll_len (d : Doc) (hs : Small d) (b : Bool) : (checkAll d b).length ≤ 140737488355328 := by
  unfold checkAll
  rw [List.length_append]
  have h1 := checkF_len d hs d.defs.l.length (Nat.le_refl _)
  have h2 := hs.defs
  have h3 := one_len (b && !(find d.defs.l sQuery).isSome) 30 sQuery
  omega
def exField : Ab.Field := ⟨⟨[120], by decide⟩, Slc.empty, ⟨⟨[66], by decide⟩, Slc.empty⟩, Slc.empty⟩
def exDef : Def := ⟨1, ⟨[65], by decide⟩, Slc.empty, Slc.empty, ⟨false, [exField], by decide, by decide⟩, Slc.empty, Slc.empty⟩
def exDoc : Doc := ⟨⟨false, [exDef], by decide, by decide⟩⟩
theorem exSmall : Small exDoc := by
  refine ⟨by decide, ?_, ?_, ?_, ?_⟩
  · intro t ht; cases ht with
    | head => decide
    | tail _ h => cases h
  · intro t ht; cases ht with
    | head => decide
    | tail _ h => cases h
  · intro t ht; cases ht with
    | head => decide
    | tail _ h => cases h
  · intro t ht; cases ht with
    | head => intro f hf; cases hf with
      | head => decide
      | tail _ h => cases h
    | tail _ h => cases h
theorem exCheck : checkAll exDoc true = [⟨8, [65, 46, 120]⟩, ⟨30, sQuery⟩] := by
  have h1 : circB exDoc exDef = false := by unfold circB; simp [exDef]
  have h2 : wholeF exDoc 0 exDef = [] := by unfold wholeF; rw [h1]; decide
  have h3 : partF exDoc exDef = [⟨8, [65, 46, 120]⟩] := by unfold partF; rw [if_pos (.inl rfl)]; decide
  have h4 : checkF exDoc 1 = [⟨8, [65, 46, 120]⟩] := by
    rw [checkF_succ]
    show [] ++ (wholeF exDoc 0 exDef ++ partF exDoc exDef) = _
    rw [h2, h3]; rfl
  unfold checkAll
  show checkF exDoc 1 ++ _ = _
  rw [h4]; decide
set_option maxRecDepth 100000 in
set_option maxHeartbeats 1000000 in
theorem law_example (H : Heap) : ACalls Try.prog 9 [] H fun r h' => r = .a (.d (.bool true)) ∧ h' = H := by
  refine ACalls.of_wp (fn := Try.f9) (c := _) Try.tab_ok (fun _ _ => Try.call9 _ _) Try.func9 rfl (n := 36) rfl (rs := [.tmp 0]) rfl rfl ?_
  refine AWp.seqK fun K1 hK1 => ?_
  refine AWp.region ?_
  refine AOps.s0 (Cert.assign (by conv => lhs; whnf)) rfl ?_
  refine AOps.nil ?_
  refine hK1 _ ?_
  clear hK1 K1
  refine AWp.seqK fun K2 hK2 => ?_
  refine AWp.region ?_
  refine AOps.s0 (Cert.build Try.tab_ok rfl rfl rfl rfl rfl rfl) rfl ?_
  refine AOps.s0 (Cert.build Try.tab_ok rfl rfl rfl rfl rfl rfl) rfl ?_
  refine AOps.s0 (Cert.buildSlice (Try.tab_ok _ _ rfl) rfl (Try.tab_ok _ _ rfl) rfl rfl rfl rfl rfl rfl) rfl ?_
  refine AOps.s0 (Cert.build Try.tab_ok rfl rfl rfl rfl rfl rfl) rfl ?_
  refine AOps.s0 (Cert.buildSlice (Try.tab_ok _ _ rfl) rfl (Try.tab_ok _ _ rfl) rfl rfl rfl rfl rfl rfl) rfl ?_
  refine AOps.s0 (Cert.build Try.tab_ok rfl rfl rfl rfl rfl rfl) rfl ?_
  refine AOps.sL (Cert.allocL (Try.tab_ok _ _ rfl) rfl (by repeat (first | exact Snoc.nil | apply Snoc.cons))) rfl ?_
  refine AOps.sLn (Cert.storeLF (Try.tab_ok _ _ rfl) rfl rfl rfl rfl rfl (by repeat (first | exact SetAt.zero | apply SetAt.succ))) ?_
  refine AOps.nil ?_
  refine hK2 _ ?_
  clear hK2 K2
  refine AWp.freeze 1 _ rfl (by repeat (first | exact Snoc.nil | apply Snoc.cons)) Keeps.nil ?_
  refine AWp.seqK fun K3 hK3 => ?_
  refine AWp.region ?_
  refine AOps.s0 (Cert.loadV (Try.tab_ok _ _ rfl) rfl rfl rfl) rfl ?_
  refine AOps.s0 (Cert.callP rfl rfl (sch_Find exDoc [65])) rfl ?_
  refine AOps.s0 (Cert.move (by conv => lhs; whnf)) rfl ?_
  refine AOps.s0 (Cert.extract rfl rfl) rfl ?_
  refine AOps.s0 (Cert.extract rfl rfl) rfl ?_
  refine AOps.sL (Cert.allocL (Try.tab_ok _ _ rfl) rfl (by repeat (first | exact Snoc.nil | apply Snoc.cons))) rfl ?_
  refine AOps.sLn (Cert.storeLF (Try.tab_ok _ _ rfl) rfl rfl rfl rfl rfl (by repeat (first | exact SetAt.zero | apply SetAt.succ))) ?_
  refine AOps.s0 (Cert.assign (by conv => lhs; whnf)) rfl ?_
  refine AOps.nil ?_
  refine hK3 _ ?_
  clear hK3 K3
  refine AWp.freeze 2 _ rfl (by repeat (first | exact Snoc.nil | apply Snoc.cons)) (Keeps.c (k := 1) (by conv => lhs; whnf) (by rfl) (Keeps.c (k := 3) (by conv => lhs; whnf) (by rfl) Keeps.nil)) ?_
  refine AWp.seqK fun K4 hK4 => ?_
  refine AWp.region ?_
  refine AOps.s0 (Cert.move (by conv => lhs; whnf)) rfl ?_
  refine AOps.s0 (Cert.move (by conv => lhs; whnf)) rfl ?_
  refine AOps.g0 rfl rfl (by first | rfl | assumption) (Cert.fieldV (Try.tab_ok _ _ rfl) rfl rfl (Try.tab_ok _ _ rfl) rfl rfl (by conv => lhs; whnf)) rfl ?_
  refine AOps.g0 rfl rfl (by first | rfl | assumption) (Cert.loadV (Try.tab_ok _ _ rfl) rfl rfl rfl) rfl ?_
  refine AOps.g0 rfl rfl (by first | rfl | assumption) (Cert.binI rfl rfl rfl) rfl ?_
  refine AOps.s0 (Cert.pickT rfl (by first | rfl | assumption) (by conv => lhs; whnf)) rfl ?_
  refine AOps.s0 (Cert.move (by conv => lhs; whnf)) rfl ?_
  refine AOps.g0 rfl rfl (by first | rfl | assumption) (Cert.callP rfl rfl (sch_Scalar [73, 68])) rfl ?_
  refine AOps.s0 (Cert.pickT rfl (by first | rfl | assumption) (by conv => lhs; whnf)) rfl ?_
  refine AOps.s0 (Cert.move (by conv => lhs; whnf)) rfl ?_
  refine AOps.g0 rfl rfl (by first | rfl | assumption) (Cert.callP rfl rfl (sch_Root 1)) rfl ?_
  refine AOps.g0 rfl rfl (by first | rfl | assumption) (Cert.binS rfl rfl rfl) rfl ?_
  refine AOps.s0 (Cert.pickT rfl (by first | rfl | assumption) (by conv => lhs; whnf)) rfl ?_
  refine AOps.s0 (Cert.move (by conv => lhs; whnf)) rfl ?_
  refine AOps.g0 rfl rfl (by first | rfl | assumption) (Cert.loadV (Try.tab_ok _ _ rfl) rfl rfl rfl) rfl ?_
  refine AOps.g0 rfl rfl (by first | rfl | assumption) (Cert.callP rfl rfl (sch_Check exDoc exSmall true)) rfl ?_
  refine AOps.g0 rfl rfl (by first | rfl | assumption) (Cert.build Try.tab_ok rfl rfl rfl rfl rfl rfl) rfl ?_
  refine AOps.g0 rfl rfl (by first | rfl | assumption) (Cert.build Try.tab_ok rfl rfl rfl rfl rfl rfl) rfl ?_
  refine AOps.g0 rfl rfl (by first | rfl | assumption) (Cert.buildSlice (Try.tab_ok _ _ rfl) rfl (Try.tab_ok _ _ rfl) rfl rfl rfl rfl rfl rfl) rfl ?_
  refine AOps.g0 rfl rfl (by first | rfl | assumption) (Cert.callP rfl rfl (ref_Faults none none _ false (checkAll exDoc true) [⟨8, [65, 46, 120]⟩, ⟨30, sQuery⟩] (checkAll_len _ exSmall _))) rfl ?_
  refine AOps.s0 (Cert.pickT rfl (by first | rfl | assumption) (by conv => lhs; whnf)) rfl ?_
  refine AOps.s0 (Cert.assign (by conv => lhs; whnf)) rfl ?_
  refine AOps.nil ?_
  refine hK4 _ ?_
  clear hK4 K4
  refine AWp.ret ?_
  repeat (first | refine xBlock_ret ?_ | refine xThen_ret ?_)
  refine retQ.ret rfl ⟨?_, rfl⟩
  have h1 : decide (checkAll exDoc true = [⟨8, [65, 46, 120]⟩, ⟨30, sQuery⟩]) = true := decide_eq_true exCheck
  show V.a (A.d (D.bool (decide (checkAll exDoc true = [⟨8, [65, 46, 120]⟩, ⟨30, sQuery⟩])))) = _
  rw [h1]
set_option maxRecDepth 100000 in
set_option maxHeartbeats 1000000 in
theorem law_SchemaChecks (d : Doc) (hb : Bd d) (H : Heap) : ACalls Try.prog 3 [.agg d.c] H fun r h' => r = .a (.d (.bool true)) ∧ h' = H := by
  refine ACalls.of_wp (fn := Try.f3) (c := _) Try.tab_ok (fun _ _ => Try.call3 _ _) Try.func3 rfl (n := 21) rfl (rs := [.tmp 2]) rfl rfl ?_
  refine AWp.seqK fun K1 hK1 => ?_
  refine AWp.region ?_
  refine AOps.s0 (Cert.boxV rfl) rfl ?_
  refine AOps.s0 (Cert.assign (by conv => lhs; whnf)) rfl ?_
  refine AOps.nil ?_
  refine hK1 _ ?_
  clear hK1 K1
  refine AWp.seqK fun K2 hK2 => ?_
  refine AWp.seqK fun K3 hK3 => ?_
  refine AWp.region ?_
  refine AOps.s0 (Cert.loadV (Try.tab_ok _ _ rfl) rfl rfl rfl) rfl ?_
  refine AOps.s0 (Cert.callP rfl rfl (ref_Large d hb)) rfl ?_
  refine AOps.nil ?_
  refine hK3 _ ?_
  clear hK3 K3
  refine AWp.cond rfl (fun hc0 => ?_) (fun hc0 => ?_)
  · first
    | (cases hc0; done)
    | skip
    refine AWp.seqK fun K4 hK4 => ?_
    refine AWp.region ?_
    refine AOps.s0 (Cert.callP rfl rfl law_example) rfl ?_
    refine AOps.s0 (Cert.assign (by conv => lhs; whnf)) rfl ?_
    refine AOps.nil ?_
    refine hK4 _ ?_
    clear hK4 K4
    refine AWp.ret ?_
    repeat (first | refine xBlock_ret ?_ | refine xThen_ret ?_)
    refine retQ.ret rfl ⟨?_, rfl⟩
    first
    | rfl
    | (show V.a (A.d (D.bool _)) = _
       congr 3
       simp)
  · first
    | (cases hc0; done)
    | skip
    refine AWp.skip ?_
    refine hK2 _ ?_
    clear hK2 K2
    refine AWp.seqK fun K5 hK5 => ?_
    refine AWp.draw rfl ?_
    have hs := largeB_small hc0
    refine DOps.s0 (Cert.loadV (Try.tab_ok _ _ rfl) rfl rfl rfl) rfl ?_
    refine DOps.s0 (Cert.callP rfl rfl (sch_Check d hs false)) rfl ?_
    refine DOps.s0 (Cert.loadV (Try.tab_ok _ _ rfl) rfl rfl rfl) rfl ?_
    refine DOps.s0 (Cert.callP rfl rfl (ref_Check d hs false)) rfl ?_
    refine DOps.s0 (Cert.callP rfl rfl (ref_Faults none none _ _ (checkAll d false) (checkAll d false) (checkAll_len _ hs _))) rfl ?_
    refine DOps.s0 (Cert.move (by conv => lhs; whnf)) rfl ?_
    refine DOps.gC rfl rfl (fun hC => Cert.loadV (Try.tab_ok _ _ rfl) rfl rfl rfl) rfl ?_
    refine DOps.gC rfl rfl (fun hC => Cert.ungd (k := 12) rfl (by first | exact hC | exact andL hC | exact andL (andL hC) | exact andL (andL (andL hC)) | exact andR hC | simp_all) (Cert.callP rfl rfl (sch_Check d hs true))) rfl ?_
    refine DOps.gC rfl rfl (fun hC => Cert.loadV (Try.tab_ok _ _ rfl) rfl rfl rfl) rfl ?_
    refine DOps.gC rfl rfl (fun hC => Cert.ungd (k := 14) rfl (by first | exact hC | exact andL hC | exact andL (andL hC) | exact andL (andL (andL hC)) | exact andR hC | simp_all) (Cert.callP rfl rfl (ref_Check d hs true))) rfl ?_
    refine DOps.gC rfl rfl (fun hC => Cert.ungd (k := 13) rfl (by first | exact hC | exact andL hC | exact andL (andL hC) | exact andL (andL (andL hC)) | exact andR hC | simp_all) (Cert.ungd (k := 15) rfl (by first | exact hC | exact andL hC | exact andL (andL hC) | exact andL (andL (andL hC)) | exact andR hC | simp_all) (Cert.callP rfl rfl (ref_Faults none none _ _ (checkAll d true) (checkAll d true) (checkAll_len _ hs _))))) rfl ?_
    refine DOps.s0 (Cert.pickAnd rfl rfl (fun h => by first | exact h | exact notT h | exact andI hC h | exact andI hC (notT h) | simp_all) rfl) rfl ?_
    refine DOps.s0 (Cert.move (by conv => lhs; whnf)) rfl ?_
    refine DOps.gC rfl rfl (fun hC => Cert.callP rfl rfl law_example) rfl ?_
    refine DOps.s0 (Cert.pickAnd rfl rfl (fun h => by first | exact h | exact notT h | exact andI hC h | exact andI hC (notT h) | simp_all) rfl) rfl ?_
    refine DOps.s0 (Cert.assign (by conv => lhs; whnf)) rfl ?_
    refine DOps.nil (by decide +kernel) ?_
    refine hK5 _ ?_
    clear hK5 K5
    refine AWp.ret ?_
    repeat (first | refine xBlock_ret ?_ | refine xThen_ret ?_)
    refine retQ.ret rfl ⟨?_, rfl⟩
    first
    | rfl
    | (show V.a (A.d (D.bool _)) = _
       congr 3
       simp)
end Go.Proofs


namespace Go.Proofs
open Go Go.Ab Go.Ab.Sch
theorem kind_none {d : Doc} {n : List UInt8} (h : find d.defs.l n = none) : kind d n = 0 := by unfold kind; rw [h]; rfl
theorem leaf_eq (d : Doc) (n : List UInt8) : leaf d n = (scalar n || ((find d.defs.l n).isSome && decide (kind d n = 4))) := by
  unfold leaf
  cases h : find d.defs.l n with
  | none => rw [kind_none h]; simp
  | some t => simp
theorem composite_eq (d : Doc) (n : List UInt8) : composite d n = ((!scalar n && (find d.defs.l n).isSome) && ((decide (kind d n = 1) || decide (kind d n = 2)) || decide (kind d n = 3))) := by
  unfold composite
  cases h : find d.defs.l n with
  | none => rw [kind_none h]; simp
  | some t => simp
theorem leaf_comp (d : Doc) (n : List UInt8) : (leaf d n && composite d n) = false := by
  unfold leaf composite
  cases scalar n with
  | true => simp
  | false =>
    by_cases h : kind d n = 4
    · rw [h]; simp
    · simp [h]
set_option maxRecDepth 100000 in
set_option maxHeartbeats 1000000 in
theorem law_SchemaKinds (d : Doc) (hb : Bd d) (n : List UInt8) (k : Int) (H : Heap) : ACalls Try.prog 5 [.agg d.c, .d (.str n), .d (.int .i64 k)] H fun r h' => r = .a (.d (.bool true)) ∧ h' = H := by
  refine ACalls.of_wp (fn := Try.f5) (c := _) Try.tab_ok (fun _ _ => Try.call5 _ _) Try.func5 rfl (n := 65) rfl (rs := [.tmp 6]) rfl rfl ?_
  refine AWp.seqK fun K1 hK1 => ?_
  refine AWp.region ?_
  refine AOps.s0 (Cert.boxV rfl) rfl ?_
  refine AOps.s0 (Cert.assign (by conv => lhs; whnf)) rfl ?_
  refine AOps.nil ?_
  refine hK1 _ ?_
  clear hK1 K1
  refine AWp.seqK fun K2 hK2 => ?_
  refine AWp.seqK fun K3 hK3 => ?_
  refine AWp.region ?_
  refine AOps.s0 (Cert.loadV (Try.tab_ok _ _ rfl) rfl rfl rfl) rfl ?_
  refine AOps.s0 (Cert.callP rfl rfl (ref_Large d hb)) rfl ?_
  refine AOps.nil ?_
  refine hK3 _ ?_
  clear hK3 K3
  refine AWp.cond rfl (fun hc0 => ?_) (fun hc0 => ?_)
  · first
    | (cases hc0; done)
    | skip
    refine AWp.seqK fun K4 hK4 => ?_
    refine AWp.region ?_
    refine AOps.s0 (Cert.callP rfl rfl law_example) rfl ?_
    refine AOps.s0 (Cert.assign (by conv => lhs; whnf)) rfl ?_
    refine AOps.nil ?_
    refine hK4 _ ?_
    clear hK4 K4
    refine AWp.ret ?_
    repeat (first | refine xBlock_ret ?_ | refine xThen_ret ?_)
    refine retQ.ret rfl ⟨?_, rfl⟩
    first
    | rfl
    | (show V.a (A.d (D.bool _)) = _
       have e1 := leaf_eq d n
       have e2 := composite_eq d n
       have e3 : isInput d n = ((scalar n || ((find d.defs.l n).isSome && decide (kind d n = 4))) || ((find d.defs.l n).isSome && decide (kind d n = 5))) := isInput_eq d n
       have e4 := leaf_comp d n
       rw [← e1] at e3
       rw [← e1, ← e2, ← e3]
       congr 3
       simp [e4])
  · first
    | (cases hc0; done)
    | skip
    refine AWp.skip ?_
    refine hK2 _ ?_
    clear hK2 K2
    refine AWp.seqK fun K5 hK5 => ?_
    refine AWp.draw rfl ?_
    refine DOps.s0 (Cert.loadV (Try.tab_ok _ _ rfl) rfl rfl rfl) rfl ?_
    refine DOps.s0 (Cert.move (by conv => lhs; whnf)) rfl ?_
    refine DOps.s0 (Cert.callP rfl rfl (sch_Leaf d n)) rfl ?_
    refine DOps.s0 (Cert.loadV (Try.tab_ok _ _ rfl) rfl rfl rfl) rfl ?_
    refine DOps.s0 (Cert.move (by conv => lhs; whnf)) rfl ?_
    refine DOps.s0 (Cert.callP rfl rfl (sch_Composite d n)) rfl ?_
    refine DOps.s0 (Cert.loadV (Try.tab_ok _ _ rfl) rfl rfl rfl) rfl ?_
    refine DOps.s0 (Cert.move (by conv => lhs; whnf)) rfl ?_
    refine DOps.s0 (Cert.callP rfl rfl (sch_IsInput d n)) rfl ?_
    refine DOps.s0 (Cert.assign (by conv => lhs; whnf)) rfl ?_
    refine DOps.s0 (Cert.assign (by conv => lhs; whnf)) rfl ?_
    refine DOps.s0 (Cert.assign (by conv => lhs; whnf)) rfl ?_
    refine DOps.nil (by decide +kernel) ?_
    refine hK5 _ ?_
    clear hK5 K5
    refine AWp.seqK fun K6 hK6 => ?_
    refine AWp.region ?_
    refine AOps.s0 (Cert.move (by conv => lhs; whnf)) rfl ?_
    refine AOps.s0 (Cert.callP rfl rfl (sch_Root k)) rfl ?_
    refine AOps.s0 (Cert.move (by conv => lhs; whnf)) rfl ?_
    refine AOps.s0 (Cert.callP rfl rfl (ref_Root k)) rfl ?_
    refine AOps.s0 (Cert.binS rfl rfl rfl) rfl ?_
    refine AOps.s0 (Cert.move (by conv => lhs; whnf)) rfl ?_
    refine AOps.gC rfl rfl (fun hC => Cert.move (by conv => lhs; whnf)) rfl ?_
    refine AOps.gC rfl rfl (fun hC => Cert.ungd (k := 28) rfl (by first | exact hC | exact andL hC | exact andL (andL hC) | exact andL (andL (andL hC)) | exact andR hC | simp_all) (Cert.callP rfl rfl (sch_Scalar n))) rfl ?_
    refine AOps.gC rfl rfl (fun hC => Cert.move (by conv => lhs; whnf)) rfl ?_
    refine AOps.gC rfl rfl (fun hC => Cert.ungd (k := 30) rfl (by first | exact hC | exact andL hC | exact andL (andL hC) | exact andL (andL (andL hC)) | exact andR hC | simp_all) (Cert.callP rfl rfl (ref_Scalar n))) rfl ?_
    refine AOps.gC rfl rfl (fun hC => Cert.ungd (k := 29) rfl (by first | exact hC | exact andL hC | exact andL (andL hC) | exact andL (andL (andL hC)) | exact andR hC | simp_all) (Cert.ungd (k := 31) rfl (by first | exact hC | exact andL hC | exact andL (andL hC) | exact andL (andL (andL hC)) | exact andR hC | simp_all) (Cert.eqB (Try.tab_ok _ _ rfl) rfl rfl rfl))) rfl ?_
    refine AOps.s0 (Cert.pickAnd rfl rfl (fun h => by first | exact h | exact notT h | exact andI hC h | exact andI hC (notT h) | simp_all) rfl) rfl ?_
    refine AOps.s0 (Cert.move (by conv => lhs; whnf)) rfl ?_
    refine AOps.gC rfl rfl (fun hC => Cert.move (by conv => lhs; whnf)) rfl ?_
    refine AOps.gC rfl rfl (fun hC => Cert.loadV (Try.tab_ok _ _ rfl) rfl rfl rfl) rfl ?_
    refine AOps.gC rfl rfl (fun hC => Cert.move (by conv => lhs; whnf)) rfl ?_
    refine AOps.gC rfl rfl (fun hC => Cert.ungd (k := 36) rfl (by first | exact hC | exact andL hC | exact andL (andL hC) | exact andL (andL (andL hC)) | exact andR hC | simp_all) (Cert.ungd (k := 37) rfl (by first | exact hC | exact andL hC | exact andL (andL hC) | exact andL (andL (andL hC)) | exact andR hC | simp_all) (Cert.callP rfl rfl (ref_Leaf d n)))) rfl ?_
    refine AOps.gC rfl rfl (fun hC => Cert.ungd (k := 35) rfl (by first | exact hC | exact andL hC | exact andL (andL hC) | exact andL (andL (andL hC)) | exact andR hC | simp_all) (Cert.ungd (k := 38) rfl (by first | exact hC | exact andL hC | exact andL (andL hC) | exact andL (andL (andL hC)) | exact andR hC | simp_all) (Cert.eqB (Try.tab_ok _ _ rfl) rfl rfl rfl))) rfl ?_
    refine AOps.s0 (Cert.pickAnd rfl rfl (fun h => by first | exact h | exact notT h | exact andI hC h | exact andI hC (notT h) | simp_all) rfl) rfl ?_
    refine AOps.s0 (Cert.move (by conv => lhs; whnf)) rfl ?_
    refine AOps.gC rfl rfl (fun hC => Cert.move (by conv => lhs; whnf)) rfl ?_
    refine AOps.gC rfl rfl (fun hC => Cert.loadV (Try.tab_ok _ _ rfl) rfl rfl rfl) rfl ?_
    refine AOps.gC rfl rfl (fun hC => Cert.move (by conv => lhs; whnf)) rfl ?_
    refine AOps.gC rfl rfl (fun hC => Cert.ungd (k := 43) rfl (by first | exact hC | exact andL hC | exact andL (andL hC) | exact andL (andL (andL hC)) | exact andR hC | simp_all) (Cert.ungd (k := 44) rfl (by first | exact hC | exact andL hC | exact andL (andL hC) | exact andL (andL (andL hC)) | exact andR hC | simp_all) (Cert.callP rfl rfl (ref_Composite d n)))) rfl ?_
    refine AOps.gC rfl rfl (fun hC => Cert.ungd (k := 42) rfl (by first | exact hC | exact andL hC | exact andL (andL hC) | exact andL (andL (andL hC)) | exact andR hC | simp_all) (Cert.ungd (k := 45) rfl (by first | exact hC | exact andL hC | exact andL (andL hC) | exact andL (andL (andL hC)) | exact andR hC | simp_all) (Cert.eqB (Try.tab_ok _ _ rfl) rfl rfl rfl))) rfl ?_
    refine AOps.s0 (Cert.pickAnd rfl rfl (fun h => by first | exact h | exact notT h | exact andI hC h | exact andI hC (notT h) | simp_all) rfl) rfl ?_
    refine AOps.s0 (Cert.move (by conv => lhs; whnf)) rfl ?_
    refine AOps.gC rfl rfl (fun hC => Cert.move (by conv => lhs; whnf)) rfl ?_
    refine AOps.gC rfl rfl (fun hC => Cert.loadV (Try.tab_ok _ _ rfl) rfl rfl rfl) rfl ?_
    refine AOps.gC rfl rfl (fun hC => Cert.move (by conv => lhs; whnf)) rfl ?_
    refine AOps.gC rfl rfl (fun hC => Cert.ungd (k := 50) rfl (by first | exact hC | exact andL hC | exact andL (andL hC) | exact andL (andL (andL hC)) | exact andR hC | simp_all) (Cert.ungd (k := 51) rfl (by first | exact hC | exact andL hC | exact andL (andL hC) | exact andL (andL (andL hC)) | exact andR hC | simp_all) (Cert.callP rfl rfl (ref_IsInput d n)))) rfl ?_
    refine AOps.gC rfl rfl (fun hC => Cert.ungd (k := 49) rfl (by first | exact hC | exact andL hC | exact andL (andL hC) | exact andL (andL (andL hC)) | exact andR hC | simp_all) (Cert.ungd (k := 52) rfl (by first | exact hC | exact andL hC | exact andL (andL hC) | exact andL (andL (andL hC)) | exact andR hC | simp_all) (Cert.eqB (Try.tab_ok _ _ rfl) rfl rfl rfl))) rfl ?_
    refine AOps.s0 (Cert.pickAnd rfl rfl (fun h => by first | exact h | exact notT h | exact andI hC h | exact andI hC (notT h) | simp_all) rfl) rfl ?_
    refine AOps.s0 (Cert.move (by conv => lhs; whnf)) rfl ?_
    refine AOps.gC rfl rfl (fun hC => Cert.move (by conv => lhs; whnf)) rfl ?_
    refine AOps.gC rfl rfl (fun hC => Cert.ungd (k := 56) rfl (by first | exact hC | exact andL hC | exact andL (andL hC) | exact andL (andL (andL hC)) | exact andR hC | simp_all) (Cert.move (by conv => lhs; whnf))) rfl ?_
    refine AOps.gC rfl rfl (fun hC => Cert.move (by conv => lhs; whnf)) rfl ?_
    refine AOps.gC rfl rfl (fun hC => Cert.ungd (k := 57) rfl (by first | exact hC | exact andL hC | exact andL (andL hC) | exact andL (andL (andL hC)) | exact andR hC | simp_all) (Cert.pickAnd rfl rfl (fun h => by first | exact h | exact notT h | exact andI hC h | exact andI hC (notT h) | simp_all) rfl)) rfl ?_
    refine AOps.gC rfl rfl (fun hC => Cert.ungd (k := 59) rfl (by first | exact hC | exact andL hC | exact andL (andL hC) | exact andL (andL (andL hC)) | exact andR hC | simp_all) (Cert.notB rfl)) rfl ?_
    refine AOps.s0 (Cert.pickAnd rfl rfl (fun h => by first | exact h | exact notT h | exact andI hC h | exact andI hC (notT h) | simp_all) rfl) rfl ?_
    refine AOps.s0 (Cert.move (by conv => lhs; whnf)) rfl ?_
    refine AOps.gC rfl rfl (fun hC => Cert.callP rfl rfl law_example) rfl ?_
    refine AOps.s0 (Cert.pickAnd rfl rfl (fun h => by first | exact h | exact notT h | exact andI hC h | exact andI hC (notT h) | simp_all) rfl) rfl ?_
    refine AOps.s0 (Cert.assign (by conv => lhs; whnf)) rfl ?_
    refine AOps.nil ?_
    refine hK6 _ ?_
    clear hK6 K6
    refine AWp.ret ?_
    repeat (first | refine xBlock_ret ?_ | refine xThen_ret ?_)
    refine retQ.ret rfl ⟨?_, rfl⟩
    first
    | rfl
    | (show V.a (A.d (D.bool _)) = _
       have e1 := leaf_eq d n
       have e2 := composite_eq d n
       have e3 : isInput d n = ((scalar n || ((find d.defs.l n).isSome && decide (kind d n = 4))) || ((find d.defs.l n).isSome && decide (kind d n = 5))) := isInput_eq d n
       have e4 := leaf_comp d n
       rw [← e1] at e3
       rw [← e1, ← e2, ← e3]
       congr 3
       simp [e4])
def placeAt (l : List Def) (n : List UInt8) : Prop := ∃ (i : Nat) (t : Def), placeI l n = i ∧ l[i]? = some t ∧ find l n = some t
theorem place_cases (l : List Def) (n : List UInt8) : (placeI l n = -1 ∧ find l n = none) ∨ placeAt l n := by
  unfold placeAt placeI find
  cases h : l.findIdx? (fun t => t.name.1 == n) with
  | none =>
    refine .inl ⟨rfl, ?_⟩
    rw [List.findIdx?_eq_none_iff] at h
    rw [List.find?_eq_none]
    intro x hx; rw [h x hx]; simp
  | some i =>
    rw [List.findIdx?_eq_some_iff_getElem] at h
    obtain ⟨hi, h1, h2⟩ := h
    refine .inr ⟨i, l[i], rfl, List.getElem?_eq_getElem hi, ?_⟩
    rw [List.find?_eq_some_iff_getElem]
    exact ⟨h1, i, hi, rfl, fun j hj => by simpa using h2 j hj⟩
theorem place_find (l : List Def) (n : List UInt8) : (find l n).isSome = decide (0 ≤ placeI l n) := by
  rcases place_cases l n with ⟨h1, h2⟩ | ⟨i, t, h1, _, h3⟩
  · rw [h1, h2]; rfl
  · rw [h1, h3]; simp
set_option maxRecDepth 100000 in
set_option maxHeartbeats 1000000 in
theorem law_SchemaFinds (d : Doc) (hb : Bd d) (n p : List UInt8) (H : Heap) : ACalls Try.prog 7 [.agg d.c, .d (.str n), .d (.str p)] H fun r h' => r = .a (.d (.bool true)) ∧ h' = H := by
  refine ACalls.of_wp (fn := Try.f7) (c := _) Try.tab_ok (fun _ _ => Try.call7 _ _) Try.func7 rfl (n := 183) rfl (rs := [.tmp 6]) rfl rfl ?_
  refine AWp.seqK fun K1 hK1 => ?_
  refine AWp.region ?_
  refine AOps.s0 (Cert.boxV rfl) rfl ?_
  refine AOps.s0 (Cert.assign (by conv => lhs; whnf)) rfl ?_
  refine AOps.nil ?_
  refine hK1 _ ?_
  clear hK1 K1
  refine AWp.seqK fun K2 hK2 => ?_
  refine AWp.seqK fun K3 hK3 => ?_
  refine AWp.region ?_
  refine AOps.s0 (Cert.loadV (Try.tab_ok _ _ rfl) rfl rfl rfl) rfl ?_
  refine AOps.s0 (Cert.callP rfl rfl (ref_Large d hb)) rfl ?_
  refine AOps.nil ?_
  refine hK3 _ ?_
  clear hK3 K3
  refine AWp.cond rfl (fun hc0 => ?_) (fun hc0 => ?_)
  · first
    | (cases hc0; done)
    | skip
    refine AWp.seqK fun K4 hK4 => ?_
    refine AWp.region ?_
    refine AOps.s0 (Cert.callP rfl rfl law_example) rfl ?_
    refine AOps.s0 (Cert.assign (by conv => lhs; whnf)) rfl ?_
    refine AOps.nil ?_
    refine hK4 _ ?_
    clear hK4 K4
    refine AWp.ret ?_
    repeat (first | refine xBlock_ret ?_ | refine xThen_ret ?_)
    first
    | exact retQ.ret rfl ⟨rfl, rfl⟩
    | (exfalso
       have h1 := place_find d.defs.l n
       simp [h1] at hc1
       done)
    | (refine retQ.ret rfl ⟨?_, rfl⟩
       have hn := of_decide_eq_true hc2
       rcases place_cases d.defs.l n with ⟨h1, h2⟩ | ⟨i, t, h1, _, _⟩
       · show V.a (A.d (D.bool _)) = _
         rw [h2]; rfl
       · omega)
    | (exfalso
       simp [hp3] at hc3
       done)
    | (refine retQ.ret rfl ⟨?_, rfl⟩
       show V.a (A.d (D.bool _)) = _
       congr 3
       simp)
  · first
    | (cases hc0; done)
    | skip
    refine AWp.skip ?_
    refine hK2 _ ?_
    clear hK2 K2
    refine AWp.seqK fun K5 hK5 => ?_
    refine AWp.region ?_
    refine AOps.s0 (Cert.loadV (Try.tab_ok _ _ rfl) rfl rfl rfl) rfl ?_
    refine AOps.s0 (Cert.move (by conv => lhs; whnf)) rfl ?_
    refine AOps.s0 (Cert.callP rfl rfl (sch_Find d n)) rfl ?_
    refine AOps.s0 (Cert.move (by conv => lhs; whnf)) rfl ?_
    refine AOps.s0 (Cert.extract rfl rfl) rfl ?_
    refine AOps.s0 (Cert.extract rfl rfl) rfl ?_
    refine AOps.sL (Cert.allocL (Try.tab_ok _ _ rfl) rfl (by repeat (first | exact Snoc.nil | apply Snoc.cons))) rfl ?_
    refine AOps.sLn (Cert.storeLF (Try.tab_ok _ _ rfl) rfl rfl rfl rfl rfl (by repeat (first | exact SetAt.zero | apply SetAt.succ))) ?_
    refine AOps.s0 (Cert.assign (by conv => lhs; whnf)) rfl ?_
    refine AOps.nil ?_
    refine hK5 _ ?_
    clear hK5 K5
    refine AWp.freeze 7 _ rfl (by repeat (first | exact Snoc.nil | apply Snoc.cons)) (Keeps.c (k := 1) (by conv => lhs; whnf) (by rfl) (Keeps.c (k := 2) (by conv => lhs; whnf) (by rfl) (Keeps.c (k := 3) (by conv => lhs; whnf) (by rfl) (Keeps.c (k := 8) (by conv => lhs; whnf) (by rfl) Keeps.nil)))) ?_
    refine AWp.seqK fun K6 hK6 => ?_
    refine AWp.region ?_
    refine AOps.s0 (Cert.loadV (Try.tab_ok _ _ rfl) rfl rfl rfl) rfl ?_
    refine AOps.s0 (Cert.move (by conv => lhs; whnf)) rfl ?_
    refine AOps.s0 (Cert.callP rfl rfl (law_place d n)) rfl ?_
    refine AOps.s0 (Cert.assign (by conv => lhs; whnf)) rfl ?_
    refine AOps.nil ?_
    refine hK6 _ ?_
    clear hK6 K6
    refine AWp.seqK fun K7 hK7 => ?_
    refine AWp.seqK fun K8 hK8 => ?_
    refine AWp.region ?_
    refine AOps.s0 (Cert.move (by conv => lhs; whnf)) rfl ?_
    refine AOps.s0 (Cert.move (by conv => lhs; whnf)) rfl ?_
    refine AOps.s0 (Cert.binI rfl rfl rfl) rfl ?_
    refine AOps.s0 (Cert.neB (Try.tab_ok _ _ rfl) rfl rfl rfl) rfl ?_
    refine AOps.nil ?_
    refine hK8 _ ?_
    clear hK8 K8
    refine AWp.cond rfl (fun hc1 => ?_) (fun hc1 => ?_)
    · first
      | (cases hc1; done)
      | skip
      refine AWp.seqK fun K9 hK9 => ?_
      refine AWp.region ?_
      refine AOps.s0 (Cert.assign (by conv => lhs; whnf)) rfl ?_
      refine AOps.nil ?_
      refine hK9 _ ?_
      clear hK9 K9
      refine AWp.ret ?_
      repeat (first | refine xBlock_ret ?_ | refine xThen_ret ?_)
      first
      | exact retQ.ret rfl ⟨rfl, rfl⟩
      | (exfalso
         have h1 := place_find d.defs.l n
         simp [h1] at hc1
         done)
      | (refine retQ.ret rfl ⟨?_, rfl⟩
         have hn := of_decide_eq_true hc2
         rcases place_cases d.defs.l n with ⟨h1, h2⟩ | ⟨i, t, h1, _, _⟩
         · show V.a (A.d (D.bool _)) = _
           rw [h2]; rfl
         · omega)
      | (exfalso
         simp [hp3] at hc3
         done)
      | (refine retQ.ret rfl ⟨?_, rfl⟩
         show V.a (A.d (D.bool _)) = _
         congr 3
         simp)
    · first
      | (cases hc1; done)
      | skip
      refine AWp.skip ?_
      refine hK7 _ ?_
      clear hK7 K7
      refine AWp.seqK fun K10 hK10 => ?_
      refine AWp.seqK fun K11 hK11 => ?_
      refine AWp.region ?_
      refine AOps.s0 (Cert.move (by conv => lhs; whnf)) rfl ?_
      refine AOps.s0 (Cert.binI rfl rfl rfl) rfl ?_
      refine AOps.nil ?_
      refine hK11 _ ?_
      clear hK11 K11
      refine AWp.cond rfl (fun hc2 => ?_) (fun hc2 => ?_)
      · first
        | (cases hc2; done)
        | skip
        refine AWp.seqK fun K12 hK12 => ?_
        refine AWp.region ?_
        refine AOps.s0 (Cert.fieldV (Try.tab_ok _ _ rfl) rfl rfl (Try.tab_ok _ _ rfl) rfl rfl (by conv => lhs; whnf)) rfl ?_
        refine AOps.s0 (Cert.loadV (Try.tab_ok _ _ rfl) rfl rfl rfl) rfl ?_
        refine AOps.s0 (Cert.binS rfl rfl rfl) rfl ?_
        refine AOps.s0 (Cert.move (by conv => lhs; whnf)) rfl ?_
        refine AOps.gC rfl rfl (fun hC => Cert.fieldV (Try.tab_ok _ _ rfl) rfl rfl (Try.tab_ok _ _ rfl) rfl rfl (by conv => lhs; whnf)) rfl ?_
        refine AOps.gC rfl rfl (fun hC => Cert.ungd (k := 41) rfl (by first | exact hC | exact andL hC | exact andL (andL hC) | exact andL (andL (andL hC)) | exact andR hC | simp_all) (Cert.loadV (Try.tab_ok _ _ rfl) rfl rfl rfl)) rfl ?_
        refine AOps.gC rfl rfl (fun hC => Cert.ungd (k := 42) rfl (by first | exact hC | exact andL hC | exact andL (andL hC) | exact andL (andL (andL hC)) | exact andR hC | simp_all) (Cert.binI rfl rfl rfl)) rfl ?_
        refine AOps.s0 (Cert.pickAnd rfl rfl (fun h => by first | exact h | exact notT h | exact andI hC h | exact andI hC (notT h) | simp_all) rfl) rfl ?_
        refine AOps.s0 (Cert.move (by conv => lhs; whnf)) rfl ?_
        refine AOps.gC rfl rfl (fun hC => Cert.fieldV (Try.tab_ok _ _ rfl) rfl rfl (Try.tab_ok _ _ rfl) rfl rfl (by conv => lhs; whnf)) rfl ?_
        refine AOps.gC rfl rfl (fun hC => Cert.ungd (k := 46) rfl (by first | exact hC | exact andL hC | exact andL (andL hC) | exact andL (andL (andL hC)) | exact andR hC | simp_all) (Cert.loadV (Try.tab_ok _ _ rfl) rfl rfl rfl)) rfl ?_
        refine AOps.gC rfl rfl (fun hC => Cert.ungd (k := 47) rfl (by first | exact hC | exact andL hC | exact andL (andL hC) | exact andL (andL (andL hC)) | exact andR hC | simp_all) (Cert.lenA (Try.tab_ok _ _ rfl) rfl rfl rfl)) rfl ?_
        refine AOps.gC rfl rfl (fun hC => Cert.ungd (k := 48) rfl (by first | exact hC | exact andL hC | exact andL (andL hC) | exact andL (andL (andL hC)) | exact andR hC | simp_all) (Cert.binI rfl rfl rfl)) rfl ?_
        refine AOps.s0 (Cert.pickAnd rfl rfl (fun h => by first | exact h | exact notT h | exact andI hC h | exact andI hC (notT h) | simp_all) rfl) rfl ?_
        refine AOps.s0 (Cert.move (by conv => lhs; whnf)) rfl ?_
        refine AOps.gC rfl rfl (fun hC => Cert.callP rfl rfl law_example) rfl ?_
        refine AOps.s0 (Cert.pickAnd rfl rfl (fun h => by first | exact h | exact notT h | exact andI hC h | exact andI hC (notT h) | simp_all) rfl) rfl ?_
        refine AOps.s0 (Cert.assign (by conv => lhs; whnf)) rfl ?_
        refine AOps.nil ?_
        refine hK12 _ ?_
        clear hK12 K12
        refine AWp.ret ?_
        repeat (first | refine xBlock_ret ?_ | refine xThen_ret ?_)
        first
        | exact retQ.ret rfl ⟨rfl, rfl⟩
        | (exfalso
           have h1 := place_find d.defs.l n
           simp [h1] at hc1
           done)
        | (refine retQ.ret rfl ⟨?_, rfl⟩
           have hn := of_decide_eq_true hc2
           rcases place_cases d.defs.l n with ⟨h1, h2⟩ | ⟨i, t, h1, _, _⟩
           · show V.a (A.d (D.bool _)) = _
             rw [h2]; rfl
           · omega)
        | (exfalso
           simp [hp3] at hc3
           done)
        | (refine retQ.ret rfl ⟨?_, rfl⟩
           show V.a (A.d (D.bool _)) = _
           congr 3
           simp)
      · first
        | (cases hc2; done)
        | skip
        refine AWp.skip ?_
        refine hK10 _ ?_
        clear hK10 K10
        refine AWp.seqK fun K13 hK13 => ?_
        refine AWp.region ?_
        have hn := of_decide_eq_false hc2
        obtain ⟨i, T, hp1, hp2, hp3⟩ : placeAt d.defs.l n := (place_cases d.defs.l n).resolve_left (fun h => by omega)
        have hT : (d.defs.l.map Def.c)[(placeI d.defs.l n).toNat]? = some T.c := by rw [hp1, Int.toNat_natCast, List.getElem?_map, hp2]; rfl
        refine AOps.s0 (Cert.fieldV (Try.tab_ok _ _ rfl) rfl rfl (Try.tab_ok _ _ rfl) rfl rfl (by conv => lhs; whnf)) rfl ?_
        refine AOps.s0 (Cert.loadV (Try.tab_ok _ _ rfl) rfl rfl rfl) rfl ?_
        refine AOps.s0 (Cert.move (by conv => lhs; whnf)) rfl ?_
        refine AOps.s0 (Cert.indexA (Try.tab_ok _ _ rfl) rfl (Try.tab_ok _ _ rfl) rfl rfl rfl (by omega) (by assumption)) rfl ?_
        refine AOps.s0 (Cert.loadV (Try.tab_ok _ _ rfl) rfl rfl rfl) rfl ?_
        refine AOps.sL (Cert.allocL (Try.tab_ok _ _ rfl) rfl (by repeat (first | exact Snoc.nil | apply Snoc.cons))) rfl ?_
        refine AOps.sLn (Cert.storeLF (Try.tab_ok _ _ rfl) rfl rfl rfl rfl rfl (by repeat (first | exact SetAt.zero | apply SetAt.succ))) ?_
        refine AOps.nil ?_
        refine hK13 _ ?_
        clear hK13 K13
        refine AWp.freeze 10 _ rfl (by repeat (first | exact Snoc.nil | apply Snoc.cons)) (Keeps.c (k := 2) (by conv => lhs; whnf) (by rfl) (Keeps.c (k := 7) (by conv => lhs; whnf) (by rfl) Keeps.nil)) ?_
        refine AWp.seqK fun K14 hK14 => ?_
        refine AWp.seqK fun K15 hK15 => ?_
        refine AWp.region ?_
        refine AOps.s0 (Cert.fieldV (Try.tab_ok _ _ rfl) rfl rfl (Try.tab_ok _ _ rfl) rfl rfl (by conv => lhs; whnf)) rfl ?_
        refine AOps.s0 (Cert.loadV (Try.tab_ok _ _ rfl) rfl rfl rfl) rfl ?_
        refine AOps.s0 (Cert.fieldV (Try.tab_ok _ _ rfl) rfl rfl (Try.tab_ok _ _ rfl) rfl rfl (by conv => lhs; whnf)) rfl ?_
        refine AOps.s0 (Cert.loadV (Try.tab_ok _ _ rfl) rfl rfl rfl) rfl ?_
        refine AOps.s0 (Cert.binI rfl rfl rfl) rfl ?_
        refine AOps.s0 (Cert.move (by conv => lhs; whnf)) rfl ?_
        refine AOps.gC rfl rfl (fun hC => Cert.fieldV (Try.tab_ok _ _ rfl) rfl rfl (Try.tab_ok _ _ rfl) rfl rfl (by conv => lhs; whnf)) rfl ?_
        refine AOps.gC rfl rfl (fun hC => Cert.ungd (k := 65) rfl (by first | exact hC | exact andL hC | exact andL (andL hC) | exact andL (andL (andL hC)) | exact andR hC | simp_all) (Cert.loadV (Try.tab_ok _ _ rfl) rfl rfl rfl)) rfl ?_
        refine AOps.gC rfl rfl (fun hC => Cert.fieldV (Try.tab_ok _ _ rfl) rfl rfl (Try.tab_ok _ _ rfl) rfl rfl (by conv => lhs; whnf)) rfl ?_
        refine AOps.gC rfl rfl (fun hC => Cert.ungd (k := 67) rfl (by first | exact hC | exact andL hC | exact andL (andL hC) | exact andL (andL (andL hC)) | exact andR hC | simp_all) (Cert.loadV (Try.tab_ok _ _ rfl) rfl rfl rfl)) rfl ?_
        refine AOps.gC rfl rfl (fun hC => Cert.ungd (k := 66) rfl (by first | exact hC | exact andL hC | exact andL (andL hC) | exact andL (andL (andL hC)) | exact andR hC | simp_all) (Cert.ungd (k := 68) rfl (by first | exact hC | exact andL hC | exact andL (andL hC) | exact andL (andL (andL hC)) | exact andR hC | simp_all) (Cert.binS rfl rfl rfl))) rfl ?_
        refine AOps.s0 (Cert.pickOr rfl rfl rfl (fun h => by first | exact h | exact notT h | exact andI hC h | exact andI hC (notT h) | simp_all)) rfl ?_
        refine AOps.s0 (Cert.move (by conv => lhs; whnf)) rfl ?_
        refine AOps.gC rfl rfl (fun hC => Cert.fieldV (Try.tab_ok _ _ rfl) rfl rfl (Try.tab_ok _ _ rfl) rfl rfl (by conv => lhs; whnf)) rfl ?_
        refine AOps.gC rfl rfl (fun hC => Cert.ungd (k := 72) rfl (by first | exact hC | exact andL hC | exact andL (andL hC) | exact andL (andL (andL hC)) | exact andR hC | simp_all) (Cert.loadV (Try.tab_ok _ _ rfl) rfl rfl rfl)) rfl ?_
        refine AOps.gC rfl rfl (fun hC => Cert.ungd (k := 73) rfl (by first | exact hC | exact andL hC | exact andL (andL hC) | exact andL (andL (andL hC)) | exact andR hC | simp_all) (Cert.lenA (Try.tab_ok _ _ rfl) rfl rfl rfl)) rfl ?_
        refine AOps.gC rfl rfl (fun hC => Cert.fieldV (Try.tab_ok _ _ rfl) rfl rfl (Try.tab_ok _ _ rfl) rfl rfl (by conv => lhs; whnf)) rfl ?_
        refine AOps.gC rfl rfl (fun hC => Cert.ungd (k := 75) rfl (by first | exact hC | exact andL hC | exact andL (andL hC) | exact andL (andL (andL hC)) | exact andR hC | simp_all) (Cert.loadV (Try.tab_ok _ _ rfl) rfl rfl rfl)) rfl ?_
        refine AOps.gC rfl rfl (fun hC => Cert.ungd (k := 76) rfl (by first | exact hC | exact andL hC | exact andL (andL hC) | exact andL (andL (andL hC)) | exact andR hC | simp_all) (Cert.lenA (Try.tab_ok _ _ rfl) rfl rfl rfl)) rfl ?_
        refine AOps.gC rfl rfl (fun hC => Cert.ungd (k := 74) rfl (by first | exact hC | exact andL hC | exact andL (andL hC) | exact andL (andL (andL hC)) | exact andR hC | simp_all) (Cert.ungd (k := 77) rfl (by first | exact hC | exact andL hC | exact andL (andL hC) | exact andL (andL (andL hC)) | exact andR hC | simp_all) (Cert.binI rfl rfl rfl))) rfl ?_
        refine AOps.s0 (Cert.pickOr rfl rfl rfl (fun h => by first | exact h | exact notT h | exact andI hC h | exact andI hC (notT h) | simp_all)) rfl ?_
        refine AOps.s0 (Cert.move (by conv => lhs; whnf)) rfl ?_
        refine AOps.gC rfl rfl (fun hC => Cert.fieldV (Try.tab_ok _ _ rfl) rfl rfl (Try.tab_ok _ _ rfl) rfl rfl (by conv => lhs; whnf)) rfl ?_
        refine AOps.gC rfl rfl (fun hC => Cert.ungd (k := 81) rfl (by first | exact hC | exact andL hC | exact andL (andL hC) | exact andL (andL (andL hC)) | exact andR hC | simp_all) (Cert.loadV (Try.tab_ok _ _ rfl) rfl rfl rfl)) rfl ?_
        refine AOps.gC rfl rfl (fun hC => Cert.ungd (k := 82) rfl (by first | exact hC | exact andL hC | exact andL (andL hC) | exact andL (andL (andL hC)) | exact andR hC | simp_all) (Cert.lenA (Try.tab_ok _ _ rfl) rfl rfl rfl)) rfl ?_
        refine AOps.gC rfl rfl (fun hC => Cert.fieldV (Try.tab_ok _ _ rfl) rfl rfl (Try.tab_ok _ _ rfl) rfl rfl (by conv => lhs; whnf)) rfl ?_
        refine AOps.gC rfl rfl (fun hC => Cert.ungd (k := 84) rfl (by first | exact hC | exact andL hC | exact andL (andL hC) | exact andL (andL (andL hC)) | exact andR hC | simp_all) (Cert.loadV (Try.tab_ok _ _ rfl) rfl rfl rfl)) rfl ?_
        refine AOps.gC rfl rfl (fun hC => Cert.ungd (k := 85) rfl (by first | exact hC | exact andL hC | exact andL (andL hC) | exact andL (andL (andL hC)) | exact andR hC | simp_all) (Cert.lenA (Try.tab_ok _ _ rfl) rfl rfl rfl)) rfl ?_
        refine AOps.gC rfl rfl (fun hC => Cert.ungd (k := 83) rfl (by first | exact hC | exact andL hC | exact andL (andL hC) | exact andL (andL (andL hC)) | exact andR hC | simp_all) (Cert.ungd (k := 86) rfl (by first | exact hC | exact andL hC | exact andL (andL hC) | exact andL (andL (andL hC)) | exact andR hC | simp_all) (Cert.binI rfl rfl rfl))) rfl ?_
        refine AOps.s0 (Cert.pickOr rfl rfl rfl (fun h => by first | exact h | exact notT h | exact andI hC h | exact andI hC (notT h) | simp_all)) rfl ?_
        refine AOps.s0 (Cert.move (by conv => lhs; whnf)) rfl ?_
        refine AOps.gC rfl rfl (fun hC => Cert.fieldV (Try.tab_ok _ _ rfl) rfl rfl (Try.tab_ok _ _ rfl) rfl rfl (by conv => lhs; whnf)) rfl ?_
        refine AOps.gC rfl rfl (fun hC => Cert.ungd (k := 90) rfl (by first | exact hC | exact andL hC | exact andL (andL hC) | exact andL (andL (andL hC)) | exact andR hC | simp_all) (Cert.loadV (Try.tab_ok _ _ rfl) rfl rfl rfl)) rfl ?_
        refine AOps.gC rfl rfl (fun hC => Cert.ungd (k := 91) rfl (by first | exact hC | exact andL hC | exact andL (andL hC) | exact andL (andL (andL hC)) | exact andR hC | simp_all) (Cert.lenA (Try.tab_ok _ _ rfl) rfl rfl rfl)) rfl ?_
        refine AOps.gC rfl rfl (fun hC => Cert.fieldV (Try.tab_ok _ _ rfl) rfl rfl (Try.tab_ok _ _ rfl) rfl rfl (by conv => lhs; whnf)) rfl ?_
        refine AOps.gC rfl rfl (fun hC => Cert.ungd (k := 93) rfl (by first | exact hC | exact andL hC | exact andL (andL hC) | exact andL (andL (andL hC)) | exact andR hC | simp_all) (Cert.loadV (Try.tab_ok _ _ rfl) rfl rfl rfl)) rfl ?_
        refine AOps.gC rfl rfl (fun hC => Cert.ungd (k := 94) rfl (by first | exact hC | exact andL hC | exact andL (andL hC) | exact andL (andL (andL hC)) | exact andR hC | simp_all) (Cert.lenA (Try.tab_ok _ _ rfl) rfl rfl rfl)) rfl ?_
        refine AOps.gC rfl rfl (fun hC => Cert.ungd (k := 92) rfl (by first | exact hC | exact andL hC | exact andL (andL hC) | exact andL (andL (andL hC)) | exact andR hC | simp_all) (Cert.ungd (k := 95) rfl (by first | exact hC | exact andL hC | exact andL (andL hC) | exact andL (andL (andL hC)) | exact andR hC | simp_all) (Cert.binI rfl rfl rfl))) rfl ?_
        refine AOps.s0 (Cert.pickOr rfl rfl rfl (fun h => by first | exact h | exact notT h | exact andI hC h | exact andI hC (notT h) | simp_all)) rfl ?_
        refine AOps.nil ?_
        refine hK15 _ ?_
        clear hK15 K15
        refine AWp.cond rfl (fun hc3 => ?_) (fun hc3 => ?_)
        · first
          | (cases hc3; done)
          | skip
          refine AWp.seqK fun K16 hK16 => ?_
          refine AWp.region ?_
          refine AOps.s0 (Cert.assign (by conv => lhs; whnf)) rfl ?_
          refine AOps.nil ?_
          refine hK16 _ ?_
          clear hK16 K16
          refine AWp.ret ?_
          repeat (first | refine xBlock_ret ?_ | refine xThen_ret ?_)
          first
          | exact retQ.ret rfl ⟨rfl, rfl⟩
          | (exfalso
             have h1 := place_find d.defs.l n
             simp [h1] at hc1
             done)
          | (refine retQ.ret rfl ⟨?_, rfl⟩
             have hn := of_decide_eq_true hc2
             rcases place_cases d.defs.l n with ⟨h1, h2⟩ | ⟨i, t, h1, _, _⟩
             · show V.a (A.d (D.bool _)) = _
               rw [h2]; rfl
             · omega)
          | (exfalso
             simp [hp3] at hc3
             done)
          | (refine retQ.ret rfl ⟨?_, rfl⟩
             show V.a (A.d (D.bool _)) = _
             congr 3
             simp)
        · first
          | (cases hc3; done)
          | skip
          refine AWp.skip ?_
          refine hK14 _ ?_
          clear hK14 K14
          refine AWp.seqK fun K17 hK17 => ?_
          refine AWp.region ?_
          refine AOps.s0 (Cert.loadV (Try.tab_ok _ _ rfl) rfl rfl rfl) rfl ?_
          refine AOps.s0 (Cert.move (by conv => lhs; whnf)) rfl ?_
          refine AOps.s0 (Cert.callP rfl rfl (sch_FieldOf _ _ _ _ _ _ none _ T.fields.l T.fields.ok p)) rfl ?_
          refine AOps.s0 (Cert.move (by conv => lhs; whnf)) rfl ?_
          refine AOps.s0 (Cert.extract rfl rfl) rfl ?_
          refine AOps.s0 (Cert.extract rfl rfl) rfl ?_
          refine AOps.sL (Cert.allocL (Try.tab_ok _ _ rfl) rfl (by repeat (first | exact Snoc.nil | apply Snoc.cons))) rfl ?_
          refine AOps.sLn (Cert.storeLF (Try.tab_ok _ _ rfl) rfl rfl rfl rfl rfl (by repeat (first | exact SetAt.zero | apply SetAt.succ))) ?_
          refine AOps.s0 (Cert.assign (by conv => lhs; whnf)) rfl ?_
          refine AOps.nil ?_
          refine hK17 _ ?_
          clear hK17 K17
          refine AWp.freeze 11 _ rfl (by repeat (first | exact Snoc.nil | apply Snoc.cons)) (Keeps.c (k := 2) (by conv => lhs; whnf) (by rfl) (Keeps.c (k := 10) (by conv => lhs; whnf) (by rfl) (Keeps.c (k := 12) (by conv => lhs; whnf) (by rfl) Keeps.nil))) ?_
          refine AWp.seqK fun K18 hK18 => ?_
          refine AWp.region ?_
          refine AOps.s0 (Cert.loadV (Try.tab_ok _ _ rfl) rfl rfl rfl) rfl ?_
          refine AOps.s0 (Cert.move (by conv => lhs; whnf)) rfl ?_
          refine AOps.s0 (Cert.callP rfl rfl (ref_FieldOf _ _ _ _ _ _ none _ T.fields.l T.fields.ok p)) rfl ?_
          refine AOps.s0 (Cert.move (by conv => lhs; whnf)) rfl ?_
          refine AOps.s0 (Cert.extract rfl rfl) rfl ?_
          refine AOps.s0 (Cert.extract rfl rfl) rfl ?_
          refine AOps.sL (Cert.allocL (Try.tab_ok _ _ rfl) rfl (by repeat (first | exact Snoc.nil | apply Snoc.cons))) rfl ?_
          refine AOps.sLn (Cert.storeLF (Try.tab_ok _ _ rfl) rfl rfl rfl rfl rfl (by repeat (first | exact SetAt.zero | apply SetAt.succ))) ?_
          refine AOps.s0 (Cert.assign (by conv => lhs; whnf)) rfl ?_
          refine AOps.nil ?_
          refine hK18 _ ?_
          clear hK18 K18
          refine AWp.freeze 13 _ rfl (by repeat (first | exact Snoc.nil | apply Snoc.cons)) (Keeps.c (k := 2) (by conv => lhs; whnf) (by rfl) (Keeps.c (k := 10) (by conv => lhs; whnf) (by rfl) (Keeps.c (k := 11) (by conv => lhs; whnf) (by rfl) (Keeps.c (k := 12) (by conv => lhs; whnf) (by rfl) (Keeps.c (k := 14) (by conv => lhs; whnf) (by rfl) Keeps.nil))))) ?_
          refine AWp.seqK fun K19 hK19 => ?_
          refine AWp.region ?_
          refine AOps.s0 (Cert.fieldV (Try.tab_ok _ _ rfl) rfl rfl (Try.tab_ok _ _ rfl) rfl rfl (by conv => lhs; whnf)) rfl ?_
          refine AOps.s0 (Cert.loadV (Try.tab_ok _ _ rfl) rfl rfl rfl) rfl ?_
          refine AOps.s0 (Cert.move (by conv => lhs; whnf)) rfl ?_
          refine AOps.s0 (Cert.callP rfl rfl (sch_InputOf none _ T.inputs.l T.inputs.ok p)) rfl ?_
          refine AOps.s0 (Cert.move (by conv => lhs; whnf)) rfl ?_
          refine AOps.s0 (Cert.extract rfl rfl) rfl ?_
          refine AOps.s0 (Cert.extract rfl rfl) rfl ?_
          refine AOps.sL (Cert.allocL (Try.tab_ok _ _ rfl) rfl (by repeat (first | exact Snoc.nil | apply Snoc.cons))) rfl ?_
          refine AOps.sLn (Cert.storeLF (Try.tab_ok _ _ rfl) rfl rfl rfl rfl rfl (by repeat (first | exact SetAt.zero | apply SetAt.succ))) ?_
          refine AOps.s0 (Cert.assign (by conv => lhs; whnf)) rfl ?_
          refine AOps.nil ?_
          refine hK19 _ ?_
          clear hK19 K19
          refine AWp.freeze 15 _ rfl (by repeat (first | exact Snoc.nil | apply Snoc.cons)) (Keeps.c (k := 2) (by conv => lhs; whnf) (by rfl) (Keeps.c (k := 10) (by conv => lhs; whnf) (by rfl) (Keeps.c (k := 11) (by conv => lhs; whnf) (by rfl) (Keeps.c (k := 12) (by conv => lhs; whnf) (by rfl) (Keeps.c (k := 13) (by conv => lhs; whnf) (by rfl) (Keeps.c (k := 14) (by conv => lhs; whnf) (by rfl) (Keeps.c (k := 16) (by conv => lhs; whnf) (by rfl) Keeps.nil))))))) ?_
          refine AWp.seqK fun K20 hK20 => ?_
          refine AWp.region ?_
          refine AOps.s0 (Cert.fieldV (Try.tab_ok _ _ rfl) rfl rfl (Try.tab_ok _ _ rfl) rfl rfl (by conv => lhs; whnf)) rfl ?_
          refine AOps.s0 (Cert.loadV (Try.tab_ok _ _ rfl) rfl rfl rfl) rfl ?_
          refine AOps.s0 (Cert.move (by conv => lhs; whnf)) rfl ?_
          refine AOps.s0 (Cert.callP rfl rfl (ref_InputOf none _ T.inputs.l T.inputs.ok p)) rfl ?_
          refine AOps.s0 (Cert.move (by conv => lhs; whnf)) rfl ?_
          refine AOps.s0 (Cert.extract rfl rfl) rfl ?_
          refine AOps.s0 (Cert.extract rfl rfl) rfl ?_
          refine AOps.sL (Cert.allocL (Try.tab_ok _ _ rfl) rfl (by repeat (first | exact Snoc.nil | apply Snoc.cons))) rfl ?_
          refine AOps.sLn (Cert.storeLF (Try.tab_ok _ _ rfl) rfl rfl rfl rfl rfl (by repeat (first | exact SetAt.zero | apply SetAt.succ))) ?_
          refine AOps.s0 (Cert.assign (by conv => lhs; whnf)) rfl ?_
          refine AOps.nil ?_
          refine hK20 _ ?_
          clear hK20 K20
          refine AWp.freeze 17 _ rfl (by repeat (first | exact Snoc.nil | apply Snoc.cons)) (Keeps.c (k := 11) (by conv => lhs; whnf) (by rfl) (Keeps.c (k := 12) (by conv => lhs; whnf) (by rfl) (Keeps.c (k := 13) (by conv => lhs; whnf) (by rfl) (Keeps.c (k := 14) (by conv => lhs; whnf) (by rfl) (Keeps.c (k := 15) (by conv => lhs; whnf) (by rfl) (Keeps.c (k := 16) (by conv => lhs; whnf) (by rfl) (Keeps.c (k := 18) (by conv => lhs; whnf) (by rfl) Keeps.nil))))))) ?_
          refine AWp.seqK fun K21 hK21 => ?_
          refine AWp.region ?_
          refine AOps.s0 (Cert.move (by conv => lhs; whnf)) rfl ?_
          refine AOps.s0 (Cert.move (by conv => lhs; whnf)) rfl ?_
          refine AOps.s0 (Cert.eqB (Try.tab_ok _ _ rfl) rfl rfl rfl) rfl ?_
          refine AOps.s0 (Cert.move (by conv => lhs; whnf)) rfl ?_
          refine AOps.gC rfl rfl (fun hC => Cert.fieldV (Try.tab_ok _ _ rfl) rfl rfl (Try.tab_ok _ _ rfl) rfl rfl (by conv => lhs; whnf)) rfl ?_
          refine AOps.gC rfl rfl (fun hC => Cert.ungd (k := 128) rfl (by first | exact hC | exact andL hC | exact andL (andL hC) | exact andL (andL (andL hC)) | exact andR hC | simp_all) (Cert.loadV (Try.tab_ok _ _ rfl) rfl rfl rfl)) rfl ?_
          refine AOps.gC rfl rfl (fun hC => Cert.fieldV (Try.tab_ok _ _ rfl) rfl rfl (Try.tab_ok _ _ rfl) rfl rfl (by conv => lhs; whnf)) rfl ?_
          refine AOps.gC rfl rfl (fun hC => Cert.ungd (k := 130) rfl (by first | exact hC | exact andL hC | exact andL (andL hC) | exact andL (andL (andL hC)) | exact andR hC | simp_all) (Cert.loadV (Try.tab_ok _ _ rfl) rfl rfl rfl)) rfl ?_
          refine AOps.gC rfl rfl (fun hC => Cert.ungd (k := 129) rfl (by first | exact hC | exact andL hC | exact andL (andL hC) | exact andL (andL (andL hC)) | exact andR hC | simp_all) (Cert.ungd (k := 131) rfl (by first | exact hC | exact andL hC | exact andL (andL hC) | exact andL (andL (andL hC)) | exact andR hC | simp_all) (Cert.binS rfl rfl rfl))) rfl ?_
          refine AOps.s0 (Cert.pickAnd rfl rfl (fun h => by first | exact h | exact notT h | exact andI hC h | exact andI hC (notT h) | simp_all) rfl) rfl ?_
          refine AOps.s0 (Cert.move (by conv => lhs; whnf)) rfl ?_
          refine AOps.gC rfl rfl (fun hC => Cert.fieldV (Try.tab_ok _ _ rfl) rfl rfl (Try.tab_ok _ _ rfl) rfl rfl (by conv => lhs; whnf)) rfl ?_
          refine AOps.gC rfl rfl (fun hC => Cert.ungd (k := 135) rfl (by first | exact hC | exact andL hC | exact andL (andL hC) | exact andL (andL (andL hC)) | exact andR hC | simp_all) (Cert.fieldV (Try.tab_ok _ _ rfl) rfl rfl (Try.tab_ok _ _ rfl) rfl rfl (by conv => lhs; whnf))) rfl ?_
          refine AOps.gC rfl rfl (fun hC => Cert.ungd (k := 136) rfl (by first | exact hC | exact andL hC | exact andL (andL hC) | exact andL (andL (andL hC)) | exact andR hC | simp_all) (Cert.loadV (Try.tab_ok _ _ rfl) rfl rfl rfl)) rfl ?_
          refine AOps.gC rfl rfl (fun hC => Cert.fieldV (Try.tab_ok _ _ rfl) rfl rfl (Try.tab_ok _ _ rfl) rfl rfl (by conv => lhs; whnf)) rfl ?_
          refine AOps.gC rfl rfl (fun hC => Cert.ungd (k := 138) rfl (by first | exact hC | exact andL hC | exact andL (andL hC) | exact andL (andL (andL hC)) | exact andR hC | simp_all) (Cert.fieldV (Try.tab_ok _ _ rfl) rfl rfl (Try.tab_ok _ _ rfl) rfl rfl (by conv => lhs; whnf))) rfl ?_
          refine AOps.gC rfl rfl (fun hC => Cert.ungd (k := 139) rfl (by first | exact hC | exact andL hC | exact andL (andL hC) | exact andL (andL (andL hC)) | exact andR hC | simp_all) (Cert.loadV (Try.tab_ok _ _ rfl) rfl rfl rfl)) rfl ?_
          refine AOps.gC rfl rfl (fun hC => Cert.ungd (k := 137) rfl (by first | exact hC | exact andL hC | exact andL (andL hC) | exact andL (andL (andL hC)) | exact andR hC | simp_all) (Cert.ungd (k := 140) rfl (by first | exact hC | exact andL hC | exact andL (andL hC) | exact andL (andL (andL hC)) | exact andR hC | simp_all) (Cert.binS rfl rfl rfl))) rfl ?_
          refine AOps.s0 (Cert.pickAnd rfl rfl (fun h => by first | exact h | exact notT h | exact andI hC h | exact andI hC (notT h) | simp_all) rfl) rfl ?_
          refine AOps.s0 (Cert.move (by conv => lhs; whnf)) rfl ?_
          refine AOps.gC rfl rfl (fun hC => Cert.fieldV (Try.tab_ok _ _ rfl) rfl rfl (Try.tab_ok _ _ rfl) rfl rfl (by conv => lhs; whnf)) rfl ?_
          refine AOps.gC rfl rfl (fun hC => Cert.ungd (k := 144) rfl (by first | exact hC | exact andL hC | exact andL (andL hC) | exact andL (andL (andL hC)) | exact andR hC | simp_all) (Cert.loadV (Try.tab_ok _ _ rfl) rfl rfl rfl)) rfl ?_
          refine AOps.gC rfl rfl (fun hC => Cert.ungd (k := 145) rfl (by first | exact hC | exact andL hC | exact andL (andL hC) | exact andL (andL (andL hC)) | exact andR hC | simp_all) (Cert.lenA (Try.tab_ok _ _ rfl) rfl rfl rfl)) rfl ?_
          refine AOps.gC rfl rfl (fun hC => Cert.fieldV (Try.tab_ok _ _ rfl) rfl rfl (Try.tab_ok _ _ rfl) rfl rfl (by conv => lhs; whnf)) rfl ?_
          refine AOps.gC rfl rfl (fun hC => Cert.ungd (k := 147) rfl (by first | exact hC | exact andL hC | exact andL (andL hC) | exact andL (andL (andL hC)) | exact andR hC | simp_all) (Cert.loadV (Try.tab_ok _ _ rfl) rfl rfl rfl)) rfl ?_
          refine AOps.gC rfl rfl (fun hC => Cert.ungd (k := 148) rfl (by first | exact hC | exact andL hC | exact andL (andL hC) | exact andL (andL (andL hC)) | exact andR hC | simp_all) (Cert.lenA (Try.tab_ok _ _ rfl) rfl rfl rfl)) rfl ?_
          refine AOps.gC rfl rfl (fun hC => Cert.ungd (k := 146) rfl (by first | exact hC | exact andL hC | exact andL (andL hC) | exact andL (andL (andL hC)) | exact andR hC | simp_all) (Cert.ungd (k := 149) rfl (by first | exact hC | exact andL hC | exact andL (andL hC) | exact andL (andL (andL hC)) | exact andR hC | simp_all) (Cert.binI rfl rfl rfl))) rfl ?_
          refine AOps.s0 (Cert.pickAnd rfl rfl (fun h => by first | exact h | exact notT h | exact andI hC h | exact andI hC (notT h) | simp_all) rfl) rfl ?_
          refine AOps.s0 (Cert.move (by conv => lhs; whnf)) rfl ?_
          refine AOps.gC rfl rfl (fun hC => Cert.move (by conv => lhs; whnf)) rfl ?_
          refine AOps.gC rfl rfl (fun hC => Cert.move (by conv => lhs; whnf)) rfl ?_
          refine AOps.gC rfl rfl (fun hC => Cert.ungd (k := 153) rfl (by first | exact hC | exact andL hC | exact andL (andL hC) | exact andL (andL (andL hC)) | exact andR hC | simp_all) (Cert.ungd (k := 154) rfl (by first | exact hC | exact andL hC | exact andL (andL hC) | exact andL (andL (andL hC)) | exact andR hC | simp_all) (Cert.eqB (Try.tab_ok _ _ rfl) rfl rfl rfl))) rfl ?_
          refine AOps.s0 (Cert.pickAnd rfl rfl (fun h => by first | exact h | exact notT h | exact andI hC h | exact andI hC (notT h) | simp_all) rfl) rfl ?_
          refine AOps.s0 (Cert.move (by conv => lhs; whnf)) rfl ?_
          refine AOps.gC rfl rfl (fun hC => Cert.fieldV (Try.tab_ok _ _ rfl) rfl rfl (Try.tab_ok _ _ rfl) rfl rfl (by conv => lhs; whnf)) rfl ?_
          refine AOps.gC rfl rfl (fun hC => Cert.ungd (k := 158) rfl (by first | exact hC | exact andL hC | exact andL (andL hC) | exact andL (andL (andL hC)) | exact andR hC | simp_all) (Cert.loadV (Try.tab_ok _ _ rfl) rfl rfl rfl)) rfl ?_
          refine AOps.gC rfl rfl (fun hC => Cert.fieldV (Try.tab_ok _ _ rfl) rfl rfl (Try.tab_ok _ _ rfl) rfl rfl (by conv => lhs; whnf)) rfl ?_
          refine AOps.gC rfl rfl (fun hC => Cert.ungd (k := 160) rfl (by first | exact hC | exact andL hC | exact andL (andL hC) | exact andL (andL (andL hC)) | exact andR hC | simp_all) (Cert.loadV (Try.tab_ok _ _ rfl) rfl rfl rfl)) rfl ?_
          refine AOps.gC rfl rfl (fun hC => Cert.ungd (k := 159) rfl (by first | exact hC | exact andL hC | exact andL (andL hC) | exact andL (andL (andL hC)) | exact andR hC | simp_all) (Cert.ungd (k := 161) rfl (by first | exact hC | exact andL hC | exact andL (andL hC) | exact andL (andL (andL hC)) | exact andR hC | simp_all) (Cert.binS rfl rfl rfl))) rfl ?_
          refine AOps.s0 (Cert.pickAnd rfl rfl (fun h => by first | exact h | exact notT h | exact andI hC h | exact andI hC (notT h) | simp_all) rfl) rfl ?_
          refine AOps.s0 (Cert.move (by conv => lhs; whnf)) rfl ?_
          refine AOps.gC rfl rfl (fun hC => Cert.fieldV (Try.tab_ok _ _ rfl) rfl rfl (Try.tab_ok _ _ rfl) rfl rfl (by conv => lhs; whnf)) rfl ?_
          refine AOps.gC rfl rfl (fun hC => Cert.ungd (k := 165) rfl (by first | exact hC | exact andL hC | exact andL (andL hC) | exact andL (andL (andL hC)) | exact andR hC | simp_all) (Cert.fieldV (Try.tab_ok _ _ rfl) rfl rfl (Try.tab_ok _ _ rfl) rfl rfl (by conv => lhs; whnf))) rfl ?_
          refine AOps.gC rfl rfl (fun hC => Cert.ungd (k := 166) rfl (by first | exact hC | exact andL hC | exact andL (andL hC) | exact andL (andL (andL hC)) | exact andR hC | simp_all) (Cert.loadV (Try.tab_ok _ _ rfl) rfl rfl rfl)) rfl ?_
          refine AOps.gC rfl rfl (fun hC => Cert.fieldV (Try.tab_ok _ _ rfl) rfl rfl (Try.tab_ok _ _ rfl) rfl rfl (by conv => lhs; whnf)) rfl ?_
          refine AOps.gC rfl rfl (fun hC => Cert.ungd (k := 168) rfl (by first | exact hC | exact andL hC | exact andL (andL hC) | exact andL (andL (andL hC)) | exact andR hC | simp_all) (Cert.fieldV (Try.tab_ok _ _ rfl) rfl rfl (Try.tab_ok _ _ rfl) rfl rfl (by conv => lhs; whnf))) rfl ?_
          refine AOps.gC rfl rfl (fun hC => Cert.ungd (k := 169) rfl (by first | exact hC | exact andL hC | exact andL (andL hC) | exact andL (andL (andL hC)) | exact andR hC | simp_all) (Cert.loadV (Try.tab_ok _ _ rfl) rfl rfl rfl)) rfl ?_
          refine AOps.gC rfl rfl (fun hC => Cert.ungd (k := 167) rfl (by first | exact hC | exact andL hC | exact andL (andL hC) | exact andL (andL (andL hC)) | exact andR hC | simp_all) (Cert.ungd (k := 170) rfl (by first | exact hC | exact andL hC | exact andL (andL hC) | exact andL (andL (andL hC)) | exact andR hC | simp_all) (Cert.binS rfl rfl rfl))) rfl ?_
          refine AOps.s0 (Cert.pickAnd rfl rfl (fun h => by first | exact h | exact notT h | exact andI hC h | exact andI hC (notT h) | simp_all) rfl) rfl ?_
          refine AOps.s0 (Cert.move (by conv => lhs; whnf)) rfl ?_
          refine AOps.gC rfl rfl (fun hC => Cert.fieldV (Try.tab_ok _ _ rfl) rfl rfl (Try.tab_ok _ _ rfl) rfl rfl (by conv => lhs; whnf)) rfl ?_
          refine AOps.gC rfl rfl (fun hC => Cert.ungd (k := 174) rfl (by first | exact hC | exact andL hC | exact andL (andL hC) | exact andL (andL (andL hC)) | exact andR hC | simp_all) (Cert.loadV (Try.tab_ok _ _ rfl) rfl rfl rfl)) rfl ?_
          refine AOps.gC rfl rfl (fun hC => Cert.fieldV (Try.tab_ok _ _ rfl) rfl rfl (Try.tab_ok _ _ rfl) rfl rfl (by conv => lhs; whnf)) rfl ?_
          refine AOps.gC rfl rfl (fun hC => Cert.ungd (k := 176) rfl (by first | exact hC | exact andL hC | exact andL (andL hC) | exact andL (andL (andL hC)) | exact andR hC | simp_all) (Cert.loadV (Try.tab_ok _ _ rfl) rfl rfl rfl)) rfl ?_
          refine AOps.gC rfl rfl (fun hC => Cert.ungd (k := 175) rfl (by first | exact hC | exact andL hC | exact andL (andL hC) | exact andL (andL (andL hC)) | exact andR hC | simp_all) (Cert.ungd (k := 177) rfl (by first | exact hC | exact andL hC | exact andL (andL hC) | exact andL (andL (andL hC)) | exact andR hC | simp_all) (Cert.eqB (Try.tab_ok _ _ rfl) rfl rfl rfl))) rfl ?_
          refine AOps.s0 (Cert.pickAnd rfl rfl (fun h => by first | exact h | exact notT h | exact andI hC h | exact andI hC (notT h) | simp_all) rfl) rfl ?_
          refine AOps.s0 (Cert.move (by conv => lhs; whnf)) rfl ?_
          refine AOps.gC rfl rfl (fun hC => Cert.callP rfl rfl law_example) rfl ?_
          refine AOps.s0 (Cert.pickAnd rfl rfl (fun h => by first | exact h | exact notT h | exact andI hC h | exact andI hC (notT h) | simp_all) rfl) rfl ?_
          refine AOps.s0 (Cert.assign (by conv => lhs; whnf)) rfl ?_
          refine AOps.nil ?_
          refine hK21 _ ?_
          clear hK21 K21
          refine AWp.ret ?_
          repeat (first | refine xBlock_ret ?_ | refine xThen_ret ?_)
          first
          | exact retQ.ret rfl ⟨rfl, rfl⟩
          | (exfalso
             have h1 := place_find d.defs.l n
             simp [h1] at hc1
             done)
          | (refine retQ.ret rfl ⟨?_, rfl⟩
             have hn := of_decide_eq_true hc2
             rcases place_cases d.defs.l n with ⟨h1, h2⟩ | ⟨i, t, h1, _, _⟩
             · show V.a (A.d (D.bool _)) = _
               rw [h2]; rfl
             · omega)
          | (exfalso
             simp [hp3] at hc3
             done)
          | (refine retQ.ret rfl ⟨?_, rfl⟩
             show V.a (A.d (D.bool _)) = _
             congr 3
             simp)
end Go.Proofs


namespace Go.Proofs
open Go Go.Ab Go.Ab.Sch
/-! ### A document without violations -/
theorem one_nil {b : Bool} {e : Int} {a : List UInt8} (h : one b e a = []) : b = false := by
  cases b with
  | false => rfl
  | true => simp [one] at h
structure Okd (d : Doc) : Prop where
  place : ∀ (i : Nat) t, d.defs.l[i]? = some t → placeI d.defs.l t.name.1 = i ∧ scalar t.name.1 = false ∧ (composite d t.name.1 || isInput d t.name.1) = true
  inputs : ∀ t ∈ d.defs.l, t.kind = 5 → ∀ x ∈ t.inputs.l, isInput d x.type.name.1 = true
  fields : ∀ t ∈ d.defs.l, (t.kind = 1 ∨ t.kind = 2) → ∀ f ∈ t.fields.l, (leaf d f.type.name.1 || composite d f.type.name.1) = true ∧ ∀ x ∈ f.args.l, isInput d x.type.name.1 = true
theorem flat_nil {α : Type} {f : Nat → List α} {n : Nat} (h : (List.range n).flatMap f = []) (i : Nat) (hi : i < n) : f i = [] := by
  rw [List.flatMap_eq_nil_iff] at h
  exact h i (List.mem_range.2 hi)
theorem inputs_nil {d : Doc} {l : List Ab.Input} {b e : List UInt8} (h : inputsF d l b e l.length = []) : ∀ x ∈ l, isInput d x.type.name.1 = true := by
  intro x hx
  obtain ⟨i, hi, rfl⟩ := List.getElem_of_mem hx
  have h1 := flat_nil h i hi
  unfold inputF at h1
  rw [getD_eq l i hi] at h1
  dsimp only at h1
  rw [List.append_eq_nil_iff] at h1
  have h2 := h1.2
  split at h2
  · have := one_nil h2
    rw [isInput_eq]; simpa using this
  · exact absurd (one_nil h2) (by simp)
theorem okd {d : Doc} {b : Bool} (h : checkAll d b = []) : Okd d := by
  unfold checkAll checkF at h
  rw [List.append_eq_nil_iff] at h
  have hdef : ∀ (i : Nat) t, d.defs.l[i]? = some t → wholeF d i t = [] ∧ partF d t = [] := by
    intro i t ht
    obtain ⟨hi, e⟩ := List.getElem?_eq_some_iff.1 ht
    have h1 := flat_nil h.1 i hi
    unfold defF at h1
    rw [getD_eq _ i hi, e, List.append_eq_nil_iff] at h1
    exact h1
  have hw : ∀ (i : Nat) t, d.defs.l[i]? = some t → scalar t.name.1 = false ∧ seenB d i t.name.1 = false ∧ 1 ≤ t.kind ∧ t.kind ≤ 5 := by
    intro i t ht
    have h1 := (hdef i t ht).1
    unfold wholeF names at h1
    simp only [List.append_eq_nil_iff] at h1
    have h2 := one_nil h1.1.1.1.2
    have h3 := one_nil h1.1.2
    unfold kindBad at h3
    simp only [Bool.or_eq_false_iff, decide_eq_false_iff_not] at h2 h3
    exact ⟨h2.1, h2.2, by omega, by omega⟩
  have hpl : ∀ (i : Nat) t, d.defs.l[i]? = some t → placeI d.defs.l t.name.1 = i ∧ find d.defs.l t.name.1 = some t := by
    intro i t ht
    obtain ⟨hi, e⟩ := List.getElem?_eq_some_iff.1 ht
    have h1 := (hw i t ht).2.1
    have h2 : (d.defs.l.take i).findIdx? (fun u => u.name.1 == t.name.1) = none := by
      rw [List.findIdx?_eq_none_iff]
      unfold seenB at h1
      rw [List.any_eq_false] at h1
      intro x hx; simpa using h1 x hx
    have h3 := findIdx_take (fun u : Def => u.name.1 == t.name.1) d.defs.l i hi h2 (by rw [e]; simp)
    rcases place_cases d.defs.l t.name.1 with ⟨h4, _⟩ | ⟨j, u, h4, h5, h6⟩
    · unfold placeI at h4; rw [h3] at h4; exact absurd h4 (by simp; try omega)
    · have h7 : placeI d.defs.l t.name.1 = i := by unfold placeI; rw [h3]
      have : j = i := by omega
      subst this
      rw [ht] at h5; simp at h5; subst h5
      exact ⟨h7, h6⟩
  have hkind : ∀ n t, find d.defs.l n = some t → 1 ≤ t.kind ∧ t.kind ≤ 5 ∧ kind d n = t.kind := by
    intro n t hf
    have hm := List.mem_of_find?_eq_some hf
    obtain ⟨i, hi, e⟩ := List.getElem_of_mem hm
    have := hw i t (by rw [List.getElem?_eq_getElem hi, e])
    exact ⟨this.2.2.1, this.2.2.2, by unfold kind; rw [hf]; rfl⟩
  have hcomp : ∀ (i : Nat) t, d.defs.l[i]? = some t → (composite d t.name.1 || isInput d t.name.1) = true := by
    intro i t ht
    obtain ⟨_, hf⟩ := hpl i t ht
    obtain ⟨hk1, hk2, hk3⟩ := hkind _ _ hf
    have hs := (hw i t ht).1
    unfold composite isInput leaf
    rw [hs, hk3]
    simp only [Bool.not_false, Bool.true_and, Bool.false_or, Bool.or_eq_true, decide_eq_true_eq]
    omega
  refine ⟨fun i t ht => ⟨(hpl i t ht).1, (hw i t ht).1, hcomp i t ht⟩, fun t ht hk => ?_, fun t ht hk f hf => ?_⟩
  · obtain ⟨i, hi, e⟩ := List.getElem_of_mem ht
    have h1 := (hdef i t (by rw [List.getElem?_eq_getElem hi, e])).2
    unfold partF at h1
    rw [if_neg (by omega), if_neg (by omega), if_pos hk] at h1
    exact inputs_nil h1
  · obtain ⟨i, hi, e⟩ := List.getElem_of_mem ht
    have h1 := (hdef i t (by rw [List.getElem?_eq_getElem hi, e])).2
    unfold partF at h1
    rw [if_pos hk] at h1
    obtain ⟨k, hk', rfl⟩ := List.getElem_of_mem hf
    have h2 := flat_nil h1 k hk'
    unfold fieldF at h2
    rw [getD_eq _ k hk'] at h2
    dsimp only at h2
    rw [List.append_eq_nil_iff, List.append_eq_nil_iff] at h2
    refine ⟨?_, inputs_nil h2.2⟩
    have h3 := h2.1.2
    split at h3
    · rename_i hkn
      have h4 := one_nil h3
      unfold knownB at hkn
      unfold leaf composite
      cases hs : scalar t.fields.l[k].type.name.1 with
      | true => simp
      | false =>
        rw [hs] at hkn h4
        cases hf2 : find d.defs.l t.fields.l[k].type.name.1 with
        | none => rw [hf2] at hkn; simp at hkn
        | some u =>
          obtain ⟨g1, g2, g3⟩ := hkind _ _ hf2
          rw [hf2, g3] at h4
          rw [g3]
          simp at h4 ⊢
          omega
    · exact absurd (one_nil h3) (by simp)
def noDoc : Doc := ⟨Slc.empty⟩
theorem noSmall : Small noDoc := ⟨by decide, fun t h => (by cases h), fun t h => (by cases h), fun t h => (by cases h), fun t h => (by cases h)⟩
theorem noCheck : checkAll noDoc false = [] := rfl
theorem len_nil {α : Type} {l : List α} (f : α → List D) (h : decide ((0 : Int) < ((l.map f).length : Int)) = false) : l = [] := by
  simp at h; exact h
set_option maxRecDepth 100000 in
set_option maxHeartbeats 2000000 in
theorem law_SchemaKnows (d : Doc) (hb : Bd d) (H : Heap) : ACalls Try.prog 6 [.agg d.c] H fun r h' => r = .a (.d (.bool true)) ∧ h' = H := by
  refine ACalls.of_wp (fn := Try.f6) (c := _) Try.tab_ok (fun _ _ => Try.call6 _ _) Try.func6 rfl (n := 137) rfl (rs := [.tmp 2]) rfl rfl ?_
  refine AWp.seqK fun K1 hK1 => ?_
  refine AWp.region ?_
  refine AOps.s0 (Cert.boxV rfl) rfl ?_
  refine AOps.s0 (Cert.assign (by conv => lhs; whnf)) rfl ?_
  refine AOps.nil ?_
  refine hK1 _ ?_
  clear hK1 K1
  refine AWp.seqK fun K2 hK2 => ?_
  refine AWp.seqK fun K3 hK3 => ?_
  refine AWp.region ?_
  refine AOps.s0 (Cert.loadV (Try.tab_ok _ _ rfl) rfl rfl rfl) rfl ?_
  refine AOps.s0 (Cert.callP rfl rfl (ref_Large d hb)) rfl ?_
  refine AOps.s0 (Cert.move (by conv => lhs; whnf)) rfl ?_
  refine AOps.gC rfl rfl (fun hC => Cert.loadV (Try.tab_ok _ _ rfl) rfl rfl rfl) rfl ?_
  refine AOps.gC rfl rfl (fun hC => Cert.ungd (k := 12) rfl (by first | exact hC | exact andL hC | exact andL (andL hC) | exact andL (andL (andL hC)) | exact andR hC | simp_all) (Cert.callP rfl rfl (sch_Check d (largeB_small (by simpa using hC)) false))) rfl ?_
  refine AOps.gC rfl rfl (fun hC => Cert.ungd (k := 13) rfl (by first | exact hC | exact andL hC | exact andL (andL hC) | exact andL (andL (andL hC)) | exact andR hC | simp_all) (Cert.lenA (Try.tab_ok _ _ rfl) rfl rfl rfl)) rfl ?_
  refine AOps.gC rfl rfl (fun hC => Cert.ungd (k := 14) rfl (by first | exact hC | exact andL hC | exact andL (andL hC) | exact andL (andL (andL hC)) | exact andR hC | simp_all) (Cert.binI rfl rfl rfl)) rfl ?_
  refine AOps.s0 (Cert.pickOr rfl rfl rfl (fun h => by first | exact h | exact notT h | exact andI hC h | exact andI hC (notT h) | simp_all)) rfl ?_
  refine AOps.nil ?_
  refine hK3 _ ?_
  clear hK3 K3
  refine AWp.cond rfl (fun hc0 => ?_) (fun hc0 => ?_)
  · first
    | (cases hc0; done)
    | skip
    refine AWp.seqK fun K4 hK4 => ?_
    refine AWp.region ?_
    refine AOps.s0 (Cert.callP rfl rfl law_example) rfl ?_
    refine AOps.s0 (Cert.assign (by conv => lhs; whnf)) rfl ?_
    refine AOps.nil ?_
    refine hK4 _ ?_
    clear hK4 K4
    refine AWp.ret ?_
    repeat (first | refine xBlock_ret ?_ | refine xThen_ret ?_)
    first
    | exact retQ.ret rfl ⟨rfl, rfl⟩
    | (exfalso
       have h1 : (!isInput d ((d.defs.l[i]'hi3).fields.l[j]'hf3).args.l[a].type.name.1) = true := hc8
       have h2 : (decide ((d.defs.l[i]'hi3).kind = 1) || decide ((d.defs.l[i]'hi3).kind = 2)) = true := andR hc5
       have h3 := (hok.fields _ hT (by simpa using h2) _ (List.getElem_mem hf3)).2 _ (List.getElem_mem ha3)
       rw [h3] at h1; cases h1)
    | (exfalso
       have h1 : (!leaf d ((d.defs.l[i]'hi3).fields.l[j]'hf3).type.name.1 && !composite d ((d.defs.l[i]'hi3).fields.l[j]'hf3).type.name.1) = true := hc6
       have h2 : (decide ((d.defs.l[i]'hi3).kind = 1) || decide ((d.defs.l[i]'hi3).kind = 2)) = true := andR hc5
       have h3 := (hok.fields _ hT (by simpa using h2) _ (List.getElem_mem hf3)).1
       rw [← Bool.not_or, h3] at h1; cases h1)
    | (exfalso
       have h1 : (!isInput d ((d.defs.l[i]'hi3).inputs.l[k]'hk3).type.name.1) = true := hc4
       have h2 : decide ((d.defs.l[i]'hi3).kind = 5) = true := andR hc3
       have h3 := hok.inputs _ hT (by simpa using h2) _ (List.getElem_mem hk3)
       rw [h3] at h1; cases h1)
    | (exfalso
       have h1 : ((!decide (placeI d.defs.l (d.defs.l[i]'hi3).name.1 = i) || scalar (d.defs.l[i]'hi3).name.1) || (!composite d (d.defs.l[i]'hi3).name.1 && !isInput d (d.defs.l[i]'hi3).name.1)) = true := hc2
       rw [← Bool.not_or, hpl.2.2, hpl.2.1, hpl.1] at h1; simp at h1)
    | (refine retQ.ret rfl ⟨?_, rfl⟩
       show V.a (A.d (D.bool _)) = _
       congr 3)
  · first
    | (cases hc0; done)
    | skip
    refine AWp.skip ?_
    refine hK2 _ ?_
    clear hK2 K2
    refine AWp.seqK fun K5 hK5 => ?_
    refine AWp.seqK fun K6 hK6 => ?_
    refine AWp.region ?_
    have hnl : largeB d = false := by cases h : largeB d <;> simp_all
    have hok : Okd d := by
      have h := hc0
      rw [hnl, Bool.false_or] at h
      exact okd (len_nil Fault.c h)
    refine AOps.s0 (Cert.assign (by conv => lhs; whnf)) rfl ?_
    refine AOps.nil ?_
    refine hK6 _ ?_
    clear hK6 K6
    refine AWp.block ?_
    refine AWp.loopC (KeepsT.cons (k := 1) (by conv => lhs; whnf) KeepsT.nil) (fun i : Nat => [(3, .a (.d (.int .i64 i)))]) (fun i => d.defs.l.length - i) (fun i => i ≤ d.defs.l.length) 0 (Nat.zero_le _) (Weak.to (by repeat (first | exact Keeps.nil | refine Keeps.c rfl rfl ?_ | refine Keeps.c (by (first | (first | rfl | ((conv => lhs; whnf); first | (simp [cellsA, faultsT, faultsD, namesD, Fault.mk_c, Nat.add_assoc, empty_append, Bool.and_assoc]; done) | (simp [cellsA, faultsT, faultsD, namesD, Nat.add_assoc, empty_append, Bool.and_assoc]; repeat (first | rfl | constructor)))) | rfl | (simp only [get_same, ev]; done) | (simp [*, cellsA]; done) | (show V.a (A.d (D.slice _ _ _ _)) = V.a (A.d (D.slice _ _ _ _)); simp [*, cellsA]; done))) rfl ?_)) (by repeat (first | exact Pfx.nil | apply Pfx.cons)) (by first | rfl | (first | rfl | (simp only [Heap.set_set, List.length_append, List.length_nil, List.length_cons, List.length_map, List.length_singleton, Nat.zero_add]; done) | (simp [Heap.set_set, Nat.add_assoc]; done)) | (((funext n; simp only [Heap.set]; (repeat' split) <;> simp_all)) <;> first | rfl | exact ⟨rfl, rfl⟩))) ?_
    intro i hi K7 hK7
    have hmax : d.defs.l.length ≤ 140737488355328 := d.defs.ok
    refine AWp.seqK fun K8 hK8 => ?_
    refine AWp.seqK fun K9 hK9 => ?_
    refine AWp.region ?_
    refine AOps.s0 (Cert.move (by conv => lhs; whnf)) rfl ?_
    refine AOps.s0 (Cert.fieldV (Try.tab_ok _ _ rfl) rfl rfl (Try.tab_ok _ _ rfl) rfl rfl (by conv => lhs; whnf)) rfl ?_
    refine AOps.s0 (Cert.loadV (Try.tab_ok _ _ rfl) rfl rfl rfl) rfl ?_
    refine AOps.s0 (Cert.lenA (Try.tab_ok _ _ rfl) rfl rfl rfl) rfl ?_
    refine AOps.s0 (Cert.binI rfl rfl rfl) rfl ?_
    refine AOps.nil ?_
    refine hK9 _ ?_
    clear hK9 K9
    refine AWp.cond rfl (fun hc1 => ?_) (fun hc1 => ?_)
    · first
      | (cases hc1; done)
      | skip
      refine AWp.skip ?_
      refine hK8 _ ?_
      clear hK8 K8
      refine AWp.seqK fun K10 hK10 => ?_
      refine AWp.block ?_
      refine AWp.seqK fun K11 hK11 => ?_
      refine AWp.region ?_
      have hi3 : i < d.defs.l.length := map_lt hc1
      have hT : d.defs.l[i]'hi3 ∈ d.defs.l := List.getElem_mem hi3
      have hpl := hok.place i _ (List.getElem?_eq_getElem hi3)
      refine AOps.s0 (Cert.fieldV (Try.tab_ok _ _ rfl) rfl rfl (Try.tab_ok _ _ rfl) rfl rfl (by conv => lhs; whnf)) rfl ?_
      refine AOps.s0 (Cert.loadV (Try.tab_ok _ _ rfl) rfl rfl rfl) rfl ?_
      refine AOps.s0 (Cert.move (by conv => lhs; whnf)) rfl ?_
      refine AOps.s0 (Cert.indexA (Try.tab_ok _ _ rfl) rfl (Try.tab_ok _ _ rfl) rfl rfl rfl (by omega) (map_get (by assumption))) rfl ?_
      refine AOps.s0 (Cert.loadV (Try.tab_ok _ _ rfl) rfl rfl rfl) rfl ?_
      refine AOps.sL (Cert.allocL (Try.tab_ok _ _ rfl) rfl (by repeat (first | exact Snoc.nil | apply Snoc.cons))) rfl ?_
      refine AOps.sLn (Cert.storeLF (Try.tab_ok _ _ rfl) rfl rfl rfl rfl rfl (by repeat (first | exact SetAt.zero | apply SetAt.succ))) ?_
      refine AOps.nil ?_
      refine hK11 _ ?_
      clear hK11 K11
      refine AWp.freeze 4 _ rfl (by repeat (first | exact Snoc.nil | apply Snoc.cons)) (Keeps.c (k := 1) (by conv => lhs; whnf) (by rfl) (Keeps.c (k := 3) (by conv => lhs; whnf) (by rfl) Keeps.nil)) ?_
      refine AWp.seqK fun K12 hK12 => ?_
      refine AWp.seqK fun K13 hK13 => ?_
      refine AWp.region ?_
      refine AOps.s0 (Cert.loadV (Try.tab_ok _ _ rfl) rfl rfl rfl) rfl ?_
      refine AOps.s0 (Cert.fieldV (Try.tab_ok _ _ rfl) rfl rfl (Try.tab_ok _ _ rfl) rfl rfl (by conv => lhs; whnf)) rfl ?_
      refine AOps.s0 (Cert.loadV (Try.tab_ok _ _ rfl) rfl rfl rfl) rfl ?_
      refine AOps.s0 (Cert.callP rfl rfl (law_place d _)) rfl ?_
      refine AOps.s0 (Cert.move (by conv => lhs; whnf)) rfl ?_
      refine AOps.s0 (Cert.binI rfl rfl rfl) rfl ?_
      refine AOps.s0 (Cert.move (by conv => lhs; whnf)) rfl ?_
      refine AOps.gC rfl rfl (fun hC => Cert.fieldV (Try.tab_ok _ _ rfl) rfl rfl (Try.tab_ok _ _ rfl) rfl rfl (by conv => lhs; whnf)) rfl ?_
      refine AOps.gC rfl rfl (fun hC => Cert.ungd (k := 37) rfl (by first | exact hC | exact andL hC | exact andL (andL hC) | exact andL (andL (andL hC)) | exact andR hC | simp_all) (Cert.loadV (Try.tab_ok _ _ rfl) rfl rfl rfl)) rfl ?_
      refine AOps.gC rfl rfl (fun hC => Cert.ungd (k := 38) rfl (by first | exact hC | exact andL hC | exact andL (andL hC) | exact andL (andL (andL hC)) | exact andR hC | simp_all) (Cert.callP rfl rfl (sch_Scalar _))) rfl ?_
      refine AOps.s0 (Cert.pickOr rfl rfl rfl (fun h => by first | exact h | exact notT h | exact andI hC h | exact andI hC (notT h) | simp_all)) rfl ?_
      refine AOps.s0 (Cert.move (by conv => lhs; whnf)) rfl ?_
      refine AOps.gC rfl rfl (fun hC => Cert.loadV (Try.tab_ok _ _ rfl) rfl rfl rfl) rfl ?_
      refine AOps.gC rfl rfl (fun hC => Cert.fieldV (Try.tab_ok _ _ rfl) rfl rfl (Try.tab_ok _ _ rfl) rfl rfl (by conv => lhs; whnf)) rfl ?_
      refine AOps.gC rfl rfl (fun hC => Cert.ungd (k := 43) rfl (by first | exact hC | exact andL hC | exact andL (andL hC) | exact andL (andL (andL hC)) | exact andR hC | simp_all) (Cert.loadV (Try.tab_ok _ _ rfl) rfl rfl rfl)) rfl ?_
      refine AOps.gC rfl rfl (fun hC => Cert.ungd (k := 42) rfl (by first | exact hC | exact andL hC | exact andL (andL hC) | exact andL (andL (andL hC)) | exact andR hC | simp_all) (Cert.ungd (k := 44) rfl (by first | exact hC | exact andL hC | exact andL (andL hC) | exact andL (andL (andL hC)) | exact andR hC | simp_all) (Cert.callP rfl rfl (sch_Composite d _)))) rfl ?_
      refine AOps.gC rfl rfl (fun hC => Cert.ungd (k := 45) rfl (by first | exact hC | exact andL hC | exact andL (andL hC) | exact andL (andL (andL hC)) | exact andR hC | simp_all) (Cert.notB rfl)) rfl ?_
      refine AOps.gC rfl rfl (fun hC => Cert.ungd (k := 46) rfl (by first | exact hC | exact andL hC | exact andL (andL hC) | exact andL (andL (andL hC)) | exact andR hC | simp_all) (Cert.move (by conv => lhs; whnf))) rfl ?_
      refine AOps.gC rfl rfl (fun hC => Cert.loadV (Try.tab_ok _ _ rfl) rfl rfl rfl) rfl ?_
      refine AOps.gC rfl rfl (fun hC => Cert.fieldV (Try.tab_ok _ _ rfl) rfl rfl (Try.tab_ok _ _ rfl) rfl rfl (by conv => lhs; whnf)) rfl ?_
      refine AOps.gC rfl rfl (fun hC => Cert.ungd (k := 49) rfl (by first | exact hC | exact andL hC | exact andL (andL hC) | exact andL (andL (andL hC)) | exact andR hC | simp_all) (Cert.loadV (Try.tab_ok _ _ rfl) rfl rfl rfl)) rfl ?_
      refine AOps.gC rfl rfl (fun hC => Cert.ungd (k := 48) rfl (by first | exact hC | exact andL hC | exact andL (andL hC) | exact andL (andL (andL hC)) | exact andR hC | simp_all) (Cert.ungd (k := 50) rfl (by first | exact hC | exact andL hC | exact andL (andL hC) | exact andL (andL (andL hC)) | exact andR hC | simp_all) (Cert.callP rfl rfl (sch_IsInput d _)))) rfl ?_
      refine AOps.gC rfl rfl (fun hC => Cert.ungd (k := 51) rfl (by first | exact hC | exact andL hC | exact andL (andL hC) | exact andL (andL (andL hC)) | exact andR hC | simp_all) (Cert.notB rfl)) rfl ?_
      refine AOps.gC rfl rfl (fun hC => Cert.ungd (k := 47) rfl (by first | exact hC | exact andL hC | exact andL (andL hC) | exact andL (andL (andL hC)) | exact andR hC | simp_all) (Cert.pickAnd rfl rfl (fun h => by first | exact h | exact notT h | exact andI hC h | exact andI hC (notT h) | simp_all) rfl)) rfl ?_
      refine AOps.s0 (Cert.pickOr rfl rfl rfl (fun h => by first | exact h | exact notT h | exact andI hC h | exact andI hC (notT h) | simp_all)) rfl ?_
      refine AOps.nil ?_
      refine hK13 _ ?_
      clear hK13 K13
      refine AWp.cond rfl (fun hc2 => ?_) (fun hc2 => ?_)
      · first
        | (cases hc2; done)
        | skip
        refine AWp.seqK fun K14 hK14 => ?_
        refine AWp.region ?_
        refine AOps.s0 (Cert.assign (by conv => lhs; whnf)) rfl ?_
        refine AOps.nil ?_
        refine hK14 _ ?_
        clear hK14 K14
        refine AWp.ret ?_
        repeat (first | refine xBlock_ret ?_ | refine xThen_ret ?_)
        first
        | exact retQ.ret rfl ⟨rfl, rfl⟩
        | (exfalso
           have h1 : (!isInput d ((d.defs.l[i]'hi3).fields.l[j]'hf3).args.l[a].type.name.1) = true := hc8
           have h2 : (decide ((d.defs.l[i]'hi3).kind = 1) || decide ((d.defs.l[i]'hi3).kind = 2)) = true := andR hc5
           have h3 := (hok.fields _ hT (by simpa using h2) _ (List.getElem_mem hf3)).2 _ (List.getElem_mem ha3)
           rw [h3] at h1; cases h1)
        | (exfalso
           have h1 : (!leaf d ((d.defs.l[i]'hi3).fields.l[j]'hf3).type.name.1 && !composite d ((d.defs.l[i]'hi3).fields.l[j]'hf3).type.name.1) = true := hc6
           have h2 : (decide ((d.defs.l[i]'hi3).kind = 1) || decide ((d.defs.l[i]'hi3).kind = 2)) = true := andR hc5
           have h3 := (hok.fields _ hT (by simpa using h2) _ (List.getElem_mem hf3)).1
           rw [← Bool.not_or, h3] at h1; cases h1)
        | (exfalso
           have h1 : (!isInput d ((d.defs.l[i]'hi3).inputs.l[k]'hk3).type.name.1) = true := hc4
           have h2 : decide ((d.defs.l[i]'hi3).kind = 5) = true := andR hc3
           have h3 := hok.inputs _ hT (by simpa using h2) _ (List.getElem_mem hk3)
           rw [h3] at h1; cases h1)
        | (exfalso
           have h1 : ((!decide (placeI d.defs.l (d.defs.l[i]'hi3).name.1 = i) || scalar (d.defs.l[i]'hi3).name.1) || (!composite d (d.defs.l[i]'hi3).name.1 && !isInput d (d.defs.l[i]'hi3).name.1)) = true := hc2
           rw [← Bool.not_or, hpl.2.2, hpl.2.1, hpl.1] at h1; simp at h1)
        | (refine retQ.ret rfl ⟨?_, rfl⟩
           show V.a (A.d (D.bool _)) = _
           congr 3)
      · first
        | (cases hc2; done)
        | skip
        refine AWp.skip ?_
        refine hK12 _ ?_
        clear hK12 K12
        refine AWp.seqK fun K15 hK15 => ?_
        refine AWp.seqK fun K16 hK16 => ?_
        refine AWp.region ?_
        refine AOps.s0 (Cert.assign (by conv => lhs; whnf)) rfl ?_
        refine AOps.nil ?_
        refine hK16 _ ?_
        clear hK16 K16
        refine AWp.block ?_
        refine AWp.loopC (KeepsT.cons (k := 1) (by conv => lhs; whnf) (KeepsT.cons (k := 3) (by conv => lhs; whnf) (KeepsT.cons (k := 4) (by conv => lhs; whnf) KeepsT.nil))) (fun k : Nat => [(5, .a (.d (.int .i64 k)))]) (fun k => (d.defs.l[i]'hi3).inputs.l.length - k) (fun k => k ≤ (d.defs.l[i]'hi3).inputs.l.length) 0 (Nat.zero_le _) (Weak.to (by repeat (first | exact Keeps.nil | refine Keeps.c rfl rfl ?_ | refine Keeps.c (by (first | (first | rfl | ((conv => lhs; whnf); first | (simp [cellsA, faultsT, faultsD, namesD, Fault.mk_c, Nat.add_assoc, empty_append, Bool.and_assoc]; done) | (simp [cellsA, faultsT, faultsD, namesD, Nat.add_assoc, empty_append, Bool.and_assoc]; repeat (first | rfl | constructor)))) | rfl | (simp only [get_same, ev]; done) | (simp [*, cellsA]; done) | (show V.a (A.d (D.slice _ _ _ _)) = V.a (A.d (D.slice _ _ _ _)); simp [*, cellsA]; done))) rfl ?_)) (by repeat (first | exact Pfx.nil | apply Pfx.cons)) (by first | rfl | (first | rfl | (simp only [Heap.set_set, List.length_append, List.length_nil, List.length_cons, List.length_map, List.length_singleton, Nat.zero_add]; done) | (simp [Heap.set_set, Nat.add_assoc]; done)) | (((funext n; simp only [Heap.set]; (repeat' split) <;> simp_all)) <;> first | rfl | exact ⟨rfl, rfl⟩))) ?_
        intro k hk K17 hK17
        have hmax2 : (d.defs.l[i]'hi3).inputs.l.length ≤ 140737488355328 := (d.defs.l[i]'hi3).inputs.ok
        refine AWp.seqK fun K18 hK18 => ?_
        refine AWp.seqK fun K19 hK19 => ?_
        refine AWp.region ?_
        refine AOps.s0 (Cert.move (by conv => lhs; whnf)) rfl ?_
        refine AOps.s0 (Cert.fieldV (Try.tab_ok _ _ rfl) rfl rfl (Try.tab_ok _ _ rfl) rfl rfl (by conv => lhs; whnf)) rfl ?_
        refine AOps.s0 (Cert.loadV (Try.tab_ok _ _ rfl) rfl rfl rfl) rfl ?_
        refine AOps.s0 (Cert.lenA (Try.tab_ok _ _ rfl) rfl rfl rfl) rfl ?_
        refine AOps.s0 (Cert.binI rfl rfl rfl) rfl ?_
        refine AOps.s0 (Cert.move (by conv => lhs; whnf)) rfl ?_
        refine AOps.gC rfl rfl (fun hC => Cert.fieldV (Try.tab_ok _ _ rfl) rfl rfl (Try.tab_ok _ _ rfl) rfl rfl (by conv => lhs; whnf)) rfl ?_
        refine AOps.gC rfl rfl (fun hC => Cert.ungd (k := 61) rfl (by first | exact hC | exact andL hC | exact andL (andL hC) | exact andL (andL (andL hC)) | exact andR hC | simp_all) (Cert.loadV (Try.tab_ok _ _ rfl) rfl rfl rfl)) rfl ?_
        refine AOps.gC rfl rfl (fun hC => Cert.ungd (k := 62) rfl (by first | exact hC | exact andL hC | exact andL (andL hC) | exact andL (andL (andL hC)) | exact andR hC | simp_all) (Cert.binI rfl rfl rfl)) rfl ?_
        refine AOps.s0 (Cert.pickAnd rfl rfl (fun h => by first | exact h | exact notT h | exact andI hC h | exact andI hC (notT h) | simp_all) rfl) rfl ?_
        refine AOps.nil ?_
        refine hK19 _ ?_
        clear hK19 K19
        refine AWp.cond rfl (fun hc3 => ?_) (fun hc3 => ?_)
        · first
          | (cases hc3; done)
          | skip
          refine AWp.skip ?_
          refine hK18 _ ?_
          clear hK18 K18
          refine AWp.seqK fun K20 hK20 => ?_
          refine AWp.block ?_
          refine AWp.seqK fun K21 hK21 => ?_
          refine AWp.draw rfl ?_
          have hk3 : k < (d.defs.l[i]'hi3).inputs.l.length := map_lt (andL hc3)
          refine DOps.s0 (Cert.loadV (Try.tab_ok _ _ rfl) rfl rfl rfl) rfl ?_
          refine DOps.s0 (Cert.fieldV (Try.tab_ok _ _ rfl) rfl rfl (Try.tab_ok _ _ rfl) rfl rfl (by conv => lhs; whnf)) rfl ?_
          refine DOps.s0 (Cert.loadV (Try.tab_ok _ _ rfl) rfl rfl rfl) rfl ?_
          refine DOps.s0 (Cert.move (by conv => lhs; whnf)) rfl ?_
          refine DOps.s0 (Cert.indexA (Try.tab_ok _ _ rfl) rfl (Try.tab_ok _ _ rfl) rfl rfl rfl (by omega) (map_get' hk3)) rfl ?_
          refine DOps.s0 (Cert.fieldV (Try.tab_ok _ _ rfl) rfl rfl (Try.tab_ok _ _ rfl) rfl rfl (by conv => lhs; whnf)) rfl ?_
          refine DOps.s0 (Cert.fieldV (Try.tab_ok _ _ rfl) rfl rfl (Try.tab_ok _ _ rfl) rfl rfl (by conv => lhs; whnf)) rfl ?_
          refine DOps.s0 (Cert.loadV (Try.tab_ok _ _ rfl) rfl rfl rfl) rfl ?_
          refine DOps.s0 (Cert.callP rfl rfl (sch_IsInput d _)) rfl ?_
          refine DOps.s0 (Cert.notB rfl) rfl ?_
          refine DOps.nil (by decide +kernel) ?_
          refine hK21 _ ?_
          clear hK21 K21
          refine AWp.cond rfl (fun hc4 => ?_) (fun hc4 => ?_)
          · first
            | (cases hc4; done)
            | skip
            refine AWp.seqK fun K22 hK22 => ?_
            refine AWp.region ?_
            refine AOps.s0 (Cert.assign (by conv => lhs; whnf)) rfl ?_
            refine AOps.nil ?_
            refine hK22 _ ?_
            clear hK22 K22
            refine AWp.ret ?_
            repeat (first | refine xBlock_ret ?_ | refine xThen_ret ?_)
            first
            | exact retQ.ret rfl ⟨rfl, rfl⟩
            | (exfalso
               have h1 : (!isInput d ((d.defs.l[i]'hi3).fields.l[j]'hf3).args.l[a].type.name.1) = true := hc8
               have h2 : (decide ((d.defs.l[i]'hi3).kind = 1) || decide ((d.defs.l[i]'hi3).kind = 2)) = true := andR hc5
               have h3 := (hok.fields _ hT (by simpa using h2) _ (List.getElem_mem hf3)).2 _ (List.getElem_mem ha3)
               rw [h3] at h1; cases h1)
            | (exfalso
               have h1 : (!leaf d ((d.defs.l[i]'hi3).fields.l[j]'hf3).type.name.1 && !composite d ((d.defs.l[i]'hi3).fields.l[j]'hf3).type.name.1) = true := hc6
               have h2 : (decide ((d.defs.l[i]'hi3).kind = 1) || decide ((d.defs.l[i]'hi3).kind = 2)) = true := andR hc5
               have h3 := (hok.fields _ hT (by simpa using h2) _ (List.getElem_mem hf3)).1
               rw [← Bool.not_or, h3] at h1; cases h1)
            | (exfalso
               have h1 : (!isInput d ((d.defs.l[i]'hi3).inputs.l[k]'hk3).type.name.1) = true := hc4
               have h2 : decide ((d.defs.l[i]'hi3).kind = 5) = true := andR hc3
               have h3 := hok.inputs _ hT (by simpa using h2) _ (List.getElem_mem hk3)
               rw [h3] at h1; cases h1)
            | (exfalso
               have h1 : ((!decide (placeI d.defs.l (d.defs.l[i]'hi3).name.1 = i) || scalar (d.defs.l[i]'hi3).name.1) || (!composite d (d.defs.l[i]'hi3).name.1 && !isInput d (d.defs.l[i]'hi3).name.1)) = true := hc2
               rw [← Bool.not_or, hpl.2.2, hpl.2.1, hpl.1] at h1; simp at h1)
            | (refine retQ.ret rfl ⟨?_, rfl⟩
               show V.a (A.d (D.bool _)) = _
               congr 3)
          · first
            | (cases hc4; done)
            | skip
            refine AWp.skip ?_
            refine hK20 _ ?_
            clear hK20 K20
            refine AWp.region ?_
            refine AOps.s0 (Cert.move (by conv => lhs; whnf)) rfl ?_
            refine AOps.s0 (Cert.addI rfl rfl (by first | omega | (dsimp only; omega)) (by first | omega | (dsimp only; omega))) rfl ?_
            refine AOps.s0 (Cert.assign (by conv => lhs; whnf)) rfl ?_
            refine AOps.nil ?_
            exact hK17 _ (k + 1) (Weak.to (by repeat (first | exact Keeps.nil | refine Keeps.c rfl rfl ?_ | refine Keeps.c (by (first | (first | rfl | ((conv => lhs; whnf); first | (simp [cellsA, faultsT, faultsD, namesD, Fault.mk_c, Nat.add_assoc, empty_append, Bool.and_assoc]; done) | (simp [cellsA, faultsT, faultsD, namesD, Nat.add_assoc, empty_append, Bool.and_assoc]; repeat (first | rfl | constructor)))) | rfl | (simp only [get_same, ev]; done) | (simp [*, cellsA]; done) | (show V.a (A.d (D.slice _ _ _ _)) = V.a (A.d (D.slice _ _ _ _)); simp [*, cellsA]; done))) rfl ?_)) (by repeat (first | exact Pfx.nil | apply Pfx.cons)) (by first | rfl | (first | rfl | (simp only [Heap.set_set, List.length_append, List.length_nil, List.length_cons, List.length_map, List.length_singleton, Nat.zero_add]; done) | (simp [Heap.set_set, Nat.add_assoc]; done)) | (((funext n; simp only [Heap.set]; (repeat' split) <;> simp_all)) <;> first | rfl | exact ⟨rfl, rfl⟩))) hk3 (by omega)
        · first
          | (cases hc3; done)
          | skip
          refine AWp.exit ?_
          refine hK15 _ ?_
          clear hK18 K18 hK17 K17 hK15 K15
          refine AWp.seqK fun K23 hK23 => ?_
          refine AWp.region ?_
          refine AOps.s0 (Cert.assign (by conv => lhs; whnf)) rfl ?_
          refine AOps.nil ?_
          refine hK23 _ ?_
          clear hK23 K23
          refine AWp.block ?_
          refine AWp.loopC (KeepsT.cons (k := 1) (by conv => lhs; whnf) (KeepsT.cons (k := 3) (by conv => lhs; whnf) (KeepsT.cons (k := 4) (by conv => lhs; whnf) KeepsT.nil))) (fun k : Nat => [(6, .a (.d (.int .i64 k)))]) (fun k => (d.defs.l[i]'hi3).fields.l.length - k) (fun k => k ≤ (d.defs.l[i]'hi3).fields.l.length) 0 (Nat.zero_le _) (Weak.to (by repeat (first | exact Keeps.nil | refine Keeps.c rfl rfl ?_ | refine Keeps.c (by (first | (first | rfl | ((conv => lhs; whnf); first | (simp [cellsA, faultsT, faultsD, namesD, Fault.mk_c, Nat.add_assoc, empty_append, Bool.and_assoc]; done) | (simp [cellsA, faultsT, faultsD, namesD, Nat.add_assoc, empty_append, Bool.and_assoc]; repeat (first | rfl | constructor)))) | rfl | (simp only [get_same, ev]; done) | (simp [*, cellsA]; done) | (show V.a (A.d (D.slice _ _ _ _)) = V.a (A.d (D.slice _ _ _ _)); simp [*, cellsA]; done))) rfl ?_)) (by repeat (first | exact Pfx.nil | apply Pfx.cons)) (by first | rfl | (first | rfl | (simp only [Heap.set_set, List.length_append, List.length_nil, List.length_cons, List.length_map, List.length_singleton, Nat.zero_add]; done) | (simp [Heap.set_set, Nat.add_assoc]; done)) | (((funext n; simp only [Heap.set]; (repeat' split) <;> simp_all)) <;> first | rfl | exact ⟨rfl, rfl⟩))) ?_
          intro j hj K24 hK24
          have hmax3 : (d.defs.l[i]'hi3).fields.l.length ≤ 140737488355328 := (d.defs.l[i]'hi3).fields.ok
          refine AWp.seqK fun K25 hK25 => ?_
          refine AWp.seqK fun K26 hK26 => ?_
          refine AWp.region ?_
          refine AOps.s0 (Cert.move (by conv => lhs; whnf)) rfl ?_
          refine AOps.s0 (Cert.fieldV (Try.tab_ok _ _ rfl) rfl rfl (Try.tab_ok _ _ rfl) rfl rfl (by conv => lhs; whnf)) rfl ?_
          refine AOps.s0 (Cert.loadV (Try.tab_ok _ _ rfl) rfl rfl rfl) rfl ?_
          refine AOps.s0 (Cert.lenA (Try.tab_ok _ _ rfl) rfl rfl rfl) rfl ?_
          refine AOps.s0 (Cert.binI rfl rfl rfl) rfl ?_
          refine AOps.s0 (Cert.move (by conv => lhs; whnf)) rfl ?_
          refine AOps.gC rfl rfl (fun hC => Cert.fieldV (Try.tab_ok _ _ rfl) rfl rfl (Try.tab_ok _ _ rfl) rfl rfl (by conv => lhs; whnf)) rfl ?_
          refine AOps.gC rfl rfl (fun hC => Cert.ungd (k := 83) rfl (by first | exact hC | exact andL hC | exact andL (andL hC) | exact andL (andL (andL hC)) | exact andR hC | simp_all) (Cert.loadV (Try.tab_ok _ _ rfl) rfl rfl rfl)) rfl ?_
          refine AOps.gC rfl rfl (fun hC => Cert.ungd (k := 84) rfl (by first | exact hC | exact andL hC | exact andL (andL hC) | exact andL (andL (andL hC)) | exact andR hC | simp_all) (Cert.binI rfl rfl rfl)) rfl ?_
          refine AOps.gC rfl rfl (fun hC => Cert.ungd (k := 85) rfl (by first | exact hC | exact andL hC | exact andL (andL hC) | exact andL (andL (andL hC)) | exact andR hC | simp_all) (Cert.move (by conv => lhs; whnf))) rfl ?_
          refine AOps.gC rfl rfl (fun hC => Cert.fieldV (Try.tab_ok _ _ rfl) rfl rfl (Try.tab_ok _ _ rfl) rfl rfl (by conv => lhs; whnf)) rfl ?_
          refine AOps.gC rfl rfl (fun hC => Cert.ungd (k := 87) rfl (by first | exact hC | exact andL hC | exact andL (andL hC) | exact andL (andL (andL hC)) | exact andR hC | simp_all) (Cert.loadV (Try.tab_ok _ _ rfl) rfl rfl rfl)) rfl ?_
          refine AOps.gC rfl rfl (fun hC => Cert.ungd (k := 88) rfl (by first | exact hC | exact andL hC | exact andL (andL hC) | exact andL (andL (andL hC)) | exact andR hC | simp_all) (Cert.binI rfl rfl rfl)) rfl ?_
          refine AOps.gC rfl rfl (fun hC => Cert.ungd (k := 86) rfl (by first | exact hC | exact andL hC | exact andL (andL hC) | exact andL (andL (andL hC)) | exact andR hC | simp_all) (Cert.pickOr rfl rfl rfl (fun h => by first | exact h | exact notT h | exact andI hC h | exact andI hC (notT h) | simp_all))) rfl ?_
          refine AOps.s0 (Cert.pickAnd rfl rfl (fun h => by first | exact h | exact notT h | exact andI hC h | exact andI hC (notT h) | simp_all) rfl) rfl ?_
          refine AOps.nil ?_
          refine hK26 _ ?_
          clear hK26 K26
          refine AWp.cond rfl (fun hc5 => ?_) (fun hc5 => ?_)
          · first
            | (cases hc5; done)
            | skip
            refine AWp.skip ?_
            refine hK25 _ ?_
            clear hK25 K25
            refine AWp.seqK fun K27 hK27 => ?_
            refine AWp.block ?_
            refine AWp.seqK fun K28 hK28 => ?_
            refine AWp.region ?_
            have hf3 : j < (d.defs.l[i]'hi3).fields.l.length := map_lt (andL hc5)
            refine AOps.s0 (Cert.fieldV (Try.tab_ok _ _ rfl) rfl rfl (Try.tab_ok _ _ rfl) rfl rfl (by conv => lhs; whnf)) rfl ?_
            refine AOps.s0 (Cert.loadV (Try.tab_ok _ _ rfl) rfl rfl rfl) rfl ?_
            refine AOps.s0 (Cert.move (by conv => lhs; whnf)) rfl ?_
            refine AOps.s0 (Cert.indexA (Try.tab_ok _ _ rfl) rfl (Try.tab_ok _ _ rfl) rfl rfl rfl (by omega) (map_get' hf3)) rfl ?_
            refine AOps.s0 (Cert.loadV (Try.tab_ok _ _ rfl) rfl rfl rfl) rfl ?_
            refine AOps.sL (Cert.allocL (Try.tab_ok _ _ rfl) rfl (by repeat (first | exact Snoc.nil | apply Snoc.cons))) rfl ?_
            refine AOps.sLn (Cert.storeLF (Try.tab_ok _ _ rfl) rfl rfl rfl rfl rfl (by repeat (first | exact SetAt.zero | apply SetAt.succ))) ?_
            refine AOps.nil ?_
            refine hK28 _ ?_
            clear hK28 K28
            refine AWp.freeze 7 _ rfl (by repeat (first | exact Snoc.nil | apply Snoc.cons)) (Keeps.c (k := 1) (by conv => lhs; whnf) (by rfl) (Keeps.c (k := 3) (by conv => lhs; whnf) (by rfl) (Keeps.c (k := 4) (by conv => lhs; whnf) (by rfl) (Keeps.c (k := 6) (by conv => lhs; whnf) (by rfl) Keeps.nil)))) ?_
            refine AWp.seqK fun K29 hK29 => ?_
            refine AWp.seqK fun K30 hK30 => ?_
            refine AWp.region ?_
            refine AOps.s0 (Cert.loadV (Try.tab_ok _ _ rfl) rfl rfl rfl) rfl ?_
            refine AOps.s0 (Cert.fieldV (Try.tab_ok _ _ rfl) rfl rfl (Try.tab_ok _ _ rfl) rfl rfl (by conv => lhs; whnf)) rfl ?_
            refine AOps.s0 (Cert.fieldV (Try.tab_ok _ _ rfl) rfl rfl (Try.tab_ok _ _ rfl) rfl rfl (by conv => lhs; whnf)) rfl ?_
            refine AOps.s0 (Cert.loadV (Try.tab_ok _ _ rfl) rfl rfl rfl) rfl ?_
            refine AOps.s0 (Cert.callP rfl rfl (sch_Leaf d _)) rfl ?_
            refine AOps.s0 (Cert.notB rfl) rfl ?_
            refine AOps.s0 (Cert.move (by conv => lhs; whnf)) rfl ?_
            refine AOps.gC rfl rfl (fun hC => Cert.loadV (Try.tab_ok _ _ rfl) rfl rfl rfl) rfl ?_
            refine AOps.gC rfl rfl (fun hC => Cert.fieldV (Try.tab_ok _ _ rfl) rfl rfl (Try.tab_ok _ _ rfl) rfl rfl (by conv => lhs; whnf)) rfl ?_
            refine AOps.gC rfl rfl (fun hC => Cert.ungd (k := 107) rfl (by first | exact hC | exact andL hC | exact andL (andL hC) | exact andL (andL (andL hC)) | exact andR hC | simp_all) (Cert.fieldV (Try.tab_ok _ _ rfl) rfl rfl (Try.tab_ok _ _ rfl) rfl rfl (by conv => lhs; whnf))) rfl ?_
            refine AOps.gC rfl rfl (fun hC => Cert.ungd (k := 108) rfl (by first | exact hC | exact andL hC | exact andL (andL hC) | exact andL (andL (andL hC)) | exact andR hC | simp_all) (Cert.loadV (Try.tab_ok _ _ rfl) rfl rfl rfl)) rfl ?_
            refine AOps.gC rfl rfl (fun hC => Cert.ungd (k := 106) rfl (by first | exact hC | exact andL hC | exact andL (andL hC) | exact andL (andL (andL hC)) | exact andR hC | simp_all) (Cert.ungd (k := 109) rfl (by first | exact hC | exact andL hC | exact andL (andL hC) | exact andL (andL (andL hC)) | exact andR hC | simp_all) (Cert.callP rfl rfl (sch_Composite d _)))) rfl ?_
            refine AOps.gC rfl rfl (fun hC => Cert.ungd (k := 110) rfl (by first | exact hC | exact andL hC | exact andL (andL hC) | exact andL (andL (andL hC)) | exact andR hC | simp_all) (Cert.notB rfl)) rfl ?_
            refine AOps.s0 (Cert.pickAnd rfl rfl (fun h => by first | exact h | exact notT h | exact andI hC h | exact andI hC (notT h) | simp_all) rfl) rfl ?_
            refine AOps.nil ?_
            refine hK30 _ ?_
            clear hK30 K30
            refine AWp.cond rfl (fun hc6 => ?_) (fun hc6 => ?_)
            · first
              | (cases hc6; done)
              | skip
              refine AWp.seqK fun K31 hK31 => ?_
              refine AWp.region ?_
              refine AOps.s0 (Cert.assign (by conv => lhs; whnf)) rfl ?_
              refine AOps.nil ?_
              refine hK31 _ ?_
              clear hK31 K31
              refine AWp.ret ?_
              repeat (first | refine xBlock_ret ?_ | refine xThen_ret ?_)
              first
              | exact retQ.ret rfl ⟨rfl, rfl⟩
              | (exfalso
                 have h1 : (!isInput d ((d.defs.l[i]'hi3).fields.l[j]'hf3).args.l[a].type.name.1) = true := hc8
                 have h2 : (decide ((d.defs.l[i]'hi3).kind = 1) || decide ((d.defs.l[i]'hi3).kind = 2)) = true := andR hc5
                 have h3 := (hok.fields _ hT (by simpa using h2) _ (List.getElem_mem hf3)).2 _ (List.getElem_mem ha3)
                 rw [h3] at h1; cases h1)
              | (exfalso
                 have h1 : (!leaf d ((d.defs.l[i]'hi3).fields.l[j]'hf3).type.name.1 && !composite d ((d.defs.l[i]'hi3).fields.l[j]'hf3).type.name.1) = true := hc6
                 have h2 : (decide ((d.defs.l[i]'hi3).kind = 1) || decide ((d.defs.l[i]'hi3).kind = 2)) = true := andR hc5
                 have h3 := (hok.fields _ hT (by simpa using h2) _ (List.getElem_mem hf3)).1
                 rw [← Bool.not_or, h3] at h1; cases h1)
              | (exfalso
                 have h1 : (!isInput d ((d.defs.l[i]'hi3).inputs.l[k]'hk3).type.name.1) = true := hc4
                 have h2 : decide ((d.defs.l[i]'hi3).kind = 5) = true := andR hc3
                 have h3 := hok.inputs _ hT (by simpa using h2) _ (List.getElem_mem hk3)
                 rw [h3] at h1; cases h1)
              | (exfalso
                 have h1 : ((!decide (placeI d.defs.l (d.defs.l[i]'hi3).name.1 = i) || scalar (d.defs.l[i]'hi3).name.1) || (!composite d (d.defs.l[i]'hi3).name.1 && !isInput d (d.defs.l[i]'hi3).name.1)) = true := hc2
                 rw [← Bool.not_or, hpl.2.2, hpl.2.1, hpl.1] at h1; simp at h1)
              | (refine retQ.ret rfl ⟨?_, rfl⟩
                 show V.a (A.d (D.bool _)) = _
                 congr 3)
            · first
              | (cases hc6; done)
              | skip
              refine AWp.skip ?_
              refine hK29 _ ?_
              clear hK29 K29
              refine AWp.seqK fun K32 hK32 => ?_
              refine AWp.region ?_
              refine AOps.s0 (Cert.assign (by conv => lhs; whnf)) rfl ?_
              refine AOps.nil ?_
              refine hK32 _ ?_
              clear hK32 K32
              refine AWp.block ?_
              refine AWp.loopC (KeepsT.cons (k := 1) (by conv => lhs; whnf) (KeepsT.cons (k := 3) (by conv => lhs; whnf) (KeepsT.cons (k := 4) (by conv => lhs; whnf) (KeepsT.cons (k := 6) (by conv => lhs; whnf) (KeepsT.cons (k := 7) (by conv => lhs; whnf) KeepsT.nil))))) (fun k : Nat => [(8, .a (.d (.int .i64 k)))]) (fun k => ((d.defs.l[i]'hi3).fields.l[j]'hf3).args.l.length - k) (fun k => k ≤ ((d.defs.l[i]'hi3).fields.l[j]'hf3).args.l.length) 0 (Nat.zero_le _) (Weak.to (by repeat (first | exact Keeps.nil | refine Keeps.c rfl rfl ?_ | refine Keeps.c (by (first | (first | rfl | ((conv => lhs; whnf); first | (simp [cellsA, faultsT, faultsD, namesD, Fault.mk_c, Nat.add_assoc, empty_append, Bool.and_assoc]; done) | (simp [cellsA, faultsT, faultsD, namesD, Nat.add_assoc, empty_append, Bool.and_assoc]; repeat (first | rfl | constructor)))) | rfl | (simp only [get_same, ev]; done) | (simp [*, cellsA]; done) | (show V.a (A.d (D.slice _ _ _ _)) = V.a (A.d (D.slice _ _ _ _)); simp [*, cellsA]; done))) rfl ?_)) (by repeat (first | exact Pfx.nil | apply Pfx.cons)) (by first | rfl | (first | rfl | (simp only [Heap.set_set, List.length_append, List.length_nil, List.length_cons, List.length_map, List.length_singleton, Nat.zero_add]; done) | (simp [Heap.set_set, Nat.add_assoc]; done)) | (((funext n; simp only [Heap.set]; (repeat' split) <;> simp_all)) <;> first | rfl | exact ⟨rfl, rfl⟩))) ?_
              intro a ha K33 hK33
              have hmax4 : ((d.defs.l[i]'hi3).fields.l[j]'hf3).args.l.length ≤ 140737488355328 := ((d.defs.l[i]'hi3).fields.l[j]'hf3).args.ok
              refine AWp.seqK fun K34 hK34 => ?_
              refine AWp.seqK fun K35 hK35 => ?_
              refine AWp.region ?_
              refine AOps.s0 (Cert.move (by conv => lhs; whnf)) rfl ?_
              refine AOps.s0 (Cert.fieldV (Try.tab_ok _ _ rfl) rfl rfl (Try.tab_ok _ _ rfl) rfl rfl (by conv => lhs; whnf)) rfl ?_
              refine AOps.s0 (Cert.loadV (Try.tab_ok _ _ rfl) rfl rfl rfl) rfl ?_
              refine AOps.s0 (Cert.lenA (Try.tab_ok _ _ rfl) rfl rfl rfl) rfl ?_
              refine AOps.s0 (Cert.binI rfl rfl rfl) rfl ?_
              refine AOps.nil ?_
              refine hK35 _ ?_
              clear hK35 K35
              refine AWp.cond rfl (fun hc7 => ?_) (fun hc7 => ?_)
              · first
                | (cases hc7; done)
                | skip
                refine AWp.skip ?_
                refine hK34 _ ?_
                clear hK34 K34
                refine AWp.seqK fun K36 hK36 => ?_
                refine AWp.block ?_
                refine AWp.seqK fun K37 hK37 => ?_
                refine AWp.draw rfl ?_
                have ha3 : a < ((d.defs.l[i]'hi3).fields.l[j]'hf3).args.l.length := map_lt hc7
                refine DOps.s0 (Cert.loadV (Try.tab_ok _ _ rfl) rfl rfl rfl) rfl ?_
                refine DOps.s0 (Cert.fieldV (Try.tab_ok _ _ rfl) rfl rfl (Try.tab_ok _ _ rfl) rfl rfl (by conv => lhs; whnf)) rfl ?_
                refine DOps.s0 (Cert.loadV (Try.tab_ok _ _ rfl) rfl rfl rfl) rfl ?_
                refine DOps.s0 (Cert.move (by conv => lhs; whnf)) rfl ?_
                refine DOps.s0 (Cert.indexA (Try.tab_ok _ _ rfl) rfl (Try.tab_ok _ _ rfl) rfl rfl rfl (by omega) (map_get (by assumption))) rfl ?_
                refine DOps.s0 (Cert.fieldV (Try.tab_ok _ _ rfl) rfl rfl (Try.tab_ok _ _ rfl) rfl rfl (by conv => lhs; whnf)) rfl ?_
                refine DOps.s0 (Cert.fieldV (Try.tab_ok _ _ rfl) rfl rfl (Try.tab_ok _ _ rfl) rfl rfl (by conv => lhs; whnf)) rfl ?_
                refine DOps.s0 (Cert.loadV (Try.tab_ok _ _ rfl) rfl rfl rfl) rfl ?_
                refine DOps.s0 (Cert.callP rfl rfl (sch_IsInput d _)) rfl ?_
                refine DOps.s0 (Cert.notB rfl) rfl ?_
                refine DOps.nil (by decide +kernel) ?_
                refine hK37 _ ?_
                clear hK37 K37
                refine AWp.cond rfl (fun hc8 => ?_) (fun hc8 => ?_)
                · first
                  | (cases hc8; done)
                  | skip
                  refine AWp.seqK fun K38 hK38 => ?_
                  refine AWp.region ?_
                  refine AOps.s0 (Cert.assign (by conv => lhs; whnf)) rfl ?_
                  refine AOps.nil ?_
                  refine hK38 _ ?_
                  clear hK38 K38
                  refine AWp.ret ?_
                  repeat (first | refine xBlock_ret ?_ | refine xThen_ret ?_)
                  first
                  | exact retQ.ret rfl ⟨rfl, rfl⟩
                  | (exfalso
                     have h1 : (!isInput d ((d.defs.l[i]'hi3).fields.l[j]'hf3).args.l[a].type.name.1) = true := hc8
                     have h2 : (decide ((d.defs.l[i]'hi3).kind = 1) || decide ((d.defs.l[i]'hi3).kind = 2)) = true := andR hc5
                     have h3 := (hok.fields _ hT (by simpa using h2) _ (List.getElem_mem hf3)).2 _ (List.getElem_mem ha3)
                     rw [h3] at h1; cases h1)
                  | (exfalso
                     have h1 : (!leaf d ((d.defs.l[i]'hi3).fields.l[j]'hf3).type.name.1 && !composite d ((d.defs.l[i]'hi3).fields.l[j]'hf3).type.name.1) = true := hc6
                     have h2 : (decide ((d.defs.l[i]'hi3).kind = 1) || decide ((d.defs.l[i]'hi3).kind = 2)) = true := andR hc5
                     have h3 := (hok.fields _ hT (by simpa using h2) _ (List.getElem_mem hf3)).1
                     rw [← Bool.not_or, h3] at h1; cases h1)
                  | (exfalso
                     have h1 : (!isInput d ((d.defs.l[i]'hi3).inputs.l[k]'hk3).type.name.1) = true := hc4
                     have h2 : decide ((d.defs.l[i]'hi3).kind = 5) = true := andR hc3
                     have h3 := hok.inputs _ hT (by simpa using h2) _ (List.getElem_mem hk3)
                     rw [h3] at h1; cases h1)
                  | (exfalso
                     have h1 : ((!decide (placeI d.defs.l (d.defs.l[i]'hi3).name.1 = i) || scalar (d.defs.l[i]'hi3).name.1) || (!composite d (d.defs.l[i]'hi3).name.1 && !isInput d (d.defs.l[i]'hi3).name.1)) = true := hc2
                     rw [← Bool.not_or, hpl.2.2, hpl.2.1, hpl.1] at h1; simp at h1)
                  | (refine retQ.ret rfl ⟨?_, rfl⟩
                     show V.a (A.d (D.bool _)) = _
                     congr 3)
                · first
                  | (cases hc8; done)
                  | skip
                  refine AWp.skip ?_
                  refine hK36 _ ?_
                  clear hK36 K36
                  refine AWp.region ?_
                  refine AOps.s0 (Cert.move (by conv => lhs; whnf)) rfl ?_
                  refine AOps.s0 (Cert.addI rfl rfl (by first | omega | (dsimp only; omega)) (by first | omega | (dsimp only; omega))) rfl ?_
                  refine AOps.s0 (Cert.assign (by conv => lhs; whnf)) rfl ?_
                  refine AOps.nil ?_
                  exact hK33 _ (a + 1) (Weak.to (by repeat (first | exact Keeps.nil | refine Keeps.c rfl rfl ?_ | refine Keeps.c (by (first | (first | rfl | ((conv => lhs; whnf); first | (simp [cellsA, faultsT, faultsD, namesD, Fault.mk_c, Nat.add_assoc, empty_append, Bool.and_assoc]; done) | (simp [cellsA, faultsT, faultsD, namesD, Nat.add_assoc, empty_append, Bool.and_assoc]; repeat (first | rfl | constructor)))) | rfl | (simp only [get_same, ev]; done) | (simp [*, cellsA]; done) | (show V.a (A.d (D.slice _ _ _ _)) = V.a (A.d (D.slice _ _ _ _)); simp [*, cellsA]; done))) rfl ?_)) (by repeat (first | exact Pfx.nil | apply Pfx.cons)) (by first | rfl | (first | rfl | (simp only [Heap.set_set, List.length_append, List.length_nil, List.length_cons, List.length_map, List.length_singleton, Nat.zero_add]; done) | (simp [Heap.set_set, Nat.add_assoc]; done)) | (((funext n; simp only [Heap.set]; (repeat' split) <;> simp_all)) <;> first | rfl | exact ⟨rfl, rfl⟩))) ha3 (by omega)
              · first
                | (cases hc7; done)
                | skip
                refine AWp.exit ?_
                refine hK27 _ ?_
                clear hK34 K34 hK33 K33 hK27 K27
                refine AWp.region ?_
                refine AOps.s0 (Cert.move (by conv => lhs; whnf)) rfl ?_
                refine AOps.s0 (Cert.addI rfl rfl (by first | omega | (dsimp only; omega)) (by first | omega | (dsimp only; omega))) rfl ?_
                refine AOps.s0 (Cert.assign (by conv => lhs; whnf)) rfl ?_
                refine AOps.nil ?_
                exact hK24 _ (j + 1) (Weak.to (by repeat (first | exact Keeps.nil | refine Keeps.c rfl rfl ?_ | refine Keeps.c (by (first | (first | rfl | ((conv => lhs; whnf); first | (simp [cellsA, faultsT, faultsD, namesD, Fault.mk_c, Nat.add_assoc, empty_append, Bool.and_assoc]; done) | (simp [cellsA, faultsT, faultsD, namesD, Nat.add_assoc, empty_append, Bool.and_assoc]; repeat (first | rfl | constructor)))) | rfl | (simp only [get_same, ev]; done) | (simp [*, cellsA]; done) | (show V.a (A.d (D.slice _ _ _ _)) = V.a (A.d (D.slice _ _ _ _)); simp [*, cellsA]; done))) rfl ?_)) (by repeat (first | exact Pfx.nil | apply Pfx.cons)) (by first | rfl | (first | rfl | (simp only [Heap.set_set, List.length_append, List.length_nil, List.length_cons, List.length_map, List.length_singleton, Nat.zero_add]; done) | (simp [Heap.set_set, Nat.add_assoc]; done)) | (((funext n; simp only [Heap.set]; (repeat' split) <;> simp_all)) <;> first | rfl | exact ⟨rfl, rfl⟩))) hf3 (by omega)
          · first
            | (cases hc5; done)
            | skip
            refine AWp.exit ?_
            refine hK10 _ ?_
            clear hK25 K25 hK24 K24 hK10 K10
            refine AWp.region ?_
            refine AOps.s0 (Cert.move (by conv => lhs; whnf)) rfl ?_
            refine AOps.s0 (Cert.addI rfl rfl (by first | omega | (dsimp only; omega)) (by first | omega | (dsimp only; omega))) rfl ?_
            refine AOps.s0 (Cert.assign (by conv => lhs; whnf)) rfl ?_
            refine AOps.nil ?_
            exact hK7 _ (i + 1) (Weak.to (by repeat (first | exact Keeps.nil | refine Keeps.c rfl rfl ?_ | refine Keeps.c (by (first | (first | rfl | ((conv => lhs; whnf); first | (simp [cellsA, faultsT, faultsD, namesD, Fault.mk_c, Nat.add_assoc, empty_append, Bool.and_assoc]; done) | (simp [cellsA, faultsT, faultsD, namesD, Nat.add_assoc, empty_append, Bool.and_assoc]; repeat (first | rfl | constructor)))) | rfl | (simp only [get_same, ev]; done) | (simp [*, cellsA]; done) | (show V.a (A.d (D.slice _ _ _ _)) = V.a (A.d (D.slice _ _ _ _)); simp [*, cellsA]; done))) rfl ?_)) (by repeat (first | exact Pfx.nil | apply Pfx.cons)) (by first | rfl | (first | rfl | (simp only [Heap.set_set, List.length_append, List.length_nil, List.length_cons, List.length_map, List.length_singleton, Nat.zero_add]; done) | (simp [Heap.set_set, Nat.add_assoc]; done)) | (((funext n; simp only [Heap.set]; (repeat' split) <;> simp_all)) <;> first | rfl | exact ⟨rfl, rfl⟩))) hi3 (by omega)
    · first
      | (cases hc1; done)
      | skip
      refine AWp.exit ?_
      refine hK5 _ ?_
      clear hK8 K8 hK7 K7 hK5 K5
      refine AWp.seqK fun K39 hK39 => ?_
      refine AWp.region ?_
      refine AOps.s0 (Cert.build Try.tab_ok rfl rfl rfl rfl rfl rfl) rfl ?_
      refine AOps.s0 (Cert.callP rfl rfl (sch_Check noDoc noSmall false)) rfl ?_
      refine AOps.s0 (Cert.lenA (Try.tab_ok _ _ rfl) rfl rfl rfl) rfl ?_
      refine AOps.s0 (Cert.binI rfl rfl rfl) rfl ?_
      refine AOps.s0 (Cert.move (by conv => lhs; whnf)) rfl ?_
      refine AOps.g0 rfl rfl (by first | rfl | assumption) (Cert.callP rfl rfl law_example) rfl ?_
      refine AOps.s0 (Cert.pickT rfl (by first | rfl | assumption) (by conv => lhs; whnf)) rfl ?_
      refine AOps.s0 (Cert.assign (by conv => lhs; whnf)) rfl ?_
      refine AOps.nil ?_
      refine hK39 _ ?_
      clear hK39 K39
      refine AWp.ret ?_
      repeat (first | refine xBlock_ret ?_ | refine xThen_ret ?_)
      first
      | exact retQ.ret rfl ⟨rfl, rfl⟩
      | (exfalso
         have h1 : (!isInput d ((d.defs.l[i]'hi3).fields.l[j]'hf3).args.l[a].type.name.1) = true := hc8
         have h2 : (decide ((d.defs.l[i]'hi3).kind = 1) || decide ((d.defs.l[i]'hi3).kind = 2)) = true := andR hc5
         have h3 := (hok.fields _ hT (by simpa using h2) _ (List.getElem_mem hf3)).2 _ (List.getElem_mem ha3)
         rw [h3] at h1; cases h1)
      | (exfalso
         have h1 : (!leaf d ((d.defs.l[i]'hi3).fields.l[j]'hf3).type.name.1 && !composite d ((d.defs.l[i]'hi3).fields.l[j]'hf3).type.name.1) = true := hc6
         have h2 : (decide ((d.defs.l[i]'hi3).kind = 1) || decide ((d.defs.l[i]'hi3).kind = 2)) = true := andR hc5
         have h3 := (hok.fields _ hT (by simpa using h2) _ (List.getElem_mem hf3)).1
         rw [← Bool.not_or, h3] at h1; cases h1)
      | (exfalso
         have h1 : (!isInput d ((d.defs.l[i]'hi3).inputs.l[k]'hk3).type.name.1) = true := hc4
         have h2 : decide ((d.defs.l[i]'hi3).kind = 5) = true := andR hc3
         have h3 := hok.inputs _ hT (by simpa using h2) _ (List.getElem_mem hk3)
         rw [h3] at h1; cases h1)
      | (exfalso
         have h1 : ((!decide (placeI d.defs.l (d.defs.l[i]'hi3).name.1 = i) || scalar (d.defs.l[i]'hi3).name.1) || (!composite d (d.defs.l[i]'hi3).name.1 && !isInput d (d.defs.l[i]'hi3).name.1)) = true := hc2
         rw [← Bool.not_or, hpl.2.2, hpl.2.1, hpl.1] at h1; simp at h1)
      | (refine retQ.ret rfl ⟨?_, rfl⟩
         show V.a (A.d (D.bool _)) = _
         congr 3)
end Go.Proofs

