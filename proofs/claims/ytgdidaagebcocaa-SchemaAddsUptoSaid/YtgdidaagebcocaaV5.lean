import Derived.Test.YtgdidaagebcocaaV4
set_option linter.unusedVariables false
set_option linter.unusedSimpArgs false
namespace Go.Proofs
open Go Go.Ab Go.Ab.Sch
theorem AWp.heq {P : Program} {c : Code} {Q : Exit → St → Prop} {n : Nat} {ts : Ts} {ls : List (List D)} {h h' : Heap} (e : h = h') (hw : AWp P c Q ⟨n, ts, ls, h'⟩) : AWp P c Q ⟨n, ts, ls, h⟩ := e ▸ hw
def bad1 (n : List UInt8) : Bool := !nameI n || reservedB n
def after1 (F : List Fault) (n : List UInt8) : List Fault := F ++ one (bad1 n) 6 n
def after2 (F : List Fault) (n : List UInt8) (tw : Bool) : List Fault := after1 F n ++ one tw 7 n
def after3 (F : List Fault) (n : List UInt8) (tw em : Bool) : List Fault := after2 F n tw ++ one em 8 n
def after4 (F : List Fault) (n : List UInt8) (tw em kb : Bool) : List Fault := after3 F n tw em ++ one kb 9 n
def after5 (F : List Fault) (n : List UInt8) (tw em kb ci : Bool) : List Fault := after4 F n tw em kb ++ one ci 5 n
theorem after1_len (F : List Fault) (n : List UInt8) : (after1 F n).length ≤ F.length + 1 := by unfold after1; rw [List.length_append]; have := one_len (bad1 n) 6 n; omega
theorem after2_len (F : List Fault) (n : List UInt8) (tw : Bool) : (after2 F n tw).length ≤ F.length + 2 := by unfold after2; rw [List.length_append]; have := one_len tw 7 n; have := after1_len F n; omega
theorem after3_len (F : List Fault) (n : List UInt8) (tw em : Bool) : (after3 F n tw em).length ≤ F.length + 3 := by unfold after3; rw [List.length_append]; have := one_len em 8 n; have := after2_len F n tw; omega
theorem after4_len (F : List Fault) (n : List UInt8) (tw em kb : Bool) : (after4 F n tw em kb).length ≤ F.length + 4 := by unfold after4; rw [List.length_append]; have := one_len kb 9 n; have := after3_len F n tw em; omega
theorem after5_len (F : List Fault) (n : List UInt8) (tw em kb ci : Bool) : (after5 F n tw em kb ci).length ≤ F.length + 5 := by unfold after5; rw [List.length_append]; have := one_len ci 5 n; have := after4_len F n tw em kb; omega
theorem after5_whole (d : Doc) (i : Nat) (t : Def) (F : List Fault) (S : List (List UInt8)) (hS : S.contains t.name.1 = seenB d i t.name.1) :
    after5 F t.name.1 (S.contains t.name.1 || scalar t.name.1) (emptyB t) (kindBad t) (decide (t.kind = 5) && reachB d t) = F ++ wholeF d i t := by
  unfold after5 after4 after3 after2 after1 wholeF names allowed bad1
  rw [hS, nameI_eq, circB_eq, Bool.or_comm (seenB d i t.name.1)]
  simp only [Bool.not_and, Bool.not_not, Bool.false_or, List.append_assoc]
theorem list_empty {α β : Type} (f : α → β) (l : List α) : decide (((l.map f).length : Int) = 0) = decide (l.length = 0) := by simp
set_option maxRecDepth 100000 in
set_option maxHeartbeats 2000000 in
theorem sch_def (d : Doc) (hs : Small d) (c tk m : Nat) (hne : tk ≠ c) (hmc : m ≠ c) (hmt : m ≠ tk) (i : Nat) (T : Def) (hi : d.defs.l[i]? = some T) (F : List Fault) (hF : F.length ≤ 34359738368) (S : List (List UInt8)) (hS : ∀ n, S.contains n = seenB d i n) (H : Heap) :
    ACalls Try.prog 29 [.d (.ptr c 0), .d (.int .i64 i), .d (.map m)] (dh H c tk m d F S) fun r h' => r = .tup [] ∧ h' = dh H c tk m d (F ++ (wholeF d i T ++ partF d T)) (insS S T.name.1) := by
  refine ACalls.of_wp (fn := Try.f29) (c := _) Try.tab_ok (fun _ _ => Try.call29 _ _) Try.func29 rfl (n := 140) rfl (rs := []) rfl rfl ?_
  have hi3 : i < d.defs.l.length := (List.getElem?_eq_some_iff.1 hi).1
  have hT : (d.defs.l.map Def.c)[(i : Int).toNat]? = some T.c := by
    rw [List.getElem?_map, Int.toNat_natCast, hi]; rfl
  have hTm : T ∈ d.defs.l := List.mem_of_getElem? hi
  have hmax : d.defs.l.length ≤ 140737488355328 := d.defs.ok
  have hx2 : T.name.1.length ≤ 140737488355328 := T.name.2
  refine AWp.seqK fun K1 hK1 => ?_
  refine AWp.region ?_
  refine AOps.s0 (Cert.move (by conv => lhs; whnf)) rfl ?_
  refine AOps.s0 (Cert.nilP rfl) rfl ?_
  refine AOps.s0 (Cert.fieldP (Try.tab_ok _ _ rfl) rfl rfl (Try.tab_ok _ _ rfl) rfl rfl) rfl ?_
  refine AOps.s0 (Cert.fieldP (Try.tab_ok _ _ rfl) rfl rfl (Try.tab_ok _ _ rfl) rfl rfl) rfl ?_
  refine AOps.s0 (Cert.loadP (Try.tab_ok _ _ rfl) rfl rfl (by (first | assumption | exact Heap.set_same _ _ _ | ((repeat (refine (Heap.set_other _ _ (by first | assumption | (apply Ne.symm; assumption))).trans ?_)); first | assumption | exact Heap.set_same _ _ _) | (simp only [Heap.set_set, Heap.set_same]; done) | (simp [Heap.set, *]; done))) rfl) rfl ?_
  refine AOps.s0 (Cert.move (by conv => lhs; whnf)) rfl ?_
  refine AOps.s0 (Cert.indexA (Try.tab_ok _ _ rfl) rfl (Try.tab_ok _ _ rfl) rfl rfl rfl (by omega) (by assumption)) rfl ?_
  refine AOps.s0 (Cert.loadV (Try.tab_ok _ _ rfl) rfl rfl rfl) rfl ?_
  refine AOps.sL (Cert.allocL (Try.tab_ok _ _ rfl) rfl (by repeat (first | exact Snoc.nil | apply Snoc.cons))) rfl ?_
  refine AOps.sLn (Cert.storeLF (Try.tab_ok _ _ rfl) rfl rfl rfl rfl rfl (by repeat (first | exact SetAt.zero | apply SetAt.succ))) ?_
  refine AOps.nil ?_
  refine hK1 _ ?_
  clear hK1 K1
  refine AWp.freeze 6 _ rfl (by repeat (first | exact Snoc.nil | apply Snoc.cons)) (Keeps.c (k := 0) (by conv => lhs; whnf) (by rfl) (Keeps.c (k := 2) (by conv => lhs; whnf) (by rfl) Keeps.nil)) ?_
  refine AWp.seqK fun K2 hK2 => ?_
  refine AWp.draw rfl ?_
  refine DOps.s0 (Cert.move (by conv => lhs; whnf)) rfl ?_
  refine DOps.s0 (Cert.fieldV (Try.tab_ok _ _ rfl) rfl rfl (Try.tab_ok _ _ rfl) rfl rfl (by conv => lhs; whnf)) rfl ?_
  refine DOps.s0 (Cert.loadV (Try.tab_ok _ _ rfl) rfl rfl rfl) rfl ?_
  refine DOps.s0 (Cert.callP rfl rfl (text_Name _)) rfl ?_
  refine DOps.s0 (Cert.notB rfl) rfl ?_
  refine DOps.s0 (Cert.move (by conv => lhs; whnf)) rfl ?_
  refine DOps.gC rfl rfl (fun hC => Cert.fieldV (Try.tab_ok _ _ rfl) rfl rfl (Try.tab_ok _ _ rfl) rfl rfl (by conv => lhs; whnf)) rfl ?_
  refine DOps.gC rfl rfl (fun hC => Cert.ungd (k := 23) rfl (by first | exact hC | exact andL hC | exact andL (andL hC) | exact andL (andL (andL hC)) | exact andR hC | simp_all) (Cert.loadV (Try.tab_ok _ _ rfl) rfl rfl rfl)) rfl ?_
  refine DOps.gC rfl rfl (fun hC => Cert.ungd (k := 24) rfl (by first | exact hC | exact andL hC | exact andL (andL hC) | exact andL (andL (andL hC)) | exact andR hC | simp_all) (Cert.callP rfl rfl (text_Reserved _))) rfl ?_
  refine DOps.s0 (Cert.pickOr rfl rfl rfl (fun h => by first | exact h | exact notT h | exact andI hC h | exact andI hC (notT h) | simp_all)) rfl ?_
  refine DOps.s0 (Cert.fieldV (Try.tab_ok _ _ rfl) rfl rfl (Try.tab_ok _ _ rfl) rfl rfl (by conv => lhs; whnf)) rfl ?_
  refine DOps.s0 (Cert.loadV (Try.tab_ok _ _ rfl) rfl rfl rfl) rfl ?_
  refine DOps.sH (Cert.callH rfl rfl (sch_add d c tk hne F (by omega) (bad1 T.name.1) 6 T.name.1 (H.set m (some (.map (seenM S)))))) rfl ?_
  refine DOps.nil (by decide +kernel) ?_
  refine hK2 _ ?_
  clear hK2 K2
  refine AWp.seqK fun K3 hK3 => ?_
  refine AWp.draw rfl ?_
  refine DOps.s0 (Cert.move (by conv => lhs; whnf)) rfl ?_
  refine DOps.s0 (Cert.move (by conv => lhs; whnf)) rfl ?_
  refine DOps.s0 (Cert.fieldV (Try.tab_ok _ _ rfl) rfl rfl (Try.tab_ok _ _ rfl) rfl rfl (by conv => lhs; whnf)) rfl ?_
  refine DOps.s0 (Cert.loadV (Try.tab_ok _ _ rfl) rfl rfl rfl) rfl ?_
  refine DOps.s0 (Cert.lookupSeen (Try.tab_ok _ _ rfl) rfl (Try.tab_ok _ _ rfl) (Try.tab_ok _ _ rfl) rfl rfl rfl rfl (by (first | assumption | exact Heap.set_same _ _ _ | ((repeat (refine (Heap.set_other _ _ (by first | assumption | (apply Ne.symm; assumption))).trans ?_)); first | assumption | exact Heap.set_same _ _ _) | (simp only [Heap.set_set, Heap.set_same]; done) | (simp [Heap.set, *]; done)))) rfl ?_
  refine DOps.s0 (Cert.move (by conv => lhs; whnf)) rfl ?_
  refine DOps.gC rfl rfl (fun hC => Cert.fieldV (Try.tab_ok _ _ rfl) rfl rfl (Try.tab_ok _ _ rfl) rfl rfl (by conv => lhs; whnf)) rfl ?_
  refine DOps.gC rfl rfl (fun hC => Cert.ungd (k := 36) rfl (by first | exact hC | exact andL hC | exact andL (andL hC) | exact andL (andL (andL hC)) | exact andR hC | simp_all) (Cert.loadV (Try.tab_ok _ _ rfl) rfl rfl rfl)) rfl ?_
  refine DOps.gC rfl rfl (fun hC => Cert.ungd (k := 37) rfl (by first | exact hC | exact andL hC | exact andL (andL hC) | exact andL (andL (andL hC)) | exact andR hC | simp_all) (Cert.callP rfl rfl (sch_Scalar _))) rfl ?_
  refine DOps.s0 (Cert.pickOr rfl rfl rfl (fun h => by first | exact h | exact notT h | exact andI hC h | exact andI hC (notT h) | simp_all)) rfl ?_
  refine DOps.s0 (Cert.fieldV (Try.tab_ok _ _ rfl) rfl rfl (Try.tab_ok _ _ rfl) rfl rfl (by conv => lhs; whnf)) rfl ?_
  refine DOps.s0 (Cert.loadV (Try.tab_ok _ _ rfl) rfl rfl rfl) rfl ?_
  refine DOps.sH (Cert.callH rfl rfl (sch_add d c tk hne (after1 F T.name.1) (by have := after1_len F T.name.1; omega) (S.contains T.name.1 || scalar T.name.1) 7 T.name.1 (H.set m (some (.map (seenM S)))))) rfl ?_
  refine DOps.nil (by decide +kernel) ?_
  refine hK3 _ ?_
  clear hK3 K3
  refine AWp.seqK fun K4 hK4 => ?_
  refine AWp.region ?_
  refine AOps.s0 (Cert.move (by conv => lhs; whnf)) rfl ?_
  refine AOps.s0 (Cert.fieldV (Try.tab_ok _ _ rfl) rfl rfl (Try.tab_ok _ _ rfl) rfl rfl (by conv => lhs; whnf)) rfl ?_
  refine AOps.s0 (Cert.loadV (Try.tab_ok _ _ rfl) rfl rfl rfl) rfl ?_
  refine AOps.sHn (Cert.mapUpdate (Try.tab_ok _ _ rfl) rfl (Try.tab_ok _ _ rfl) rfl rfl rfl rfl (by (first | assumption | exact Heap.set_same _ _ _ | ((repeat (refine (Heap.set_other _ _ (by first | assumption | (apply Ne.symm; assumption))).trans ?_)); first | assumption | exact Heap.set_same _ _ _) | (simp only [Heap.set_set, Heap.set_same]; done) | (simp [Heap.set, *]; done))) (by first | exact seen_upd _ _ | assumption) rfl) rfl rfl ?_
  refine AOps.nil ?_
  refine hK4 _ ?_
  clear hK4 K4
  refine AWp.heq (h' := dh H c tk m d (after2 F T.name.1 (S.contains T.name.1 || scalar T.name.1)) (insS S T.name.1)) (by show (dh H c tk m d (after2 F T.name.1 (S.contains T.name.1 || scalar T.name.1)) S).set m _ = _; rw [← dh_eq hmc hmt, ← dh_eq hmc hmt, Heap.set_set]) ?_
  refine AWp.seqK fun K5 hK5 => ?_
  refine AWp.region ?_
  refine AOps.s0 (Cert.assign (by conv => lhs; whnf)) rfl ?_
  refine AOps.nil ?_
  refine hK5 _ ?_
  clear hK5 K5
  refine AWp.seqJC (KeepsT.cons (k := 0) (by conv => lhs; whnf) (KeepsT.cons (k := 6) (by conv => lhs; whnf) KeepsT.nil)) (fun b : Bool => [(7, .a (.d (.bool b)))]) (fun b => b = emptyB T) ?_ ?_
  · intro K6 hK6
    refine AWp.seqK fun K7 hK7 => ?_
    refine AWp.region ?_
    refine AOps.s0 (Cert.fieldV (Try.tab_ok _ _ rfl) rfl rfl (Try.tab_ok _ _ rfl) rfl rfl (by conv => lhs; whnf)) rfl ?_
    refine AOps.s0 (Cert.loadV (Try.tab_ok _ _ rfl) rfl rfl rfl) rfl ?_
    refine AOps.nil ?_
    refine hK7 _ ?_
    clear hK7 K7
    refine AWp.block ?_
    refine AWp.seqK fun K8 hK8 => ?_
    refine AWp.seqK fun K9 hK9 => ?_
    refine AWp.region ?_
    refine AOps.s0 (Cert.binI rfl rfl rfl) rfl ?_
    refine AOps.s0 (Cert.assign (by conv => lhs; whnf)) rfl ?_
    refine AOps.nil ?_
    refine hK9 _ ?_
    clear hK9 K9
    refine AWp.cond rfl (fun hc0 => ?_) (fun hc0 => ?_)
    · first
      | (cases hc0; done)
      | skip
      refine AWp.skip ?_
      refine hK8 _ ?_
      clear hK8 K8
      refine AWp.cond rfl (fun hc1 => ?_) (fun hc1 => ?_)
      · first
        | (cases hc1; done)
        | skip
        refine AWp.region ?_
        refine AOps.s0 (Cert.fieldV (Try.tab_ok _ _ rfl) rfl rfl (Try.tab_ok _ _ rfl) rfl rfl (by conv => lhs; whnf)) rfl ?_
        refine AOps.s0 (Cert.loadV (Try.tab_ok _ _ rfl) rfl rfl rfl) rfl ?_
        refine AOps.s0 (Cert.lenA (Try.tab_ok _ _ rfl) rfl rfl rfl) rfl ?_
        refine AOps.s0 (Cert.binI rfl rfl rfl) rfl ?_
        refine AOps.s0 (Cert.assign (by conv => lhs; whnf)) rfl ?_
        refine AOps.nil ?_
        first
        | (exfalso; simp only [decide_eq_true_eq, decide_eq_false_iff_not] at *; omega)
        | refine hK6 _ (decide (((T.fields.l.map Field.c).length : Int) = 0)) (Weak.to (by repeat (first | exact Keeps.nil | refine Keeps.c rfl rfl ?_ | refine Keeps.c (by (first | (first | rfl | ((conv => lhs; whnf); first | (simp [cellsA, faultsT, faultsD, namesD, Fault.mk_c, Nat.add_assoc, empty_append, Bool.and_assoc]; done) | (simp [cellsA, faultsT, faultsD, namesD, Nat.add_assoc, empty_append, Bool.and_assoc]; repeat (first | rfl | constructor)))) | rfl | (simp only [get_same, ev]; done) | (simp [*, cellsA]; done) | (show V.a (A.d (D.slice _ _ _ _)) = V.a (A.d (D.slice _ _ _ _)); simp [*, cellsA]; done))) rfl ?_)) (by repeat (first | exact Pfx.nil | apply Pfx.cons)) (by first | rfl | (first | rfl | (simp only [Heap.set_set, List.length_append, List.length_nil, List.length_cons, List.length_map, List.length_singleton, Nat.zero_add]; done) | (simp [Heap.set_set, Nat.add_assoc]; done)) | (((funext n; simp only [Heap.set]; (repeat' split) <;> simp_all)) <;> first | rfl | exact ⟨rfl, rfl⟩))) (by unfold emptyB; rw [list_empty]; rw [if_pos (by simp only [decide_eq_true_eq, decide_eq_false_iff_not] at *; omega)])
        | refine hK6 _ (decide (((T.members.l.map Member.c).length : Int) = 0)) (Weak.to (by repeat (first | exact Keeps.nil | refine Keeps.c rfl rfl ?_ | refine Keeps.c (by (first | (first | rfl | ((conv => lhs; whnf); first | (simp [cellsA, faultsT, faultsD, namesD, Fault.mk_c, Nat.add_assoc, empty_append, Bool.and_assoc]; done) | (simp [cellsA, faultsT, faultsD, namesD, Nat.add_assoc, empty_append, Bool.and_assoc]; repeat (first | rfl | constructor)))) | rfl | (simp only [get_same, ev]; done) | (simp [*, cellsA]; done) | (show V.a (A.d (D.slice _ _ _ _)) = V.a (A.d (D.slice _ _ _ _)); simp [*, cellsA]; done))) rfl ?_)) (by repeat (first | exact Pfx.nil | apply Pfx.cons)) (by first | rfl | (first | rfl | (simp only [Heap.set_set, List.length_append, List.length_nil, List.length_cons, List.length_map, List.length_singleton, Nat.zero_add]; done) | (simp [Heap.set_set, Nat.add_assoc]; done)) | (((funext n; simp only [Heap.set]; (repeat' split) <;> simp_all)) <;> first | rfl | exact ⟨rfl, rfl⟩))) (by unfold emptyB; rw [list_empty, if_neg (by simp only [decide_eq_true_eq, decide_eq_false_iff_not] at *; omega), if_pos (by simp only [decide_eq_true_eq, decide_eq_false_iff_not] at *; omega)])
        | refine hK6 _ (decide (((T.inputs.l.map Input.c).length : Int) = 0)) (Weak.to (by repeat (first | exact Keeps.nil | refine Keeps.c rfl rfl ?_ | refine Keeps.c (by (first | (first | rfl | ((conv => lhs; whnf); first | (simp [cellsA, faultsT, faultsD, namesD, Fault.mk_c, Nat.add_assoc, empty_append, Bool.and_assoc]; done) | (simp [cellsA, faultsT, faultsD, namesD, Nat.add_assoc, empty_append, Bool.and_assoc]; repeat (first | rfl | constructor)))) | rfl | (simp only [get_same, ev]; done) | (simp [*, cellsA]; done) | (show V.a (A.d (D.slice _ _ _ _)) = V.a (A.d (D.slice _ _ _ _)); simp [*, cellsA]; done))) rfl ?_)) (by repeat (first | exact Pfx.nil | apply Pfx.cons)) (by first | rfl | (first | rfl | (simp only [Heap.set_set, List.length_append, List.length_nil, List.length_cons, List.length_map, List.length_singleton, Nat.zero_add]; done) | (simp [Heap.set_set, Nat.add_assoc]; done)) | (((funext n; simp only [Heap.set]; (repeat' split) <;> simp_all)) <;> first | rfl | exact ⟨rfl, rfl⟩))) (by unfold emptyB; rw [list_empty, if_neg (by simp only [decide_eq_true_eq, decide_eq_false_iff_not] at *; omega), if_neg (by simp only [decide_eq_true_eq, decide_eq_false_iff_not] at *; omega), if_pos (by simp only [decide_eq_true_eq, decide_eq_false_iff_not] at *; omega)])
        | refine hK6 _ false (Weak.to (by repeat (first | exact Keeps.nil | refine Keeps.c rfl rfl ?_ | refine Keeps.c (by (first | (first | rfl | ((conv => lhs; whnf); first | (simp [cellsA, faultsT, faultsD, namesD, Fault.mk_c, Nat.add_assoc, empty_append, Bool.and_assoc]; done) | (simp [cellsA, faultsT, faultsD, namesD, Nat.add_assoc, empty_append, Bool.and_assoc]; repeat (first | rfl | constructor)))) | rfl | (simp only [get_same, ev]; done) | (simp [*, cellsA]; done) | (show V.a (A.d (D.slice _ _ _ _)) = V.a (A.d (D.slice _ _ _ _)); simp [*, cellsA]; done))) rfl ?_)) (by repeat (first | exact Pfx.nil | apply Pfx.cons)) (by first | rfl | (first | rfl | (simp only [Heap.set_set, List.length_append, List.length_nil, List.length_cons, List.length_map, List.length_singleton, Nat.zero_add]; done) | (simp [Heap.set_set, Nat.add_assoc]; done)) | (((funext n; simp only [Heap.set]; (repeat' split) <;> simp_all)) <;> first | rfl | exact ⟨rfl, rfl⟩))) (by unfold emptyB; rw [if_neg (by simp only [decide_eq_true_eq, decide_eq_false_iff_not] at *; omega), if_neg (by simp only [decide_eq_true_eq, decide_eq_false_iff_not] at *; omega), if_neg (by simp only [decide_eq_true_eq, decide_eq_false_iff_not] at *; omega)])
      · first
        | (cases hc1; done)
        | skip
        refine AWp.seqK fun K10 hK10 => ?_
        refine AWp.seqK fun K11 hK11 => ?_
        refine AWp.region ?_
        refine AOps.s0 (Cert.binI rfl rfl rfl) rfl ?_
        refine AOps.s0 (Cert.assign (by conv => lhs; whnf)) rfl ?_
        refine AOps.nil ?_
        refine hK11 _ ?_
        clear hK11 K11
        refine AWp.cond rfl (fun hc2 => ?_) (fun hc2 => ?_)
        · first
          | (cases hc2; done)
          | skip
          refine AWp.skip ?_
          refine hK10 _ ?_
          clear hK10 K10
          refine AWp.cond rfl (fun hc3 => ?_) (fun hc3 => ?_)
          · first
            | (cases hc3; done)
            | skip
            refine AWp.region ?_
            refine AOps.s0 (Cert.fieldV (Try.tab_ok _ _ rfl) rfl rfl (Try.tab_ok _ _ rfl) rfl rfl (by conv => lhs; whnf)) rfl ?_
            refine AOps.s0 (Cert.loadV (Try.tab_ok _ _ rfl) rfl rfl rfl) rfl ?_
            refine AOps.s0 (Cert.lenA (Try.tab_ok _ _ rfl) rfl rfl rfl) rfl ?_
            refine AOps.s0 (Cert.binI rfl rfl rfl) rfl ?_
            refine AOps.s0 (Cert.assign (by conv => lhs; whnf)) rfl ?_
            refine AOps.nil ?_
            first
            | (exfalso; simp only [decide_eq_true_eq, decide_eq_false_iff_not] at *; omega)
            | refine hK6 _ (decide (((T.fields.l.map Field.c).length : Int) = 0)) (Weak.to (by repeat (first | exact Keeps.nil | refine Keeps.c rfl rfl ?_ | refine Keeps.c (by (first | (first | rfl | ((conv => lhs; whnf); first | (simp [cellsA, faultsT, faultsD, namesD, Fault.mk_c, Nat.add_assoc, empty_append, Bool.and_assoc]; done) | (simp [cellsA, faultsT, faultsD, namesD, Nat.add_assoc, empty_append, Bool.and_assoc]; repeat (first | rfl | constructor)))) | rfl | (simp only [get_same, ev]; done) | (simp [*, cellsA]; done) | (show V.a (A.d (D.slice _ _ _ _)) = V.a (A.d (D.slice _ _ _ _)); simp [*, cellsA]; done))) rfl ?_)) (by repeat (first | exact Pfx.nil | apply Pfx.cons)) (by first | rfl | (first | rfl | (simp only [Heap.set_set, List.length_append, List.length_nil, List.length_cons, List.length_map, List.length_singleton, Nat.zero_add]; done) | (simp [Heap.set_set, Nat.add_assoc]; done)) | (((funext n; simp only [Heap.set]; (repeat' split) <;> simp_all)) <;> first | rfl | exact ⟨rfl, rfl⟩))) (by unfold emptyB; rw [list_empty]; rw [if_pos (by simp only [decide_eq_true_eq, decide_eq_false_iff_not] at *; omega)])
            | refine hK6 _ (decide (((T.members.l.map Member.c).length : Int) = 0)) (Weak.to (by repeat (first | exact Keeps.nil | refine Keeps.c rfl rfl ?_ | refine Keeps.c (by (first | (first | rfl | ((conv => lhs; whnf); first | (simp [cellsA, faultsT, faultsD, namesD, Fault.mk_c, Nat.add_assoc, empty_append, Bool.and_assoc]; done) | (simp [cellsA, faultsT, faultsD, namesD, Nat.add_assoc, empty_append, Bool.and_assoc]; repeat (first | rfl | constructor)))) | rfl | (simp only [get_same, ev]; done) | (simp [*, cellsA]; done) | (show V.a (A.d (D.slice _ _ _ _)) = V.a (A.d (D.slice _ _ _ _)); simp [*, cellsA]; done))) rfl ?_)) (by repeat (first | exact Pfx.nil | apply Pfx.cons)) (by first | rfl | (first | rfl | (simp only [Heap.set_set, List.length_append, List.length_nil, List.length_cons, List.length_map, List.length_singleton, Nat.zero_add]; done) | (simp [Heap.set_set, Nat.add_assoc]; done)) | (((funext n; simp only [Heap.set]; (repeat' split) <;> simp_all)) <;> first | rfl | exact ⟨rfl, rfl⟩))) (by unfold emptyB; rw [list_empty, if_neg (by simp only [decide_eq_true_eq, decide_eq_false_iff_not] at *; omega), if_pos (by simp only [decide_eq_true_eq, decide_eq_false_iff_not] at *; omega)])
            | refine hK6 _ (decide (((T.inputs.l.map Input.c).length : Int) = 0)) (Weak.to (by repeat (first | exact Keeps.nil | refine Keeps.c rfl rfl ?_ | refine Keeps.c (by (first | (first | rfl | ((conv => lhs; whnf); first | (simp [cellsA, faultsT, faultsD, namesD, Fault.mk_c, Nat.add_assoc, empty_append, Bool.and_assoc]; done) | (simp [cellsA, faultsT, faultsD, namesD, Nat.add_assoc, empty_append, Bool.and_assoc]; repeat (first | rfl | constructor)))) | rfl | (simp only [get_same, ev]; done) | (simp [*, cellsA]; done) | (show V.a (A.d (D.slice _ _ _ _)) = V.a (A.d (D.slice _ _ _ _)); simp [*, cellsA]; done))) rfl ?_)) (by repeat (first | exact Pfx.nil | apply Pfx.cons)) (by first | rfl | (first | rfl | (simp only [Heap.set_set, List.length_append, List.length_nil, List.length_cons, List.length_map, List.length_singleton, Nat.zero_add]; done) | (simp [Heap.set_set, Nat.add_assoc]; done)) | (((funext n; simp only [Heap.set]; (repeat' split) <;> simp_all)) <;> first | rfl | exact ⟨rfl, rfl⟩))) (by unfold emptyB; rw [list_empty, if_neg (by simp only [decide_eq_true_eq, decide_eq_false_iff_not] at *; omega), if_neg (by simp only [decide_eq_true_eq, decide_eq_false_iff_not] at *; omega), if_pos (by simp only [decide_eq_true_eq, decide_eq_false_iff_not] at *; omega)])
            | refine hK6 _ false (Weak.to (by repeat (first | exact Keeps.nil | refine Keeps.c rfl rfl ?_ | refine Keeps.c (by (first | (first | rfl | ((conv => lhs; whnf); first | (simp [cellsA, faultsT, faultsD, namesD, Fault.mk_c, Nat.add_assoc, empty_append, Bool.and_assoc]; done) | (simp [cellsA, faultsT, faultsD, namesD, Nat.add_assoc, empty_append, Bool.and_assoc]; repeat (first | rfl | constructor)))) | rfl | (simp only [get_same, ev]; done) | (simp [*, cellsA]; done) | (show V.a (A.d (D.slice _ _ _ _)) = V.a (A.d (D.slice _ _ _ _)); simp [*, cellsA]; done))) rfl ?_)) (by repeat (first | exact Pfx.nil | apply Pfx.cons)) (by first | rfl | (first | rfl | (simp only [Heap.set_set, List.length_append, List.length_nil, List.length_cons, List.length_map, List.length_singleton, Nat.zero_add]; done) | (simp [Heap.set_set, Nat.add_assoc]; done)) | (((funext n; simp only [Heap.set]; (repeat' split) <;> simp_all)) <;> first | rfl | exact ⟨rfl, rfl⟩))) (by unfold emptyB; rw [if_neg (by simp only [decide_eq_true_eq, decide_eq_false_iff_not] at *; omega), if_neg (by simp only [decide_eq_true_eq, decide_eq_false_iff_not] at *; omega), if_neg (by simp only [decide_eq_true_eq, decide_eq_false_iff_not] at *; omega)])
          · first
            | (cases hc3; done)
            | skip
            refine AWp.seqK fun K12 hK12 => ?_
            refine AWp.region ?_
            refine AOps.s0 (Cert.binI rfl rfl rfl) rfl ?_
            refine AOps.s0 (Cert.assign (by conv => lhs; whnf)) rfl ?_
            refine AOps.nil ?_
            refine hK12 _ ?_
            clear hK12 K12
            refine AWp.cond rfl (fun hc4 => ?_) (fun hc4 => ?_)
            · first
              | (cases hc4; done)
              | skip
              refine AWp.region ?_
              refine AOps.s0 (Cert.fieldV (Try.tab_ok _ _ rfl) rfl rfl (Try.tab_ok _ _ rfl) rfl rfl (by conv => lhs; whnf)) rfl ?_
              refine AOps.s0 (Cert.loadV (Try.tab_ok _ _ rfl) rfl rfl rfl) rfl ?_
              refine AOps.s0 (Cert.lenA (Try.tab_ok _ _ rfl) rfl rfl rfl) rfl ?_
              refine AOps.s0 (Cert.binI rfl rfl rfl) rfl ?_
              refine AOps.s0 (Cert.assign (by conv => lhs; whnf)) rfl ?_
              refine AOps.nil ?_
              first
              | (exfalso; simp only [decide_eq_true_eq, decide_eq_false_iff_not] at *; omega)
              | refine hK6 _ (decide (((T.fields.l.map Field.c).length : Int) = 0)) (Weak.to (by repeat (first | exact Keeps.nil | refine Keeps.c rfl rfl ?_ | refine Keeps.c (by (first | (first | rfl | ((conv => lhs; whnf); first | (simp [cellsA, faultsT, faultsD, namesD, Fault.mk_c, Nat.add_assoc, empty_append, Bool.and_assoc]; done) | (simp [cellsA, faultsT, faultsD, namesD, Nat.add_assoc, empty_append, Bool.and_assoc]; repeat (first | rfl | constructor)))) | rfl | (simp only [get_same, ev]; done) | (simp [*, cellsA]; done) | (show V.a (A.d (D.slice _ _ _ _)) = V.a (A.d (D.slice _ _ _ _)); simp [*, cellsA]; done))) rfl ?_)) (by repeat (first | exact Pfx.nil | apply Pfx.cons)) (by first | rfl | (first | rfl | (simp only [Heap.set_set, List.length_append, List.length_nil, List.length_cons, List.length_map, List.length_singleton, Nat.zero_add]; done) | (simp [Heap.set_set, Nat.add_assoc]; done)) | (((funext n; simp only [Heap.set]; (repeat' split) <;> simp_all)) <;> first | rfl | exact ⟨rfl, rfl⟩))) (by unfold emptyB; rw [list_empty]; rw [if_pos (by simp only [decide_eq_true_eq, decide_eq_false_iff_not] at *; omega)])
              | refine hK6 _ (decide (((T.members.l.map Member.c).length : Int) = 0)) (Weak.to (by repeat (first | exact Keeps.nil | refine Keeps.c rfl rfl ?_ | refine Keeps.c (by (first | (first | rfl | ((conv => lhs; whnf); first | (simp [cellsA, faultsT, faultsD, namesD, Fault.mk_c, Nat.add_assoc, empty_append, Bool.and_assoc]; done) | (simp [cellsA, faultsT, faultsD, namesD, Nat.add_assoc, empty_append, Bool.and_assoc]; repeat (first | rfl | constructor)))) | rfl | (simp only [get_same, ev]; done) | (simp [*, cellsA]; done) | (show V.a (A.d (D.slice _ _ _ _)) = V.a (A.d (D.slice _ _ _ _)); simp [*, cellsA]; done))) rfl ?_)) (by repeat (first | exact Pfx.nil | apply Pfx.cons)) (by first | rfl | (first | rfl | (simp only [Heap.set_set, List.length_append, List.length_nil, List.length_cons, List.length_map, List.length_singleton, Nat.zero_add]; done) | (simp [Heap.set_set, Nat.add_assoc]; done)) | (((funext n; simp only [Heap.set]; (repeat' split) <;> simp_all)) <;> first | rfl | exact ⟨rfl, rfl⟩))) (by unfold emptyB; rw [list_empty, if_neg (by simp only [decide_eq_true_eq, decide_eq_false_iff_not] at *; omega), if_pos (by simp only [decide_eq_true_eq, decide_eq_false_iff_not] at *; omega)])
              | refine hK6 _ (decide (((T.inputs.l.map Input.c).length : Int) = 0)) (Weak.to (by repeat (first | exact Keeps.nil | refine Keeps.c rfl rfl ?_ | refine Keeps.c (by (first | (first | rfl | ((conv => lhs; whnf); first | (simp [cellsA, faultsT, faultsD, namesD, Fault.mk_c, Nat.add_assoc, empty_append, Bool.and_assoc]; done) | (simp [cellsA, faultsT, faultsD, namesD, Nat.add_assoc, empty_append, Bool.and_assoc]; repeat (first | rfl | constructor)))) | rfl | (simp only [get_same, ev]; done) | (simp [*, cellsA]; done) | (show V.a (A.d (D.slice _ _ _ _)) = V.a (A.d (D.slice _ _ _ _)); simp [*, cellsA]; done))) rfl ?_)) (by repeat (first | exact Pfx.nil | apply Pfx.cons)) (by first | rfl | (first | rfl | (simp only [Heap.set_set, List.length_append, List.length_nil, List.length_cons, List.length_map, List.length_singleton, Nat.zero_add]; done) | (simp [Heap.set_set, Nat.add_assoc]; done)) | (((funext n; simp only [Heap.set]; (repeat' split) <;> simp_all)) <;> first | rfl | exact ⟨rfl, rfl⟩))) (by unfold emptyB; rw [list_empty, if_neg (by simp only [decide_eq_true_eq, decide_eq_false_iff_not] at *; omega), if_neg (by simp only [decide_eq_true_eq, decide_eq_false_iff_not] at *; omega), if_pos (by simp only [decide_eq_true_eq, decide_eq_false_iff_not] at *; omega)])
              | refine hK6 _ false (Weak.to (by repeat (first | exact Keeps.nil | refine Keeps.c rfl rfl ?_ | refine Keeps.c (by (first | (first | rfl | ((conv => lhs; whnf); first | (simp [cellsA, faultsT, faultsD, namesD, Fault.mk_c, Nat.add_assoc, empty_append, Bool.and_assoc]; done) | (simp [cellsA, faultsT, faultsD, namesD, Nat.add_assoc, empty_append, Bool.and_assoc]; repeat (first | rfl | constructor)))) | rfl | (simp only [get_same, ev]; done) | (simp [*, cellsA]; done) | (show V.a (A.d (D.slice _ _ _ _)) = V.a (A.d (D.slice _ _ _ _)); simp [*, cellsA]; done))) rfl ?_)) (by repeat (first | exact Pfx.nil | apply Pfx.cons)) (by first | rfl | (first | rfl | (simp only [Heap.set_set, List.length_append, List.length_nil, List.length_cons, List.length_map, List.length_singleton, Nat.zero_add]; done) | (simp [Heap.set_set, Nat.add_assoc]; done)) | (((funext n; simp only [Heap.set]; (repeat' split) <;> simp_all)) <;> first | rfl | exact ⟨rfl, rfl⟩))) (by unfold emptyB; rw [if_neg (by simp only [decide_eq_true_eq, decide_eq_false_iff_not] at *; omega), if_neg (by simp only [decide_eq_true_eq, decide_eq_false_iff_not] at *; omega), if_neg (by simp only [decide_eq_true_eq, decide_eq_false_iff_not] at *; omega)])
            · first
              | (cases hc4; done)
              | skip
              refine AWp.skip ?_
              first
              | (exfalso; simp only [decide_eq_true_eq, decide_eq_false_iff_not] at *; omega)
              | refine hK6 _ (decide (((T.fields.l.map Field.c).length : Int) = 0)) (Weak.to (by repeat (first | exact Keeps.nil | refine Keeps.c rfl rfl ?_ | refine Keeps.c (by (first | (first | rfl | ((conv => lhs; whnf); first | (simp [cellsA, faultsT, faultsD, namesD, Fault.mk_c, Nat.add_assoc, empty_append, Bool.and_assoc]; done) | (simp [cellsA, faultsT, faultsD, namesD, Nat.add_assoc, empty_append, Bool.and_assoc]; repeat (first | rfl | constructor)))) | rfl | (simp only [get_same, ev]; done) | (simp [*, cellsA]; done) | (show V.a (A.d (D.slice _ _ _ _)) = V.a (A.d (D.slice _ _ _ _)); simp [*, cellsA]; done))) rfl ?_)) (by repeat (first | exact Pfx.nil | apply Pfx.cons)) (by first | rfl | (first | rfl | (simp only [Heap.set_set, List.length_append, List.length_nil, List.length_cons, List.length_map, List.length_singleton, Nat.zero_add]; done) | (simp [Heap.set_set, Nat.add_assoc]; done)) | (((funext n; simp only [Heap.set]; (repeat' split) <;> simp_all)) <;> first | rfl | exact ⟨rfl, rfl⟩))) (by unfold emptyB; rw [list_empty]; rw [if_pos (by simp only [decide_eq_true_eq, decide_eq_false_iff_not] at *; omega)])
              | refine hK6 _ (decide (((T.members.l.map Member.c).length : Int) = 0)) (Weak.to (by repeat (first | exact Keeps.nil | refine Keeps.c rfl rfl ?_ | refine Keeps.c (by (first | (first | rfl | ((conv => lhs; whnf); first | (simp [cellsA, faultsT, faultsD, namesD, Fault.mk_c, Nat.add_assoc, empty_append, Bool.and_assoc]; done) | (simp [cellsA, faultsT, faultsD, namesD, Nat.add_assoc, empty_append, Bool.and_assoc]; repeat (first | rfl | constructor)))) | rfl | (simp only [get_same, ev]; done) | (simp [*, cellsA]; done) | (show V.a (A.d (D.slice _ _ _ _)) = V.a (A.d (D.slice _ _ _ _)); simp [*, cellsA]; done))) rfl ?_)) (by repeat (first | exact Pfx.nil | apply Pfx.cons)) (by first | rfl | (first | rfl | (simp only [Heap.set_set, List.length_append, List.length_nil, List.length_cons, List.length_map, List.length_singleton, Nat.zero_add]; done) | (simp [Heap.set_set, Nat.add_assoc]; done)) | (((funext n; simp only [Heap.set]; (repeat' split) <;> simp_all)) <;> first | rfl | exact ⟨rfl, rfl⟩))) (by unfold emptyB; rw [list_empty, if_neg (by simp only [decide_eq_true_eq, decide_eq_false_iff_not] at *; omega), if_pos (by simp only [decide_eq_true_eq, decide_eq_false_iff_not] at *; omega)])
              | refine hK6 _ (decide (((T.inputs.l.map Input.c).length : Int) = 0)) (Weak.to (by repeat (first | exact Keeps.nil | refine Keeps.c rfl rfl ?_ | refine Keeps.c (by (first | (first | rfl | ((conv => lhs; whnf); first | (simp [cellsA, faultsT, faultsD, namesD, Fault.mk_c, Nat.add_assoc, empty_append, Bool.and_assoc]; done) | (simp [cellsA, faultsT, faultsD, namesD, Nat.add_assoc, empty_append, Bool.and_assoc]; repeat (first | rfl | constructor)))) | rfl | (simp only [get_same, ev]; done) | (simp [*, cellsA]; done) | (show V.a (A.d (D.slice _ _ _ _)) = V.a (A.d (D.slice _ _ _ _)); simp [*, cellsA]; done))) rfl ?_)) (by repeat (first | exact Pfx.nil | apply Pfx.cons)) (by first | rfl | (first | rfl | (simp only [Heap.set_set, List.length_append, List.length_nil, List.length_cons, List.length_map, List.length_singleton, Nat.zero_add]; done) | (simp [Heap.set_set, Nat.add_assoc]; done)) | (((funext n; simp only [Heap.set]; (repeat' split) <;> simp_all)) <;> first | rfl | exact ⟨rfl, rfl⟩))) (by unfold emptyB; rw [list_empty, if_neg (by simp only [decide_eq_true_eq, decide_eq_false_iff_not] at *; omega), if_neg (by simp only [decide_eq_true_eq, decide_eq_false_iff_not] at *; omega), if_pos (by simp only [decide_eq_true_eq, decide_eq_false_iff_not] at *; omega)])
              | refine hK6 _ false (Weak.to (by repeat (first | exact Keeps.nil | refine Keeps.c rfl rfl ?_ | refine Keeps.c (by (first | (first | rfl | ((conv => lhs; whnf); first | (simp [cellsA, faultsT, faultsD, namesD, Fault.mk_c, Nat.add_assoc, empty_append, Bool.and_assoc]; done) | (simp [cellsA, faultsT, faultsD, namesD, Nat.add_assoc, empty_append, Bool.and_assoc]; repeat (first | rfl | constructor)))) | rfl | (simp only [get_same, ev]; done) | (simp [*, cellsA]; done) | (show V.a (A.d (D.slice _ _ _ _)) = V.a (A.d (D.slice _ _ _ _)); simp [*, cellsA]; done))) rfl ?_)) (by repeat (first | exact Pfx.nil | apply Pfx.cons)) (by first | rfl | (first | rfl | (simp only [Heap.set_set, List.length_append, List.length_nil, List.length_cons, List.length_map, List.length_singleton, Nat.zero_add]; done) | (simp [Heap.set_set, Nat.add_assoc]; done)) | (((funext n; simp only [Heap.set]; (repeat' split) <;> simp_all)) <;> first | rfl | exact ⟨rfl, rfl⟩))) (by unfold emptyB; rw [if_neg (by simp only [decide_eq_true_eq, decide_eq_false_iff_not] at *; omega), if_neg (by simp only [decide_eq_true_eq, decide_eq_false_iff_not] at *; omega), if_neg (by simp only [decide_eq_true_eq, decide_eq_false_iff_not] at *; omega)])
        · first
          | (cases hc2; done)
          | skip
          refine AWp.region ?_
          refine AOps.s0 (Cert.binI rfl rfl rfl) rfl ?_
          refine AOps.s0 (Cert.assign (by conv => lhs; whnf)) rfl ?_
          refine AOps.nil ?_
          refine hK10 _ ?_
          clear hK10 K10
          refine AWp.cond rfl (fun hc3 => ?_) (fun hc3 => ?_)
          · first
            | (cases hc3; done)
            | skip
            refine AWp.region ?_
            refine AOps.s0 (Cert.fieldV (Try.tab_ok _ _ rfl) rfl rfl (Try.tab_ok _ _ rfl) rfl rfl (by conv => lhs; whnf)) rfl ?_
            refine AOps.s0 (Cert.loadV (Try.tab_ok _ _ rfl) rfl rfl rfl) rfl ?_
            refine AOps.s0 (Cert.lenA (Try.tab_ok _ _ rfl) rfl rfl rfl) rfl ?_
            refine AOps.s0 (Cert.binI rfl rfl rfl) rfl ?_
            refine AOps.s0 (Cert.assign (by conv => lhs; whnf)) rfl ?_
            refine AOps.nil ?_
            first
            | (exfalso; simp only [decide_eq_true_eq, decide_eq_false_iff_not] at *; omega)
            | refine hK6 _ (decide (((T.fields.l.map Field.c).length : Int) = 0)) (Weak.to (by repeat (first | exact Keeps.nil | refine Keeps.c rfl rfl ?_ | refine Keeps.c (by (first | (first | rfl | ((conv => lhs; whnf); first | (simp [cellsA, faultsT, faultsD, namesD, Fault.mk_c, Nat.add_assoc, empty_append, Bool.and_assoc]; done) | (simp [cellsA, faultsT, faultsD, namesD, Nat.add_assoc, empty_append, Bool.and_assoc]; repeat (first | rfl | constructor)))) | rfl | (simp only [get_same, ev]; done) | (simp [*, cellsA]; done) | (show V.a (A.d (D.slice _ _ _ _)) = V.a (A.d (D.slice _ _ _ _)); simp [*, cellsA]; done))) rfl ?_)) (by repeat (first | exact Pfx.nil | apply Pfx.cons)) (by first | rfl | (first | rfl | (simp only [Heap.set_set, List.length_append, List.length_nil, List.length_cons, List.length_map, List.length_singleton, Nat.zero_add]; done) | (simp [Heap.set_set, Nat.add_assoc]; done)) | (((funext n; simp only [Heap.set]; (repeat' split) <;> simp_all)) <;> first | rfl | exact ⟨rfl, rfl⟩))) (by unfold emptyB; rw [list_empty]; rw [if_pos (by simp only [decide_eq_true_eq, decide_eq_false_iff_not] at *; omega)])
            | refine hK6 _ (decide (((T.members.l.map Member.c).length : Int) = 0)) (Weak.to (by repeat (first | exact Keeps.nil | refine Keeps.c rfl rfl ?_ | refine Keeps.c (by (first | (first | rfl | ((conv => lhs; whnf); first | (simp [cellsA, faultsT, faultsD, namesD, Fault.mk_c, Nat.add_assoc, empty_append, Bool.and_assoc]; done) | (simp [cellsA, faultsT, faultsD, namesD, Nat.add_assoc, empty_append, Bool.and_assoc]; repeat (first | rfl | constructor)))) | rfl | (simp only [get_same, ev]; done) | (simp [*, cellsA]; done) | (show V.a (A.d (D.slice _ _ _ _)) = V.a (A.d (D.slice _ _ _ _)); simp [*, cellsA]; done))) rfl ?_)) (by repeat (first | exact Pfx.nil | apply Pfx.cons)) (by first | rfl | (first | rfl | (simp only [Heap.set_set, List.length_append, List.length_nil, List.length_cons, List.length_map, List.length_singleton, Nat.zero_add]; done) | (simp [Heap.set_set, Nat.add_assoc]; done)) | (((funext n; simp only [Heap.set]; (repeat' split) <;> simp_all)) <;> first | rfl | exact ⟨rfl, rfl⟩))) (by unfold emptyB; rw [list_empty, if_neg (by simp only [decide_eq_true_eq, decide_eq_false_iff_not] at *; omega), if_pos (by simp only [decide_eq_true_eq, decide_eq_false_iff_not] at *; omega)])
            | refine hK6 _ (decide (((T.inputs.l.map Input.c).length : Int) = 0)) (Weak.to (by repeat (first | exact Keeps.nil | refine Keeps.c rfl rfl ?_ | refine Keeps.c (by (first | (first | rfl | ((conv => lhs; whnf); first | (simp [cellsA, faultsT, faultsD, namesD, Fault.mk_c, Nat.add_assoc, empty_append, Bool.and_assoc]; done) | (simp [cellsA, faultsT, faultsD, namesD, Nat.add_assoc, empty_append, Bool.and_assoc]; repeat (first | rfl | constructor)))) | rfl | (simp only [get_same, ev]; done) | (simp [*, cellsA]; done) | (show V.a (A.d (D.slice _ _ _ _)) = V.a (A.d (D.slice _ _ _ _)); simp [*, cellsA]; done))) rfl ?_)) (by repeat (first | exact Pfx.nil | apply Pfx.cons)) (by first | rfl | (first | rfl | (simp only [Heap.set_set, List.length_append, List.length_nil, List.length_cons, List.length_map, List.length_singleton, Nat.zero_add]; done) | (simp [Heap.set_set, Nat.add_assoc]; done)) | (((funext n; simp only [Heap.set]; (repeat' split) <;> simp_all)) <;> first | rfl | exact ⟨rfl, rfl⟩))) (by unfold emptyB; rw [list_empty, if_neg (by simp only [decide_eq_true_eq, decide_eq_false_iff_not] at *; omega), if_neg (by simp only [decide_eq_true_eq, decide_eq_false_iff_not] at *; omega), if_pos (by simp only [decide_eq_true_eq, decide_eq_false_iff_not] at *; omega)])
            | refine hK6 _ false (Weak.to (by repeat (first | exact Keeps.nil | refine Keeps.c rfl rfl ?_ | refine Keeps.c (by (first | (first | rfl | ((conv => lhs; whnf); first | (simp [cellsA, faultsT, faultsD, namesD, Fault.mk_c, Nat.add_assoc, empty_append, Bool.and_assoc]; done) | (simp [cellsA, faultsT, faultsD, namesD, Nat.add_assoc, empty_append, Bool.and_assoc]; repeat (first | rfl | constructor)))) | rfl | (simp only [get_same, ev]; done) | (simp [*, cellsA]; done) | (show V.a (A.d (D.slice _ _ _ _)) = V.a (A.d (D.slice _ _ _ _)); simp [*, cellsA]; done))) rfl ?_)) (by repeat (first | exact Pfx.nil | apply Pfx.cons)) (by first | rfl | (first | rfl | (simp only [Heap.set_set, List.length_append, List.length_nil, List.length_cons, List.length_map, List.length_singleton, Nat.zero_add]; done) | (simp [Heap.set_set, Nat.add_assoc]; done)) | (((funext n; simp only [Heap.set]; (repeat' split) <;> simp_all)) <;> first | rfl | exact ⟨rfl, rfl⟩))) (by unfold emptyB; rw [if_neg (by simp only [decide_eq_true_eq, decide_eq_false_iff_not] at *; omega), if_neg (by simp only [decide_eq_true_eq, decide_eq_false_iff_not] at *; omega), if_neg (by simp only [decide_eq_true_eq, decide_eq_false_iff_not] at *; omega)])
          · first
            | (cases hc3; done)
            | skip
            refine AWp.seqK fun K13 hK13 => ?_
            refine AWp.region ?_
            refine AOps.s0 (Cert.binI rfl rfl rfl) rfl ?_
            refine AOps.s0 (Cert.assign (by conv => lhs; whnf)) rfl ?_
            refine AOps.nil ?_
            refine hK13 _ ?_
            clear hK13 K13
            refine AWp.cond rfl (fun hc4 => ?_) (fun hc4 => ?_)
            · first
              | (cases hc4; done)
              | skip
              refine AWp.region ?_
              refine AOps.s0 (Cert.fieldV (Try.tab_ok _ _ rfl) rfl rfl (Try.tab_ok _ _ rfl) rfl rfl (by conv => lhs; whnf)) rfl ?_
              refine AOps.s0 (Cert.loadV (Try.tab_ok _ _ rfl) rfl rfl rfl) rfl ?_
              refine AOps.s0 (Cert.lenA (Try.tab_ok _ _ rfl) rfl rfl rfl) rfl ?_
              refine AOps.s0 (Cert.binI rfl rfl rfl) rfl ?_
              refine AOps.s0 (Cert.assign (by conv => lhs; whnf)) rfl ?_
              refine AOps.nil ?_
              first
              | (exfalso; simp only [decide_eq_true_eq, decide_eq_false_iff_not] at *; omega)
              | refine hK6 _ (decide (((T.fields.l.map Field.c).length : Int) = 0)) (Weak.to (by repeat (first | exact Keeps.nil | refine Keeps.c rfl rfl ?_ | refine Keeps.c (by (first | (first | rfl | ((conv => lhs; whnf); first | (simp [cellsA, faultsT, faultsD, namesD, Fault.mk_c, Nat.add_assoc, empty_append, Bool.and_assoc]; done) | (simp [cellsA, faultsT, faultsD, namesD, Nat.add_assoc, empty_append, Bool.and_assoc]; repeat (first | rfl | constructor)))) | rfl | (simp only [get_same, ev]; done) | (simp [*, cellsA]; done) | (show V.a (A.d (D.slice _ _ _ _)) = V.a (A.d (D.slice _ _ _ _)); simp [*, cellsA]; done))) rfl ?_)) (by repeat (first | exact Pfx.nil | apply Pfx.cons)) (by first | rfl | (first | rfl | (simp only [Heap.set_set, List.length_append, List.length_nil, List.length_cons, List.length_map, List.length_singleton, Nat.zero_add]; done) | (simp [Heap.set_set, Nat.add_assoc]; done)) | (((funext n; simp only [Heap.set]; (repeat' split) <;> simp_all)) <;> first | rfl | exact ⟨rfl, rfl⟩))) (by unfold emptyB; rw [list_empty]; rw [if_pos (by simp only [decide_eq_true_eq, decide_eq_false_iff_not] at *; omega)])
              | refine hK6 _ (decide (((T.members.l.map Member.c).length : Int) = 0)) (Weak.to (by repeat (first | exact Keeps.nil | refine Keeps.c rfl rfl ?_ | refine Keeps.c (by (first | (first | rfl | ((conv => lhs; whnf); first | (simp [cellsA, faultsT, faultsD, namesD, Fault.mk_c, Nat.add_assoc, empty_append, Bool.and_assoc]; done) | (simp [cellsA, faultsT, faultsD, namesD, Nat.add_assoc, empty_append, Bool.and_assoc]; repeat (first | rfl | constructor)))) | rfl | (simp only [get_same, ev]; done) | (simp [*, cellsA]; done) | (show V.a (A.d (D.slice _ _ _ _)) = V.a (A.d (D.slice _ _ _ _)); simp [*, cellsA]; done))) rfl ?_)) (by repeat (first | exact Pfx.nil | apply Pfx.cons)) (by first | rfl | (first | rfl | (simp only [Heap.set_set, List.length_append, List.length_nil, List.length_cons, List.length_map, List.length_singleton, Nat.zero_add]; done) | (simp [Heap.set_set, Nat.add_assoc]; done)) | (((funext n; simp only [Heap.set]; (repeat' split) <;> simp_all)) <;> first | rfl | exact ⟨rfl, rfl⟩))) (by unfold emptyB; rw [list_empty, if_neg (by simp only [decide_eq_true_eq, decide_eq_false_iff_not] at *; omega), if_pos (by simp only [decide_eq_true_eq, decide_eq_false_iff_not] at *; omega)])
              | refine hK6 _ (decide (((T.inputs.l.map Input.c).length : Int) = 0)) (Weak.to (by repeat (first | exact Keeps.nil | refine Keeps.c rfl rfl ?_ | refine Keeps.c (by (first | (first | rfl | ((conv => lhs; whnf); first | (simp [cellsA, faultsT, faultsD, namesD, Fault.mk_c, Nat.add_assoc, empty_append, Bool.and_assoc]; done) | (simp [cellsA, faultsT, faultsD, namesD, Nat.add_assoc, empty_append, Bool.and_assoc]; repeat (first | rfl | constructor)))) | rfl | (simp only [get_same, ev]; done) | (simp [*, cellsA]; done) | (show V.a (A.d (D.slice _ _ _ _)) = V.a (A.d (D.slice _ _ _ _)); simp [*, cellsA]; done))) rfl ?_)) (by repeat (first | exact Pfx.nil | apply Pfx.cons)) (by first | rfl | (first | rfl | (simp only [Heap.set_set, List.length_append, List.length_nil, List.length_cons, List.length_map, List.length_singleton, Nat.zero_add]; done) | (simp [Heap.set_set, Nat.add_assoc]; done)) | (((funext n; simp only [Heap.set]; (repeat' split) <;> simp_all)) <;> first | rfl | exact ⟨rfl, rfl⟩))) (by unfold emptyB; rw [list_empty, if_neg (by simp only [decide_eq_true_eq, decide_eq_false_iff_not] at *; omega), if_neg (by simp only [decide_eq_true_eq, decide_eq_false_iff_not] at *; omega), if_pos (by simp only [decide_eq_true_eq, decide_eq_false_iff_not] at *; omega)])
              | refine hK6 _ false (Weak.to (by repeat (first | exact Keeps.nil | refine Keeps.c rfl rfl ?_ | refine Keeps.c (by (first | (first | rfl | ((conv => lhs; whnf); first | (simp [cellsA, faultsT, faultsD, namesD, Fault.mk_c, Nat.add_assoc, empty_append, Bool.and_assoc]; done) | (simp [cellsA, faultsT, faultsD, namesD, Nat.add_assoc, empty_append, Bool.and_assoc]; repeat (first | rfl | constructor)))) | rfl | (simp only [get_same, ev]; done) | (simp [*, cellsA]; done) | (show V.a (A.d (D.slice _ _ _ _)) = V.a (A.d (D.slice _ _ _ _)); simp [*, cellsA]; done))) rfl ?_)) (by repeat (first | exact Pfx.nil | apply Pfx.cons)) (by first | rfl | (first | rfl | (simp only [Heap.set_set, List.length_append, List.length_nil, List.length_cons, List.length_map, List.length_singleton, Nat.zero_add]; done) | (simp [Heap.set_set, Nat.add_assoc]; done)) | (((funext n; simp only [Heap.set]; (repeat' split) <;> simp_all)) <;> first | rfl | exact ⟨rfl, rfl⟩))) (by unfold emptyB; rw [if_neg (by simp only [decide_eq_true_eq, decide_eq_false_iff_not] at *; omega), if_neg (by simp only [decide_eq_true_eq, decide_eq_false_iff_not] at *; omega), if_neg (by simp only [decide_eq_true_eq, decide_eq_false_iff_not] at *; omega)])
            · first
              | (cases hc4; done)
              | skip
              refine AWp.skip ?_
              first
              | (exfalso; simp only [decide_eq_true_eq, decide_eq_false_iff_not] at *; omega)
              | refine hK6 _ (decide (((T.fields.l.map Field.c).length : Int) = 0)) (Weak.to (by repeat (first | exact Keeps.nil | refine Keeps.c rfl rfl ?_ | refine Keeps.c (by (first | (first | rfl | ((conv => lhs; whnf); first | (simp [cellsA, faultsT, faultsD, namesD, Fault.mk_c, Nat.add_assoc, empty_append, Bool.and_assoc]; done) | (simp [cellsA, faultsT, faultsD, namesD, Nat.add_assoc, empty_append, Bool.and_assoc]; repeat (first | rfl | constructor)))) | rfl | (simp only [get_same, ev]; done) | (simp [*, cellsA]; done) | (show V.a (A.d (D.slice _ _ _ _)) = V.a (A.d (D.slice _ _ _ _)); simp [*, cellsA]; done))) rfl ?_)) (by repeat (first | exact Pfx.nil | apply Pfx.cons)) (by first | rfl | (first | rfl | (simp only [Heap.set_set, List.length_append, List.length_nil, List.length_cons, List.length_map, List.length_singleton, Nat.zero_add]; done) | (simp [Heap.set_set, Nat.add_assoc]; done)) | (((funext n; simp only [Heap.set]; (repeat' split) <;> simp_all)) <;> first | rfl | exact ⟨rfl, rfl⟩))) (by unfold emptyB; rw [list_empty]; rw [if_pos (by simp only [decide_eq_true_eq, decide_eq_false_iff_not] at *; omega)])
              | refine hK6 _ (decide (((T.members.l.map Member.c).length : Int) = 0)) (Weak.to (by repeat (first | exact Keeps.nil | refine Keeps.c rfl rfl ?_ | refine Keeps.c (by (first | (first | rfl | ((conv => lhs; whnf); first | (simp [cellsA, faultsT, faultsD, namesD, Fault.mk_c, Nat.add_assoc, empty_append, Bool.and_assoc]; done) | (simp [cellsA, faultsT, faultsD, namesD, Nat.add_assoc, empty_append, Bool.and_assoc]; repeat (first | rfl | constructor)))) | rfl | (simp only [get_same, ev]; done) | (simp [*, cellsA]; done) | (show V.a (A.d (D.slice _ _ _ _)) = V.a (A.d (D.slice _ _ _ _)); simp [*, cellsA]; done))) rfl ?_)) (by repeat (first | exact Pfx.nil | apply Pfx.cons)) (by first | rfl | (first | rfl | (simp only [Heap.set_set, List.length_append, List.length_nil, List.length_cons, List.length_map, List.length_singleton, Nat.zero_add]; done) | (simp [Heap.set_set, Nat.add_assoc]; done)) | (((funext n; simp only [Heap.set]; (repeat' split) <;> simp_all)) <;> first | rfl | exact ⟨rfl, rfl⟩))) (by unfold emptyB; rw [list_empty, if_neg (by simp only [decide_eq_true_eq, decide_eq_false_iff_not] at *; omega), if_pos (by simp only [decide_eq_true_eq, decide_eq_false_iff_not] at *; omega)])
              | refine hK6 _ (decide (((T.inputs.l.map Input.c).length : Int) = 0)) (Weak.to (by repeat (first | exact Keeps.nil | refine Keeps.c rfl rfl ?_ | refine Keeps.c (by (first | (first | rfl | ((conv => lhs; whnf); first | (simp [cellsA, faultsT, faultsD, namesD, Fault.mk_c, Nat.add_assoc, empty_append, Bool.and_assoc]; done) | (simp [cellsA, faultsT, faultsD, namesD, Nat.add_assoc, empty_append, Bool.and_assoc]; repeat (first | rfl | constructor)))) | rfl | (simp only [get_same, ev]; done) | (simp [*, cellsA]; done) | (show V.a (A.d (D.slice _ _ _ _)) = V.a (A.d (D.slice _ _ _ _)); simp [*, cellsA]; done))) rfl ?_)) (by repeat (first | exact Pfx.nil | apply Pfx.cons)) (by first | rfl | (first | rfl | (simp only [Heap.set_set, List.length_append, List.length_nil, List.length_cons, List.length_map, List.length_singleton, Nat.zero_add]; done) | (simp [Heap.set_set, Nat.add_assoc]; done)) | (((funext n; simp only [Heap.set]; (repeat' split) <;> simp_all)) <;> first | rfl | exact ⟨rfl, rfl⟩))) (by unfold emptyB; rw [list_empty, if_neg (by simp only [decide_eq_true_eq, decide_eq_false_iff_not] at *; omega), if_neg (by simp only [decide_eq_true_eq, decide_eq_false_iff_not] at *; omega), if_pos (by simp only [decide_eq_true_eq, decide_eq_false_iff_not] at *; omega)])
              | refine hK6 _ false (Weak.to (by repeat (first | exact Keeps.nil | refine Keeps.c rfl rfl ?_ | refine Keeps.c (by (first | (first | rfl | ((conv => lhs; whnf); first | (simp [cellsA, faultsT, faultsD, namesD, Fault.mk_c, Nat.add_assoc, empty_append, Bool.and_assoc]; done) | (simp [cellsA, faultsT, faultsD, namesD, Nat.add_assoc, empty_append, Bool.and_assoc]; repeat (first | rfl | constructor)))) | rfl | (simp only [get_same, ev]; done) | (simp [*, cellsA]; done) | (show V.a (A.d (D.slice _ _ _ _)) = V.a (A.d (D.slice _ _ _ _)); simp [*, cellsA]; done))) rfl ?_)) (by repeat (first | exact Pfx.nil | apply Pfx.cons)) (by first | rfl | (first | rfl | (simp only [Heap.set_set, List.length_append, List.length_nil, List.length_cons, List.length_map, List.length_singleton, Nat.zero_add]; done) | (simp [Heap.set_set, Nat.add_assoc]; done)) | (((funext n; simp only [Heap.set]; (repeat' split) <;> simp_all)) <;> first | rfl | exact ⟨rfl, rfl⟩))) (by unfold emptyB; rw [if_neg (by simp only [decide_eq_true_eq, decide_eq_false_iff_not] at *; omega), if_neg (by simp only [decide_eq_true_eq, decide_eq_false_iff_not] at *; omega), if_neg (by simp only [decide_eq_true_eq, decide_eq_false_iff_not] at *; omega)])
    · first
      | (cases hc0; done)
      | skip
      refine AWp.region ?_
      refine AOps.s0 (Cert.binI rfl rfl rfl) rfl ?_
      refine AOps.s0 (Cert.assign (by conv => lhs; whnf)) rfl ?_
      refine AOps.nil ?_
      refine hK8 _ ?_
      clear hK8 K8
      refine AWp.cond rfl (fun hc1 => ?_) (fun hc1 => ?_)
      · first
        | (cases hc1; done)
        | skip
        refine AWp.region ?_
        refine AOps.s0 (Cert.fieldV (Try.tab_ok _ _ rfl) rfl rfl (Try.tab_ok _ _ rfl) rfl rfl (by conv => lhs; whnf)) rfl ?_
        refine AOps.s0 (Cert.loadV (Try.tab_ok _ _ rfl) rfl rfl rfl) rfl ?_
        refine AOps.s0 (Cert.lenA (Try.tab_ok _ _ rfl) rfl rfl rfl) rfl ?_
        refine AOps.s0 (Cert.binI rfl rfl rfl) rfl ?_
        refine AOps.s0 (Cert.assign (by conv => lhs; whnf)) rfl ?_
        refine AOps.nil ?_
        first
        | (exfalso; simp only [decide_eq_true_eq, decide_eq_false_iff_not] at *; omega)
        | refine hK6 _ (decide (((T.fields.l.map Field.c).length : Int) = 0)) (Weak.to (by repeat (first | exact Keeps.nil | refine Keeps.c rfl rfl ?_ | refine Keeps.c (by (first | (first | rfl | ((conv => lhs; whnf); first | (simp [cellsA, faultsT, faultsD, namesD, Fault.mk_c, Nat.add_assoc, empty_append, Bool.and_assoc]; done) | (simp [cellsA, faultsT, faultsD, namesD, Nat.add_assoc, empty_append, Bool.and_assoc]; repeat (first | rfl | constructor)))) | rfl | (simp only [get_same, ev]; done) | (simp [*, cellsA]; done) | (show V.a (A.d (D.slice _ _ _ _)) = V.a (A.d (D.slice _ _ _ _)); simp [*, cellsA]; done))) rfl ?_)) (by repeat (first | exact Pfx.nil | apply Pfx.cons)) (by first | rfl | (first | rfl | (simp only [Heap.set_set, List.length_append, List.length_nil, List.length_cons, List.length_map, List.length_singleton, Nat.zero_add]; done) | (simp [Heap.set_set, Nat.add_assoc]; done)) | (((funext n; simp only [Heap.set]; (repeat' split) <;> simp_all)) <;> first | rfl | exact ⟨rfl, rfl⟩))) (by unfold emptyB; rw [list_empty]; rw [if_pos (by simp only [decide_eq_true_eq, decide_eq_false_iff_not] at *; omega)])
        | refine hK6 _ (decide (((T.members.l.map Member.c).length : Int) = 0)) (Weak.to (by repeat (first | exact Keeps.nil | refine Keeps.c rfl rfl ?_ | refine Keeps.c (by (first | (first | rfl | ((conv => lhs; whnf); first | (simp [cellsA, faultsT, faultsD, namesD, Fault.mk_c, Nat.add_assoc, empty_append, Bool.and_assoc]; done) | (simp [cellsA, faultsT, faultsD, namesD, Nat.add_assoc, empty_append, Bool.and_assoc]; repeat (first | rfl | constructor)))) | rfl | (simp only [get_same, ev]; done) | (simp [*, cellsA]; done) | (show V.a (A.d (D.slice _ _ _ _)) = V.a (A.d (D.slice _ _ _ _)); simp [*, cellsA]; done))) rfl ?_)) (by repeat (first | exact Pfx.nil | apply Pfx.cons)) (by first | rfl | (first | rfl | (simp only [Heap.set_set, List.length_append, List.length_nil, List.length_cons, List.length_map, List.length_singleton, Nat.zero_add]; done) | (simp [Heap.set_set, Nat.add_assoc]; done)) | (((funext n; simp only [Heap.set]; (repeat' split) <;> simp_all)) <;> first | rfl | exact ⟨rfl, rfl⟩))) (by unfold emptyB; rw [list_empty, if_neg (by simp only [decide_eq_true_eq, decide_eq_false_iff_not] at *; omega), if_pos (by simp only [decide_eq_true_eq, decide_eq_false_iff_not] at *; omega)])
        | refine hK6 _ (decide (((T.inputs.l.map Input.c).length : Int) = 0)) (Weak.to (by repeat (first | exact Keeps.nil | refine Keeps.c rfl rfl ?_ | refine Keeps.c (by (first | (first | rfl | ((conv => lhs; whnf); first | (simp [cellsA, faultsT, faultsD, namesD, Fault.mk_c, Nat.add_assoc, empty_append, Bool.and_assoc]; done) | (simp [cellsA, faultsT, faultsD, namesD, Nat.add_assoc, empty_append, Bool.and_assoc]; repeat (first | rfl | constructor)))) | rfl | (simp only [get_same, ev]; done) | (simp [*, cellsA]; done) | (show V.a (A.d (D.slice _ _ _ _)) = V.a (A.d (D.slice _ _ _ _)); simp [*, cellsA]; done))) rfl ?_)) (by repeat (first | exact Pfx.nil | apply Pfx.cons)) (by first | rfl | (first | rfl | (simp only [Heap.set_set, List.length_append, List.length_nil, List.length_cons, List.length_map, List.length_singleton, Nat.zero_add]; done) | (simp [Heap.set_set, Nat.add_assoc]; done)) | (((funext n; simp only [Heap.set]; (repeat' split) <;> simp_all)) <;> first | rfl | exact ⟨rfl, rfl⟩))) (by unfold emptyB; rw [list_empty, if_neg (by simp only [decide_eq_true_eq, decide_eq_false_iff_not] at *; omega), if_neg (by simp only [decide_eq_true_eq, decide_eq_false_iff_not] at *; omega), if_pos (by simp only [decide_eq_true_eq, decide_eq_false_iff_not] at *; omega)])
        | refine hK6 _ false (Weak.to (by repeat (first | exact Keeps.nil | refine Keeps.c rfl rfl ?_ | refine Keeps.c (by (first | (first | rfl | ((conv => lhs; whnf); first | (simp [cellsA, faultsT, faultsD, namesD, Fault.mk_c, Nat.add_assoc, empty_append, Bool.and_assoc]; done) | (simp [cellsA, faultsT, faultsD, namesD, Nat.add_assoc, empty_append, Bool.and_assoc]; repeat (first | rfl | constructor)))) | rfl | (simp only [get_same, ev]; done) | (simp [*, cellsA]; done) | (show V.a (A.d (D.slice _ _ _ _)) = V.a (A.d (D.slice _ _ _ _)); simp [*, cellsA]; done))) rfl ?_)) (by repeat (first | exact Pfx.nil | apply Pfx.cons)) (by first | rfl | (first | rfl | (simp only [Heap.set_set, List.length_append, List.length_nil, List.length_cons, List.length_map, List.length_singleton, Nat.zero_add]; done) | (simp [Heap.set_set, Nat.add_assoc]; done)) | (((funext n; simp only [Heap.set]; (repeat' split) <;> simp_all)) <;> first | rfl | exact ⟨rfl, rfl⟩))) (by unfold emptyB; rw [if_neg (by simp only [decide_eq_true_eq, decide_eq_false_iff_not] at *; omega), if_neg (by simp only [decide_eq_true_eq, decide_eq_false_iff_not] at *; omega), if_neg (by simp only [decide_eq_true_eq, decide_eq_false_iff_not] at *; omega)])
      · first
        | (cases hc1; done)
        | skip
        refine AWp.seqK fun K14 hK14 => ?_
        refine AWp.seqK fun K15 hK15 => ?_
        refine AWp.region ?_
        refine AOps.s0 (Cert.binI rfl rfl rfl) rfl ?_
        refine AOps.s0 (Cert.assign (by conv => lhs; whnf)) rfl ?_
        refine AOps.nil ?_
        refine hK15 _ ?_
        clear hK15 K15
        refine AWp.cond rfl (fun hc2 => ?_) (fun hc2 => ?_)
        · first
          | (cases hc2; done)
          | skip
          refine AWp.skip ?_
          refine hK14 _ ?_
          clear hK14 K14
          refine AWp.cond rfl (fun hc3 => ?_) (fun hc3 => ?_)
          · first
            | (cases hc3; done)
            | skip
            refine AWp.region ?_
            refine AOps.s0 (Cert.fieldV (Try.tab_ok _ _ rfl) rfl rfl (Try.tab_ok _ _ rfl) rfl rfl (by conv => lhs; whnf)) rfl ?_
            refine AOps.s0 (Cert.loadV (Try.tab_ok _ _ rfl) rfl rfl rfl) rfl ?_
            refine AOps.s0 (Cert.lenA (Try.tab_ok _ _ rfl) rfl rfl rfl) rfl ?_
            refine AOps.s0 (Cert.binI rfl rfl rfl) rfl ?_
            refine AOps.s0 (Cert.assign (by conv => lhs; whnf)) rfl ?_
            refine AOps.nil ?_
            first
            | (exfalso; simp only [decide_eq_true_eq, decide_eq_false_iff_not] at *; omega)
            | refine hK6 _ (decide (((T.fields.l.map Field.c).length : Int) = 0)) (Weak.to (by repeat (first | exact Keeps.nil | refine Keeps.c rfl rfl ?_ | refine Keeps.c (by (first | (first | rfl | ((conv => lhs; whnf); first | (simp [cellsA, faultsT, faultsD, namesD, Fault.mk_c, Nat.add_assoc, empty_append, Bool.and_assoc]; done) | (simp [cellsA, faultsT, faultsD, namesD, Nat.add_assoc, empty_append, Bool.and_assoc]; repeat (first | rfl | constructor)))) | rfl | (simp only [get_same, ev]; done) | (simp [*, cellsA]; done) | (show V.a (A.d (D.slice _ _ _ _)) = V.a (A.d (D.slice _ _ _ _)); simp [*, cellsA]; done))) rfl ?_)) (by repeat (first | exact Pfx.nil | apply Pfx.cons)) (by first | rfl | (first | rfl | (simp only [Heap.set_set, List.length_append, List.length_nil, List.length_cons, List.length_map, List.length_singleton, Nat.zero_add]; done) | (simp [Heap.set_set, Nat.add_assoc]; done)) | (((funext n; simp only [Heap.set]; (repeat' split) <;> simp_all)) <;> first | rfl | exact ⟨rfl, rfl⟩))) (by unfold emptyB; rw [list_empty]; rw [if_pos (by simp only [decide_eq_true_eq, decide_eq_false_iff_not] at *; omega)])
            | refine hK6 _ (decide (((T.members.l.map Member.c).length : Int) = 0)) (Weak.to (by repeat (first | exact Keeps.nil | refine Keeps.c rfl rfl ?_ | refine Keeps.c (by (first | (first | rfl | ((conv => lhs; whnf); first | (simp [cellsA, faultsT, faultsD, namesD, Fault.mk_c, Nat.add_assoc, empty_append, Bool.and_assoc]; done) | (simp [cellsA, faultsT, faultsD, namesD, Nat.add_assoc, empty_append, Bool.and_assoc]; repeat (first | rfl | constructor)))) | rfl | (simp only [get_same, ev]; done) | (simp [*, cellsA]; done) | (show V.a (A.d (D.slice _ _ _ _)) = V.a (A.d (D.slice _ _ _ _)); simp [*, cellsA]; done))) rfl ?_)) (by repeat (first | exact Pfx.nil | apply Pfx.cons)) (by first | rfl | (first | rfl | (simp only [Heap.set_set, List.length_append, List.length_nil, List.length_cons, List.length_map, List.length_singleton, Nat.zero_add]; done) | (simp [Heap.set_set, Nat.add_assoc]; done)) | (((funext n; simp only [Heap.set]; (repeat' split) <;> simp_all)) <;> first | rfl | exact ⟨rfl, rfl⟩))) (by unfold emptyB; rw [list_empty, if_neg (by simp only [decide_eq_true_eq, decide_eq_false_iff_not] at *; omega), if_pos (by simp only [decide_eq_true_eq, decide_eq_false_iff_not] at *; omega)])
            | refine hK6 _ (decide (((T.inputs.l.map Input.c).length : Int) = 0)) (Weak.to (by repeat (first | exact Keeps.nil | refine Keeps.c rfl rfl ?_ | refine Keeps.c (by (first | (first | rfl | ((conv => lhs; whnf); first | (simp [cellsA, faultsT, faultsD, namesD, Fault.mk_c, Nat.add_assoc, empty_append, Bool.and_assoc]; done) | (simp [cellsA, faultsT, faultsD, namesD, Nat.add_assoc, empty_append, Bool.and_assoc]; repeat (first | rfl | constructor)))) | rfl | (simp only [get_same, ev]; done) | (simp [*, cellsA]; done) | (show V.a (A.d (D.slice _ _ _ _)) = V.a (A.d (D.slice _ _ _ _)); simp [*, cellsA]; done))) rfl ?_)) (by repeat (first | exact Pfx.nil | apply Pfx.cons)) (by first | rfl | (first | rfl | (simp only [Heap.set_set, List.length_append, List.length_nil, List.length_cons, List.length_map, List.length_singleton, Nat.zero_add]; done) | (simp [Heap.set_set, Nat.add_assoc]; done)) | (((funext n; simp only [Heap.set]; (repeat' split) <;> simp_all)) <;> first | rfl | exact ⟨rfl, rfl⟩))) (by unfold emptyB; rw [list_empty, if_neg (by simp only [decide_eq_true_eq, decide_eq_false_iff_not] at *; omega), if_neg (by simp only [decide_eq_true_eq, decide_eq_false_iff_not] at *; omega), if_pos (by simp only [decide_eq_true_eq, decide_eq_false_iff_not] at *; omega)])
            | refine hK6 _ false (Weak.to (by repeat (first | exact Keeps.nil | refine Keeps.c rfl rfl ?_ | refine Keeps.c (by (first | (first | rfl | ((conv => lhs; whnf); first | (simp [cellsA, faultsT, faultsD, namesD, Fault.mk_c, Nat.add_assoc, empty_append, Bool.and_assoc]; done) | (simp [cellsA, faultsT, faultsD, namesD, Nat.add_assoc, empty_append, Bool.and_assoc]; repeat (first | rfl | constructor)))) | rfl | (simp only [get_same, ev]; done) | (simp [*, cellsA]; done) | (show V.a (A.d (D.slice _ _ _ _)) = V.a (A.d (D.slice _ _ _ _)); simp [*, cellsA]; done))) rfl ?_)) (by repeat (first | exact Pfx.nil | apply Pfx.cons)) (by first | rfl | (first | rfl | (simp only [Heap.set_set, List.length_append, List.length_nil, List.length_cons, List.length_map, List.length_singleton, Nat.zero_add]; done) | (simp [Heap.set_set, Nat.add_assoc]; done)) | (((funext n; simp only [Heap.set]; (repeat' split) <;> simp_all)) <;> first | rfl | exact ⟨rfl, rfl⟩))) (by unfold emptyB; rw [if_neg (by simp only [decide_eq_true_eq, decide_eq_false_iff_not] at *; omega), if_neg (by simp only [decide_eq_true_eq, decide_eq_false_iff_not] at *; omega), if_neg (by simp only [decide_eq_true_eq, decide_eq_false_iff_not] at *; omega)])
          · first
            | (cases hc3; done)
            | skip
            refine AWp.seqK fun K16 hK16 => ?_
            refine AWp.region ?_
            refine AOps.s0 (Cert.binI rfl rfl rfl) rfl ?_
            refine AOps.s0 (Cert.assign (by conv => lhs; whnf)) rfl ?_
            refine AOps.nil ?_
            refine hK16 _ ?_
            clear hK16 K16
            refine AWp.cond rfl (fun hc4 => ?_) (fun hc4 => ?_)
            · first
              | (cases hc4; done)
              | skip
              refine AWp.region ?_
              refine AOps.s0 (Cert.fieldV (Try.tab_ok _ _ rfl) rfl rfl (Try.tab_ok _ _ rfl) rfl rfl (by conv => lhs; whnf)) rfl ?_
              refine AOps.s0 (Cert.loadV (Try.tab_ok _ _ rfl) rfl rfl rfl) rfl ?_
              refine AOps.s0 (Cert.lenA (Try.tab_ok _ _ rfl) rfl rfl rfl) rfl ?_
              refine AOps.s0 (Cert.binI rfl rfl rfl) rfl ?_
              refine AOps.s0 (Cert.assign (by conv => lhs; whnf)) rfl ?_
              refine AOps.nil ?_
              first
              | (exfalso; simp only [decide_eq_true_eq, decide_eq_false_iff_not] at *; omega)
              | refine hK6 _ (decide (((T.fields.l.map Field.c).length : Int) = 0)) (Weak.to (by repeat (first | exact Keeps.nil | refine Keeps.c rfl rfl ?_ | refine Keeps.c (by (first | (first | rfl | ((conv => lhs; whnf); first | (simp [cellsA, faultsT, faultsD, namesD, Fault.mk_c, Nat.add_assoc, empty_append, Bool.and_assoc]; done) | (simp [cellsA, faultsT, faultsD, namesD, Nat.add_assoc, empty_append, Bool.and_assoc]; repeat (first | rfl | constructor)))) | rfl | (simp only [get_same, ev]; done) | (simp [*, cellsA]; done) | (show V.a (A.d (D.slice _ _ _ _)) = V.a (A.d (D.slice _ _ _ _)); simp [*, cellsA]; done))) rfl ?_)) (by repeat (first | exact Pfx.nil | apply Pfx.cons)) (by first | rfl | (first | rfl | (simp only [Heap.set_set, List.length_append, List.length_nil, List.length_cons, List.length_map, List.length_singleton, Nat.zero_add]; done) | (simp [Heap.set_set, Nat.add_assoc]; done)) | (((funext n; simp only [Heap.set]; (repeat' split) <;> simp_all)) <;> first | rfl | exact ⟨rfl, rfl⟩))) (by unfold emptyB; rw [list_empty]; rw [if_pos (by simp only [decide_eq_true_eq, decide_eq_false_iff_not] at *; omega)])
              | refine hK6 _ (decide (((T.members.l.map Member.c).length : Int) = 0)) (Weak.to (by repeat (first | exact Keeps.nil | refine Keeps.c rfl rfl ?_ | refine Keeps.c (by (first | (first | rfl | ((conv => lhs; whnf); first | (simp [cellsA, faultsT, faultsD, namesD, Fault.mk_c, Nat.add_assoc, empty_append, Bool.and_assoc]; done) | (simp [cellsA, faultsT, faultsD, namesD, Nat.add_assoc, empty_append, Bool.and_assoc]; repeat (first | rfl | constructor)))) | rfl | (simp only [get_same, ev]; done) | (simp [*, cellsA]; done) | (show V.a (A.d (D.slice _ _ _ _)) = V.a (A.d (D.slice _ _ _ _)); simp [*, cellsA]; done))) rfl ?_)) (by repeat (first | exact Pfx.nil | apply Pfx.cons)) (by first | rfl | (first | rfl | (simp only [Heap.set_set, List.length_append, List.length_nil, List.length_cons, List.length_map, List.length_singleton, Nat.zero_add]; done) | (simp [Heap.set_set, Nat.add_assoc]; done)) | (((funext n; simp only [Heap.set]; (repeat' split) <;> simp_all)) <;> first | rfl | exact ⟨rfl, rfl⟩))) (by unfold emptyB; rw [list_empty, if_neg (by simp only [decide_eq_true_eq, decide_eq_false_iff_not] at *; omega), if_pos (by simp only [decide_eq_true_eq, decide_eq_false_iff_not] at *; omega)])
              | refine hK6 _ (decide (((T.inputs.l.map Input.c).length : Int) = 0)) (Weak.to (by repeat (first | exact Keeps.nil | refine Keeps.c rfl rfl ?_ | refine Keeps.c (by (first | (first | rfl | ((conv => lhs; whnf); first | (simp [cellsA, faultsT, faultsD, namesD, Fault.mk_c, Nat.add_assoc, empty_append, Bool.and_assoc]; done) | (simp [cellsA, faultsT, faultsD, namesD, Nat.add_assoc, empty_append, Bool.and_assoc]; repeat (first | rfl | constructor)))) | rfl | (simp only [get_same, ev]; done) | (simp [*, cellsA]; done) | (show V.a (A.d (D.slice _ _ _ _)) = V.a (A.d (D.slice _ _ _ _)); simp [*, cellsA]; done))) rfl ?_)) (by repeat (first | exact Pfx.nil | apply Pfx.cons)) (by first | rfl | (first | rfl | (simp only [Heap.set_set, List.length_append, List.length_nil, List.length_cons, List.length_map, List.length_singleton, Nat.zero_add]; done) | (simp [Heap.set_set, Nat.add_assoc]; done)) | (((funext n; simp only [Heap.set]; (repeat' split) <;> simp_all)) <;> first | rfl | exact ⟨rfl, rfl⟩))) (by unfold emptyB; rw [list_empty, if_neg (by simp only [decide_eq_true_eq, decide_eq_false_iff_not] at *; omega), if_neg (by simp only [decide_eq_true_eq, decide_eq_false_iff_not] at *; omega), if_pos (by simp only [decide_eq_true_eq, decide_eq_false_iff_not] at *; omega)])
              | refine hK6 _ false (Weak.to (by repeat (first | exact Keeps.nil | refine Keeps.c rfl rfl ?_ | refine Keeps.c (by (first | (first | rfl | ((conv => lhs; whnf); first | (simp [cellsA, faultsT, faultsD, namesD, Fault.mk_c, Nat.add_assoc, empty_append, Bool.and_assoc]; done) | (simp [cellsA, faultsT, faultsD, namesD, Nat.add_assoc, empty_append, Bool.and_assoc]; repeat (first | rfl | constructor)))) | rfl | (simp only [get_same, ev]; done) | (simp [*, cellsA]; done) | (show V.a (A.d (D.slice _ _ _ _)) = V.a (A.d (D.slice _ _ _ _)); simp [*, cellsA]; done))) rfl ?_)) (by repeat (first | exact Pfx.nil | apply Pfx.cons)) (by first | rfl | (first | rfl | (simp only [Heap.set_set, List.length_append, List.length_nil, List.length_cons, List.length_map, List.length_singleton, Nat.zero_add]; done) | (simp [Heap.set_set, Nat.add_assoc]; done)) | (((funext n; simp only [Heap.set]; (repeat' split) <;> simp_all)) <;> first | rfl | exact ⟨rfl, rfl⟩))) (by unfold emptyB; rw [if_neg (by simp only [decide_eq_true_eq, decide_eq_false_iff_not] at *; omega), if_neg (by simp only [decide_eq_true_eq, decide_eq_false_iff_not] at *; omega), if_neg (by simp only [decide_eq_true_eq, decide_eq_false_iff_not] at *; omega)])
            · first
              | (cases hc4; done)
              | skip
              refine AWp.skip ?_
              first
              | (exfalso; simp only [decide_eq_true_eq, decide_eq_false_iff_not] at *; omega)
              | refine hK6 _ (decide (((T.fields.l.map Field.c).length : Int) = 0)) (Weak.to (by repeat (first | exact Keeps.nil | refine Keeps.c rfl rfl ?_ | refine Keeps.c (by (first | (first | rfl | ((conv => lhs; whnf); first | (simp [cellsA, faultsT, faultsD, namesD, Fault.mk_c, Nat.add_assoc, empty_append, Bool.and_assoc]; done) | (simp [cellsA, faultsT, faultsD, namesD, Nat.add_assoc, empty_append, Bool.and_assoc]; repeat (first | rfl | constructor)))) | rfl | (simp only [get_same, ev]; done) | (simp [*, cellsA]; done) | (show V.a (A.d (D.slice _ _ _ _)) = V.a (A.d (D.slice _ _ _ _)); simp [*, cellsA]; done))) rfl ?_)) (by repeat (first | exact Pfx.nil | apply Pfx.cons)) (by first | rfl | (first | rfl | (simp only [Heap.set_set, List.length_append, List.length_nil, List.length_cons, List.length_map, List.length_singleton, Nat.zero_add]; done) | (simp [Heap.set_set, Nat.add_assoc]; done)) | (((funext n; simp only [Heap.set]; (repeat' split) <;> simp_all)) <;> first | rfl | exact ⟨rfl, rfl⟩))) (by unfold emptyB; rw [list_empty]; rw [if_pos (by simp only [decide_eq_true_eq, decide_eq_false_iff_not] at *; omega)])
              | refine hK6 _ (decide (((T.members.l.map Member.c).length : Int) = 0)) (Weak.to (by repeat (first | exact Keeps.nil | refine Keeps.c rfl rfl ?_ | refine Keeps.c (by (first | (first | rfl | ((conv => lhs; whnf); first | (simp [cellsA, faultsT, faultsD, namesD, Fault.mk_c, Nat.add_assoc, empty_append, Bool.and_assoc]; done) | (simp [cellsA, faultsT, faultsD, namesD, Nat.add_assoc, empty_append, Bool.and_assoc]; repeat (first | rfl | constructor)))) | rfl | (simp only [get_same, ev]; done) | (simp [*, cellsA]; done) | (show V.a (A.d (D.slice _ _ _ _)) = V.a (A.d (D.slice _ _ _ _)); simp [*, cellsA]; done))) rfl ?_)) (by repeat (first | exact Pfx.nil | apply Pfx.cons)) (by first | rfl | (first | rfl | (simp only [Heap.set_set, List.length_append, List.length_nil, List.length_cons, List.length_map, List.length_singleton, Nat.zero_add]; done) | (simp [Heap.set_set, Nat.add_assoc]; done)) | (((funext n; simp only [Heap.set]; (repeat' split) <;> simp_all)) <;> first | rfl | exact ⟨rfl, rfl⟩))) (by unfold emptyB; rw [list_empty, if_neg (by simp only [decide_eq_true_eq, decide_eq_false_iff_not] at *; omega), if_pos (by simp only [decide_eq_true_eq, decide_eq_false_iff_not] at *; omega)])
              | refine hK6 _ (decide (((T.inputs.l.map Input.c).length : Int) = 0)) (Weak.to (by repeat (first | exact Keeps.nil | refine Keeps.c rfl rfl ?_ | refine Keeps.c (by (first | (first | rfl | ((conv => lhs; whnf); first | (simp [cellsA, faultsT, faultsD, namesD, Fault.mk_c, Nat.add_assoc, empty_append, Bool.and_assoc]; done) | (simp [cellsA, faultsT, faultsD, namesD, Nat.add_assoc, empty_append, Bool.and_assoc]; repeat (first | rfl | constructor)))) | rfl | (simp only [get_same, ev]; done) | (simp [*, cellsA]; done) | (show V.a (A.d (D.slice _ _ _ _)) = V.a (A.d (D.slice _ _ _ _)); simp [*, cellsA]; done))) rfl ?_)) (by repeat (first | exact Pfx.nil | apply Pfx.cons)) (by first | rfl | (first | rfl | (simp only [Heap.set_set, List.length_append, List.length_nil, List.length_cons, List.length_map, List.length_singleton, Nat.zero_add]; done) | (simp [Heap.set_set, Nat.add_assoc]; done)) | (((funext n; simp only [Heap.set]; (repeat' split) <;> simp_all)) <;> first | rfl | exact ⟨rfl, rfl⟩))) (by unfold emptyB; rw [list_empty, if_neg (by simp only [decide_eq_true_eq, decide_eq_false_iff_not] at *; omega), if_neg (by simp only [decide_eq_true_eq, decide_eq_false_iff_not] at *; omega), if_pos (by simp only [decide_eq_true_eq, decide_eq_false_iff_not] at *; omega)])
              | refine hK6 _ false (Weak.to (by repeat (first | exact Keeps.nil | refine Keeps.c rfl rfl ?_ | refine Keeps.c (by (first | (first | rfl | ((conv => lhs; whnf); first | (simp [cellsA, faultsT, faultsD, namesD, Fault.mk_c, Nat.add_assoc, empty_append, Bool.and_assoc]; done) | (simp [cellsA, faultsT, faultsD, namesD, Nat.add_assoc, empty_append, Bool.and_assoc]; repeat (first | rfl | constructor)))) | rfl | (simp only [get_same, ev]; done) | (simp [*, cellsA]; done) | (show V.a (A.d (D.slice _ _ _ _)) = V.a (A.d (D.slice _ _ _ _)); simp [*, cellsA]; done))) rfl ?_)) (by repeat (first | exact Pfx.nil | apply Pfx.cons)) (by first | rfl | (first | rfl | (simp only [Heap.set_set, List.length_append, List.length_nil, List.length_cons, List.length_map, List.length_singleton, Nat.zero_add]; done) | (simp [Heap.set_set, Nat.add_assoc]; done)) | (((funext n; simp only [Heap.set]; (repeat' split) <;> simp_all)) <;> first | rfl | exact ⟨rfl, rfl⟩))) (by unfold emptyB; rw [if_neg (by simp only [decide_eq_true_eq, decide_eq_false_iff_not] at *; omega), if_neg (by simp only [decide_eq_true_eq, decide_eq_false_iff_not] at *; omega), if_neg (by simp only [decide_eq_true_eq, decide_eq_false_iff_not] at *; omega)])
        · first
          | (cases hc2; done)
          | skip
          refine AWp.region ?_
          refine AOps.s0 (Cert.binI rfl rfl rfl) rfl ?_
          refine AOps.s0 (Cert.assign (by conv => lhs; whnf)) rfl ?_
          refine AOps.nil ?_
          refine hK14 _ ?_
          clear hK14 K14
          refine AWp.cond rfl (fun hc3 => ?_) (fun hc3 => ?_)
          · first
            | (cases hc3; done)
            | skip
            refine AWp.region ?_
            refine AOps.s0 (Cert.fieldV (Try.tab_ok _ _ rfl) rfl rfl (Try.tab_ok _ _ rfl) rfl rfl (by conv => lhs; whnf)) rfl ?_
            refine AOps.s0 (Cert.loadV (Try.tab_ok _ _ rfl) rfl rfl rfl) rfl ?_
            refine AOps.s0 (Cert.lenA (Try.tab_ok _ _ rfl) rfl rfl rfl) rfl ?_
            refine AOps.s0 (Cert.binI rfl rfl rfl) rfl ?_
            refine AOps.s0 (Cert.assign (by conv => lhs; whnf)) rfl ?_
            refine AOps.nil ?_
            first
            | (exfalso; simp only [decide_eq_true_eq, decide_eq_false_iff_not] at *; omega)
            | refine hK6 _ (decide (((T.fields.l.map Field.c).length : Int) = 0)) (Weak.to (by repeat (first | exact Keeps.nil | refine Keeps.c rfl rfl ?_ | refine Keeps.c (by (first | (first | rfl | ((conv => lhs; whnf); first | (simp [cellsA, faultsT, faultsD, namesD, Fault.mk_c, Nat.add_assoc, empty_append, Bool.and_assoc]; done) | (simp [cellsA, faultsT, faultsD, namesD, Nat.add_assoc, empty_append, Bool.and_assoc]; repeat (first | rfl | constructor)))) | rfl | (simp only [get_same, ev]; done) | (simp [*, cellsA]; done) | (show V.a (A.d (D.slice _ _ _ _)) = V.a (A.d (D.slice _ _ _ _)); simp [*, cellsA]; done))) rfl ?_)) (by repeat (first | exact Pfx.nil | apply Pfx.cons)) (by first | rfl | (first | rfl | (simp only [Heap.set_set, List.length_append, List.length_nil, List.length_cons, List.length_map, List.length_singleton, Nat.zero_add]; done) | (simp [Heap.set_set, Nat.add_assoc]; done)) | (((funext n; simp only [Heap.set]; (repeat' split) <;> simp_all)) <;> first | rfl | exact ⟨rfl, rfl⟩))) (by unfold emptyB; rw [list_empty]; rw [if_pos (by simp only [decide_eq_true_eq, decide_eq_false_iff_not] at *; omega)])
            | refine hK6 _ (decide (((T.members.l.map Member.c).length : Int) = 0)) (Weak.to (by repeat (first | exact Keeps.nil | refine Keeps.c rfl rfl ?_ | refine Keeps.c (by (first | (first | rfl | ((conv => lhs; whnf); first | (simp [cellsA, faultsT, faultsD, namesD, Fault.mk_c, Nat.add_assoc, empty_append, Bool.and_assoc]; done) | (simp [cellsA, faultsT, faultsD, namesD, Nat.add_assoc, empty_append, Bool.and_assoc]; repeat (first | rfl | constructor)))) | rfl | (simp only [get_same, ev]; done) | (simp [*, cellsA]; done) | (show V.a (A.d (D.slice _ _ _ _)) = V.a (A.d (D.slice _ _ _ _)); simp [*, cellsA]; done))) rfl ?_)) (by repeat (first | exact Pfx.nil | apply Pfx.cons)) (by first | rfl | (first | rfl | (simp only [Heap.set_set, List.length_append, List.length_nil, List.length_cons, List.length_map, List.length_singleton, Nat.zero_add]; done) | (simp [Heap.set_set, Nat.add_assoc]; done)) | (((funext n; simp only [Heap.set]; (repeat' split) <;> simp_all)) <;> first | rfl | exact ⟨rfl, rfl⟩))) (by unfold emptyB; rw [list_empty, if_neg (by simp only [decide_eq_true_eq, decide_eq_false_iff_not] at *; omega), if_pos (by simp only [decide_eq_true_eq, decide_eq_false_iff_not] at *; omega)])
            | refine hK6 _ (decide (((T.inputs.l.map Input.c).length : Int) = 0)) (Weak.to (by repeat (first | exact Keeps.nil | refine Keeps.c rfl rfl ?_ | refine Keeps.c (by (first | (first | rfl | ((conv => lhs; whnf); first | (simp [cellsA, faultsT, faultsD, namesD, Fault.mk_c, Nat.add_assoc, empty_append, Bool.and_assoc]; done) | (simp [cellsA, faultsT, faultsD, namesD, Nat.add_assoc, empty_append, Bool.and_assoc]; repeat (first | rfl | constructor)))) | rfl | (simp only [get_same, ev]; done) | (simp [*, cellsA]; done) | (show V.a (A.d (D.slice _ _ _ _)) = V.a (A.d (D.slice _ _ _ _)); simp [*, cellsA]; done))) rfl ?_)) (by repeat (first | exact Pfx.nil | apply Pfx.cons)) (by first | rfl | (first | rfl | (simp only [Heap.set_set, List.length_append, List.length_nil, List.length_cons, List.length_map, List.length_singleton, Nat.zero_add]; done) | (simp [Heap.set_set, Nat.add_assoc]; done)) | (((funext n; simp only [Heap.set]; (repeat' split) <;> simp_all)) <;> first | rfl | exact ⟨rfl, rfl⟩))) (by unfold emptyB; rw [list_empty, if_neg (by simp only [decide_eq_true_eq, decide_eq_false_iff_not] at *; omega), if_neg (by simp only [decide_eq_true_eq, decide_eq_false_iff_not] at *; omega), if_pos (by simp only [decide_eq_true_eq, decide_eq_false_iff_not] at *; omega)])
            | refine hK6 _ false (Weak.to (by repeat (first | exact Keeps.nil | refine Keeps.c rfl rfl ?_ | refine Keeps.c (by (first | (first | rfl | ((conv => lhs; whnf); first | (simp [cellsA, faultsT, faultsD, namesD, Fault.mk_c, Nat.add_assoc, empty_append, Bool.and_assoc]; done) | (simp [cellsA, faultsT, faultsD, namesD, Nat.add_assoc, empty_append, Bool.and_assoc]; repeat (first | rfl | constructor)))) | rfl | (simp only [get_same, ev]; done) | (simp [*, cellsA]; done) | (show V.a (A.d (D.slice _ _ _ _)) = V.a (A.d (D.slice _ _ _ _)); simp [*, cellsA]; done))) rfl ?_)) (by repeat (first | exact Pfx.nil | apply Pfx.cons)) (by first | rfl | (first | rfl | (simp only [Heap.set_set, List.length_append, List.length_nil, List.length_cons, List.length_map, List.length_singleton, Nat.zero_add]; done) | (simp [Heap.set_set, Nat.add_assoc]; done)) | (((funext n; simp only [Heap.set]; (repeat' split) <;> simp_all)) <;> first | rfl | exact ⟨rfl, rfl⟩))) (by unfold emptyB; rw [if_neg (by simp only [decide_eq_true_eq, decide_eq_false_iff_not] at *; omega), if_neg (by simp only [decide_eq_true_eq, decide_eq_false_iff_not] at *; omega), if_neg (by simp only [decide_eq_true_eq, decide_eq_false_iff_not] at *; omega)])
          · first
            | (cases hc3; done)
            | skip
            refine AWp.seqK fun K17 hK17 => ?_
            refine AWp.region ?_
            refine AOps.s0 (Cert.binI rfl rfl rfl) rfl ?_
            refine AOps.s0 (Cert.assign (by conv => lhs; whnf)) rfl ?_
            refine AOps.nil ?_
            refine hK17 _ ?_
            clear hK17 K17
            refine AWp.cond rfl (fun hc4 => ?_) (fun hc4 => ?_)
            · first
              | (cases hc4; done)
              | skip
              refine AWp.region ?_
              refine AOps.s0 (Cert.fieldV (Try.tab_ok _ _ rfl) rfl rfl (Try.tab_ok _ _ rfl) rfl rfl (by conv => lhs; whnf)) rfl ?_
              refine AOps.s0 (Cert.loadV (Try.tab_ok _ _ rfl) rfl rfl rfl) rfl ?_
              refine AOps.s0 (Cert.lenA (Try.tab_ok _ _ rfl) rfl rfl rfl) rfl ?_
              refine AOps.s0 (Cert.binI rfl rfl rfl) rfl ?_
              refine AOps.s0 (Cert.assign (by conv => lhs; whnf)) rfl ?_
              refine AOps.nil ?_
              first
              | (exfalso; simp only [decide_eq_true_eq, decide_eq_false_iff_not] at *; omega)
              | refine hK6 _ (decide (((T.fields.l.map Field.c).length : Int) = 0)) (Weak.to (by repeat (first | exact Keeps.nil | refine Keeps.c rfl rfl ?_ | refine Keeps.c (by (first | (first | rfl | ((conv => lhs; whnf); first | (simp [cellsA, faultsT, faultsD, namesD, Fault.mk_c, Nat.add_assoc, empty_append, Bool.and_assoc]; done) | (simp [cellsA, faultsT, faultsD, namesD, Nat.add_assoc, empty_append, Bool.and_assoc]; repeat (first | rfl | constructor)))) | rfl | (simp only [get_same, ev]; done) | (simp [*, cellsA]; done) | (show V.a (A.d (D.slice _ _ _ _)) = V.a (A.d (D.slice _ _ _ _)); simp [*, cellsA]; done))) rfl ?_)) (by repeat (first | exact Pfx.nil | apply Pfx.cons)) (by first | rfl | (first | rfl | (simp only [Heap.set_set, List.length_append, List.length_nil, List.length_cons, List.length_map, List.length_singleton, Nat.zero_add]; done) | (simp [Heap.set_set, Nat.add_assoc]; done)) | (((funext n; simp only [Heap.set]; (repeat' split) <;> simp_all)) <;> first | rfl | exact ⟨rfl, rfl⟩))) (by unfold emptyB; rw [list_empty]; rw [if_pos (by simp only [decide_eq_true_eq, decide_eq_false_iff_not] at *; omega)])
              | refine hK6 _ (decide (((T.members.l.map Member.c).length : Int) = 0)) (Weak.to (by repeat (first | exact Keeps.nil | refine Keeps.c rfl rfl ?_ | refine Keeps.c (by (first | (first | rfl | ((conv => lhs; whnf); first | (simp [cellsA, faultsT, faultsD, namesD, Fault.mk_c, Nat.add_assoc, empty_append, Bool.and_assoc]; done) | (simp [cellsA, faultsT, faultsD, namesD, Nat.add_assoc, empty_append, Bool.and_assoc]; repeat (first | rfl | constructor)))) | rfl | (simp only [get_same, ev]; done) | (simp [*, cellsA]; done) | (show V.a (A.d (D.slice _ _ _ _)) = V.a (A.d (D.slice _ _ _ _)); simp [*, cellsA]; done))) rfl ?_)) (by repeat (first | exact Pfx.nil | apply Pfx.cons)) (by first | rfl | (first | rfl | (simp only [Heap.set_set, List.length_append, List.length_nil, List.length_cons, List.length_map, List.length_singleton, Nat.zero_add]; done) | (simp [Heap.set_set, Nat.add_assoc]; done)) | (((funext n; simp only [Heap.set]; (repeat' split) <;> simp_all)) <;> first | rfl | exact ⟨rfl, rfl⟩))) (by unfold emptyB; rw [list_empty, if_neg (by simp only [decide_eq_true_eq, decide_eq_false_iff_not] at *; omega), if_pos (by simp only [decide_eq_true_eq, decide_eq_false_iff_not] at *; omega)])
              | refine hK6 _ (decide (((T.inputs.l.map Input.c).length : Int) = 0)) (Weak.to (by repeat (first | exact Keeps.nil | refine Keeps.c rfl rfl ?_ | refine Keeps.c (by (first | (first | rfl | ((conv => lhs; whnf); first | (simp [cellsA, faultsT, faultsD, namesD, Fault.mk_c, Nat.add_assoc, empty_append, Bool.and_assoc]; done) | (simp [cellsA, faultsT, faultsD, namesD, Nat.add_assoc, empty_append, Bool.and_assoc]; repeat (first | rfl | constructor)))) | rfl | (simp only [get_same, ev]; done) | (simp [*, cellsA]; done) | (show V.a (A.d (D.slice _ _ _ _)) = V.a (A.d (D.slice _ _ _ _)); simp [*, cellsA]; done))) rfl ?_)) (by repeat (first | exact Pfx.nil | apply Pfx.cons)) (by first | rfl | (first | rfl | (simp only [Heap.set_set, List.length_append, List.length_nil, List.length_cons, List.length_map, List.length_singleton, Nat.zero_add]; done) | (simp [Heap.set_set, Nat.add_assoc]; done)) | (((funext n; simp only [Heap.set]; (repeat' split) <;> simp_all)) <;> first | rfl | exact ⟨rfl, rfl⟩))) (by unfold emptyB; rw [list_empty, if_neg (by simp only [decide_eq_true_eq, decide_eq_false_iff_not] at *; omega), if_neg (by simp only [decide_eq_true_eq, decide_eq_false_iff_not] at *; omega), if_pos (by simp only [decide_eq_true_eq, decide_eq_false_iff_not] at *; omega)])
              | refine hK6 _ false (Weak.to (by repeat (first | exact Keeps.nil | refine Keeps.c rfl rfl ?_ | refine Keeps.c (by (first | (first | rfl | ((conv => lhs; whnf); first | (simp [cellsA, faultsT, faultsD, namesD, Fault.mk_c, Nat.add_assoc, empty_append, Bool.and_assoc]; done) | (simp [cellsA, faultsT, faultsD, namesD, Nat.add_assoc, empty_append, Bool.and_assoc]; repeat (first | rfl | constructor)))) | rfl | (simp only [get_same, ev]; done) | (simp [*, cellsA]; done) | (show V.a (A.d (D.slice _ _ _ _)) = V.a (A.d (D.slice _ _ _ _)); simp [*, cellsA]; done))) rfl ?_)) (by repeat (first | exact Pfx.nil | apply Pfx.cons)) (by first | rfl | (first | rfl | (simp only [Heap.set_set, List.length_append, List.length_nil, List.length_cons, List.length_map, List.length_singleton, Nat.zero_add]; done) | (simp [Heap.set_set, Nat.add_assoc]; done)) | (((funext n; simp only [Heap.set]; (repeat' split) <;> simp_all)) <;> first | rfl | exact ⟨rfl, rfl⟩))) (by unfold emptyB; rw [if_neg (by simp only [decide_eq_true_eq, decide_eq_false_iff_not] at *; omega), if_neg (by simp only [decide_eq_true_eq, decide_eq_false_iff_not] at *; omega), if_neg (by simp only [decide_eq_true_eq, decide_eq_false_iff_not] at *; omega)])
            · first
              | (cases hc4; done)
              | skip
              refine AWp.skip ?_
              first
              | (exfalso; simp only [decide_eq_true_eq, decide_eq_false_iff_not] at *; omega)
              | refine hK6 _ (decide (((T.fields.l.map Field.c).length : Int) = 0)) (Weak.to (by repeat (first | exact Keeps.nil | refine Keeps.c rfl rfl ?_ | refine Keeps.c (by (first | (first | rfl | ((conv => lhs; whnf); first | (simp [cellsA, faultsT, faultsD, namesD, Fault.mk_c, Nat.add_assoc, empty_append, Bool.and_assoc]; done) | (simp [cellsA, faultsT, faultsD, namesD, Nat.add_assoc, empty_append, Bool.and_assoc]; repeat (first | rfl | constructor)))) | rfl | (simp only [get_same, ev]; done) | (simp [*, cellsA]; done) | (show V.a (A.d (D.slice _ _ _ _)) = V.a (A.d (D.slice _ _ _ _)); simp [*, cellsA]; done))) rfl ?_)) (by repeat (first | exact Pfx.nil | apply Pfx.cons)) (by first | rfl | (first | rfl | (simp only [Heap.set_set, List.length_append, List.length_nil, List.length_cons, List.length_map, List.length_singleton, Nat.zero_add]; done) | (simp [Heap.set_set, Nat.add_assoc]; done)) | (((funext n; simp only [Heap.set]; (repeat' split) <;> simp_all)) <;> first | rfl | exact ⟨rfl, rfl⟩))) (by unfold emptyB; rw [list_empty]; rw [if_pos (by simp only [decide_eq_true_eq, decide_eq_false_iff_not] at *; omega)])
              | refine hK6 _ (decide (((T.members.l.map Member.c).length : Int) = 0)) (Weak.to (by repeat (first | exact Keeps.nil | refine Keeps.c rfl rfl ?_ | refine Keeps.c (by (first | (first | rfl | ((conv => lhs; whnf); first | (simp [cellsA, faultsT, faultsD, namesD, Fault.mk_c, Nat.add_assoc, empty_append, Bool.and_assoc]; done) | (simp [cellsA, faultsT, faultsD, namesD, Nat.add_assoc, empty_append, Bool.and_assoc]; repeat (first | rfl | constructor)))) | rfl | (simp only [get_same, ev]; done) | (simp [*, cellsA]; done) | (show V.a (A.d (D.slice _ _ _ _)) = V.a (A.d (D.slice _ _ _ _)); simp [*, cellsA]; done))) rfl ?_)) (by repeat (first | exact Pfx.nil | apply Pfx.cons)) (by first | rfl | (first | rfl | (simp only [Heap.set_set, List.length_append, List.length_nil, List.length_cons, List.length_map, List.length_singleton, Nat.zero_add]; done) | (simp [Heap.set_set, Nat.add_assoc]; done)) | (((funext n; simp only [Heap.set]; (repeat' split) <;> simp_all)) <;> first | rfl | exact ⟨rfl, rfl⟩))) (by unfold emptyB; rw [list_empty, if_neg (by simp only [decide_eq_true_eq, decide_eq_false_iff_not] at *; omega), if_pos (by simp only [decide_eq_true_eq, decide_eq_false_iff_not] at *; omega)])
              | refine hK6 _ (decide (((T.inputs.l.map Input.c).length : Int) = 0)) (Weak.to (by repeat (first | exact Keeps.nil | refine Keeps.c rfl rfl ?_ | refine Keeps.c (by (first | (first | rfl | ((conv => lhs; whnf); first | (simp [cellsA, faultsT, faultsD, namesD, Fault.mk_c, Nat.add_assoc, empty_append, Bool.and_assoc]; done) | (simp [cellsA, faultsT, faultsD, namesD, Nat.add_assoc, empty_append, Bool.and_assoc]; repeat (first | rfl | constructor)))) | rfl | (simp only [get_same, ev]; done) | (simp [*, cellsA]; done) | (show V.a (A.d (D.slice _ _ _ _)) = V.a (A.d (D.slice _ _ _ _)); simp [*, cellsA]; done))) rfl ?_)) (by repeat (first | exact Pfx.nil | apply Pfx.cons)) (by first | rfl | (first | rfl | (simp only [Heap.set_set, List.length_append, List.length_nil, List.length_cons, List.length_map, List.length_singleton, Nat.zero_add]; done) | (simp [Heap.set_set, Nat.add_assoc]; done)) | (((funext n; simp only [Heap.set]; (repeat' split) <;> simp_all)) <;> first | rfl | exact ⟨rfl, rfl⟩))) (by unfold emptyB; rw [list_empty, if_neg (by simp only [decide_eq_true_eq, decide_eq_false_iff_not] at *; omega), if_neg (by simp only [decide_eq_true_eq, decide_eq_false_iff_not] at *; omega), if_pos (by simp only [decide_eq_true_eq, decide_eq_false_iff_not] at *; omega)])
              | refine hK6 _ false (Weak.to (by repeat (first | exact Keeps.nil | refine Keeps.c rfl rfl ?_ | refine Keeps.c (by (first | (first | rfl | ((conv => lhs; whnf); first | (simp [cellsA, faultsT, faultsD, namesD, Fault.mk_c, Nat.add_assoc, empty_append, Bool.and_assoc]; done) | (simp [cellsA, faultsT, faultsD, namesD, Nat.add_assoc, empty_append, Bool.and_assoc]; repeat (first | rfl | constructor)))) | rfl | (simp only [get_same, ev]; done) | (simp [*, cellsA]; done) | (show V.a (A.d (D.slice _ _ _ _)) = V.a (A.d (D.slice _ _ _ _)); simp [*, cellsA]; done))) rfl ?_)) (by repeat (first | exact Pfx.nil | apply Pfx.cons)) (by first | rfl | (first | rfl | (simp only [Heap.set_set, List.length_append, List.length_nil, List.length_cons, List.length_map, List.length_singleton, Nat.zero_add]; done) | (simp [Heap.set_set, Nat.add_assoc]; done)) | (((funext n; simp only [Heap.set]; (repeat' split) <;> simp_all)) <;> first | rfl | exact ⟨rfl, rfl⟩))) (by unfold emptyB; rw [if_neg (by simp only [decide_eq_true_eq, decide_eq_false_iff_not] at *; omega), if_neg (by simp only [decide_eq_true_eq, decide_eq_false_iff_not] at *; omega), if_neg (by simp only [decide_eq_true_eq, decide_eq_false_iff_not] at *; omega)])
  · rintro _ rfl
    refine AWp.seqK fun K18 hK18 => ?_
    refine AWp.region ?_
    refine AOps.s0 (Cert.move (by conv => lhs; whnf)) rfl ?_
    refine AOps.s0 (Cert.move (by conv => lhs; whnf)) rfl ?_
    refine AOps.s0 (Cert.fieldV (Try.tab_ok _ _ rfl) rfl rfl (Try.tab_ok _ _ rfl) rfl rfl (by conv => lhs; whnf)) rfl ?_
    refine AOps.s0 (Cert.loadV (Try.tab_ok _ _ rfl) rfl rfl rfl) rfl ?_
    refine AOps.sH (Cert.callH rfl rfl (sch_add d c tk hne (after2 F T.name.1 (S.contains T.name.1 || scalar T.name.1)) (by have := after2_len F T.name.1 (S.contains T.name.1 || scalar T.name.1); omega) (emptyB T) 8 T.name.1 (H.set m (some (.map (seenM (insS S T.name.1))))))) rfl ?_
    refine AOps.nil ?_
    refine hK18 _ ?_
    clear hK18 K18
    refine AWp.seqK fun K19 hK19 => ?_
    refine AWp.region ?_
    refine AOps.s0 (Cert.fieldV (Try.tab_ok _ _ rfl) rfl rfl (Try.tab_ok _ _ rfl) rfl rfl (by conv => lhs; whnf)) rfl ?_
    refine AOps.s0 (Cert.loadV (Try.tab_ok _ _ rfl) rfl rfl rfl) rfl ?_
    refine AOps.s0 (Cert.binS rfl rfl rfl) rfl ?_
    refine AOps.s0 (Cert.move (by conv => lhs; whnf)) rfl ?_
    refine AOps.gC rfl rfl (fun hC => Cert.fieldV (Try.tab_ok _ _ rfl) rfl rfl (Try.tab_ok _ _ rfl) rfl rfl (by conv => lhs; whnf)) rfl ?_
    refine AOps.gC rfl rfl (fun hC => Cert.ungd (k := 77) rfl (by first | exact hC | exact andL hC | exact andL (andL hC) | exact andL (andL (andL hC)) | exact andR hC | simp_all) (Cert.loadV (Try.tab_ok _ _ rfl) rfl rfl rfl)) rfl ?_
    refine AOps.gC rfl rfl (fun hC => Cert.ungd (k := 78) rfl (by first | exact hC | exact andL hC | exact andL (andL hC) | exact andL (andL (andL hC)) | exact andR hC | simp_all) (Cert.binS rfl rfl rfl)) rfl ?_
    refine AOps.s0 (Cert.pickOr rfl rfl rfl (fun h => by first | exact h | exact notT h | exact andI hC h | exact andI hC (notT h) | simp_all)) rfl ?_
    refine AOps.s0 (Cert.move (by conv => lhs; whnf)) rfl ?_
    refine AOps.gC rfl rfl (fun hC => Cert.fieldV (Try.tab_ok _ _ rfl) rfl rfl (Try.tab_ok _ _ rfl) rfl rfl (by conv => lhs; whnf)) rfl ?_
    refine AOps.gC rfl rfl (fun hC => Cert.ungd (k := 82) rfl (by first | exact hC | exact andL hC | exact andL (andL hC) | exact andL (andL (andL hC)) | exact andR hC | simp_all) (Cert.loadV (Try.tab_ok _ _ rfl) rfl rfl rfl)) rfl ?_
    refine AOps.gC rfl rfl (fun hC => Cert.ungd (k := 83) rfl (by first | exact hC | exact andL hC | exact andL (andL hC) | exact andL (andL (andL hC)) | exact andR hC | simp_all) (Cert.binS rfl rfl rfl)) rfl ?_
    refine AOps.s0 (Cert.pickOr rfl rfl rfl (fun h => by first | exact h | exact notT h | exact andI hC h | exact andI hC (notT h) | simp_all)) rfl ?_
    refine AOps.s0 (Cert.assign (by conv => lhs; whnf)) rfl ?_
    refine AOps.nil ?_
    refine hK19 _ ?_
    clear hK19 K19
    refine AWp.seqK fun K20 hK20 => ?_
    refine AWp.region ?_
    refine AOps.s0 (Cert.move (by conv => lhs; whnf)) rfl ?_
    refine AOps.s0 (Cert.move (by conv => lhs; whnf)) rfl ?_
    refine AOps.s0 (Cert.move (by conv => lhs; whnf)) rfl ?_
    refine AOps.gC rfl rfl (fun hC => Cert.fieldV (Try.tab_ok _ _ rfl) rfl rfl (Try.tab_ok _ _ rfl) rfl rfl (by conv => lhs; whnf)) rfl ?_
    refine AOps.gC rfl rfl (fun hC => Cert.ungd (k := 89) rfl (by first | exact hC | exact andL hC | exact andL (andL hC) | exact andL (andL (andL hC)) | exact andR hC | simp_all) (Cert.loadV (Try.tab_ok _ _ rfl) rfl rfl rfl)) rfl ?_
    refine AOps.gC rfl rfl (fun hC => Cert.ungd (k := 90) rfl (by first | exact hC | exact andL hC | exact andL (andL hC) | exact andL (andL (andL hC)) | exact andR hC | simp_all) (Cert.binI rfl rfl rfl)) rfl ?_
    refine AOps.s0 (Cert.pickAnd rfl rfl (fun h => by first | exact h | exact notT h | exact andI hC h | exact andI hC (notT h) | simp_all) rfl) rfl ?_
    refine AOps.s0 (Cert.move (by conv => lhs; whnf)) rfl ?_
    refine AOps.gC rfl rfl (fun hC => Cert.fieldV (Try.tab_ok _ _ rfl) rfl rfl (Try.tab_ok _ _ rfl) rfl rfl (by conv => lhs; whnf)) rfl ?_
    refine AOps.gC rfl rfl (fun hC => Cert.ungd (k := 94) rfl (by first | exact hC | exact andL hC | exact andL (andL hC) | exact andL (andL (andL hC)) | exact andR hC | simp_all) (Cert.loadV (Try.tab_ok _ _ rfl) rfl rfl rfl)) rfl ?_
    refine AOps.gC rfl rfl (fun hC => Cert.ungd (k := 95) rfl (by first | exact hC | exact andL hC | exact andL (andL hC) | exact andL (andL (andL hC)) | exact andR hC | simp_all) (Cert.binI rfl rfl rfl)) rfl ?_
    refine AOps.s0 (Cert.pickOr rfl rfl rfl (fun h => by first | exact h | exact notT h | exact andI hC h | exact andI hC (notT h) | simp_all)) rfl ?_
    refine AOps.s0 (Cert.move (by conv => lhs; whnf)) rfl ?_
    refine AOps.gC rfl rfl (fun hC => Cert.fieldV (Try.tab_ok _ _ rfl) rfl rfl (Try.tab_ok _ _ rfl) rfl rfl (by conv => lhs; whnf)) rfl ?_
    refine AOps.gC rfl rfl (fun hC => Cert.ungd (k := 99) rfl (by first | exact hC | exact andL hC | exact andL (andL hC) | exact andL (andL (andL hC)) | exact andR hC | simp_all) (Cert.loadV (Try.tab_ok _ _ rfl) rfl rfl rfl)) rfl ?_
    refine AOps.gC rfl rfl (fun hC => Cert.ungd (k := 100) rfl (by first | exact hC | exact andL hC | exact andL (andL hC) | exact andL (andL (andL hC)) | exact andR hC | simp_all) (Cert.binI rfl rfl rfl)) rfl ?_
    refine AOps.s0 (Cert.pickOr rfl rfl rfl (fun h => by first | exact h | exact notT h | exact andI hC h | exact andI hC (notT h) | simp_all)) rfl ?_
    refine AOps.s0 (Cert.fieldV (Try.tab_ok _ _ rfl) rfl rfl (Try.tab_ok _ _ rfl) rfl rfl (by conv => lhs; whnf)) rfl ?_
    refine AOps.s0 (Cert.loadV (Try.tab_ok _ _ rfl) rfl rfl rfl) rfl ?_
    refine AOps.sH (Cert.callH rfl rfl (sch_add d c tk hne (after3 F T.name.1 (S.contains T.name.1 || scalar T.name.1) (emptyB T)) (by have := after3_len F T.name.1 (S.contains T.name.1 || scalar T.name.1) (emptyB T); omega) (kindBad T) 9 T.name.1 (H.set m (some (.map (seenM (insS S T.name.1))))))) rfl ?_
    refine AOps.nil ?_
    refine hK20 _ ?_
    clear hK20 K20
    refine AWp.seqK fun K21 hK21 => ?_
    refine AWp.draw rfl ?_
    refine DOps.s0 (Cert.move (by conv => lhs; whnf)) rfl ?_
    refine DOps.s0 (Cert.fieldV (Try.tab_ok _ _ rfl) rfl rfl (Try.tab_ok _ _ rfl) rfl rfl (by conv => lhs; whnf)) rfl ?_
    refine DOps.s0 (Cert.loadV (Try.tab_ok _ _ rfl) rfl rfl rfl) rfl ?_
    refine DOps.s0 (Cert.binI rfl rfl rfl) rfl ?_
    refine DOps.s0 (Cert.move (by conv => lhs; whnf)) rfl ?_
    refine DOps.gC rfl rfl (fun hC => Cert.move (by conv => lhs; whnf)) rfl ?_
    refine DOps.gC rfl rfl (fun hC => Cert.loadV (Try.tab_ok _ _ rfl) rfl rfl rfl) rfl ?_
    refine DOps.gC rfl rfl (fun hC => Cert.ungd (k := 111) rfl (by first | exact hC | exact andL hC | exact andL (andL hC) | exact andL (andL (andL hC)) | exact andR hC | simp_all) (Cert.ungd (k := 112) rfl (by first | exact hC | exact andL hC | exact andL (andL hC) | exact andL (andL (andL hC)) | exact andR hC | simp_all) (Cert.callR rfl rfl (sch_loops d T c tk (after4 F T.name.1 (S.contains T.name.1 || scalar T.name.1) (emptyB T) (kindBad T)) (H.set m (some (.map (seenM (insS S T.name.1))))) hne)))) rfl ?_
    refine DOps.s0 (Cert.pickAnd rfl rfl (fun h => by first | exact h | exact notT h | exact andI hC h | exact andI hC (notT h) | simp_all) rfl) rfl ?_
    refine DOps.s0 (Cert.fieldV (Try.tab_ok _ _ rfl) rfl rfl (Try.tab_ok _ _ rfl) rfl rfl (by conv => lhs; whnf)) rfl ?_
    refine DOps.s0 (Cert.loadV (Try.tab_ok _ _ rfl) rfl rfl rfl) rfl ?_
    refine DOps.sH (Cert.callH rfl rfl (sch_add d c tk hne (after4 F T.name.1 (S.contains T.name.1 || scalar T.name.1) (emptyB T) (kindBad T)) (by have := after4_len F T.name.1 (S.contains T.name.1 || scalar T.name.1) (emptyB T) (kindBad T); omega) (decide (T.kind = 5) && reachB d T) 5 T.name.1 (H.set m (some (.map (seenM (insS S T.name.1))))))) rfl ?_
    refine DOps.nil (by decide +kernel) ?_
    refine hK21 _ ?_
    clear hK21 K21
    refine AWp.seqK fun K22 hK22 => ?_
    refine AWp.region ?_
    have hl5 := after5_len F T.name.1 (S.contains T.name.1 || scalar T.name.1) (emptyB T) (kindBad T) (decide (T.kind = 5) && reachB d T)
    have hw5 := after5_whole d i T F S (hS _)
    refine AOps.s0 (Cert.fieldV (Try.tab_ok _ _ rfl) rfl rfl (Try.tab_ok _ _ rfl) rfl rfl (by conv => lhs; whnf)) rfl ?_
    refine AOps.s0 (Cert.loadV (Try.tab_ok _ _ rfl) rfl rfl rfl) rfl ?_
    refine AOps.nil ?_
    refine hK22 _ ?_
    clear hK22 K22
    refine AWp.block ?_
    refine AWp.seqK fun K23 hK23 => ?_
    refine AWp.seqK fun K24 hK24 => ?_
    refine AWp.region ?_
    refine AOps.s0 (Cert.binI rfl rfl rfl) rfl ?_
    refine AOps.s0 (Cert.assign (by conv => lhs; whnf)) rfl ?_
    refine AOps.nil ?_
    refine hK24 _ ?_
    clear hK24 K24
    refine AWp.cond rfl (fun hc5 => ?_) (fun hc5 => ?_)
    · first
      | (cases hc5; done)
      | skip
      refine AWp.skip ?_
      refine hK23 _ ?_
      clear hK23 K23
      refine AWp.cond rfl (fun hc6 => ?_) (fun hc6 => ?_)
      · first
        | (cases hc6; done)
        | skip
        refine AWp.region ?_
        refine AOps.s0 (Cert.move (by conv => lhs; whnf)) rfl ?_
        refine AOps.s0 (Cert.loadV (Try.tab_ok _ _ rfl) rfl rfl rfl) rfl ?_
        refine AOps.sH (Cert.callH rfl rfl (sch_fields d c tk hne T (hs.fields T hTm) (hs.args T hTm) (after5 F T.name.1 (S.contains T.name.1 || scalar T.name.1) (emptyB T) (kindBad T) (decide (T.kind = 5) && reachB d T)) (by omega) (H.set m (some (.map (seenM (insS S T.name.1))))))) rfl ?_
        refine AOps.nil ?_
        repeat (first | refine xBlock_normal ?_ | refine xThen_exit ?_ | refine xBlock_exit ?_)
        refine retQ.normal (xs := []) rfl ⟨rfl, ?_⟩
        rw [← List.append_assoc, ← hw5]
        unfold partF
        first
        | (exfalso; simp only [decide_eq_true_eq, decide_eq_false_iff_not] at *; omega)
        | (rw [if_pos (by simp only [decide_eq_true_eq, decide_eq_false_iff_not] at *; omega)] <;> rfl)
        | (rw [if_neg (by simp only [decide_eq_true_eq, decide_eq_false_iff_not] at *; omega), if_pos (by simp only [decide_eq_true_eq, decide_eq_false_iff_not] at *; omega)] <;> rfl)
        | (rw [if_neg (by simp only [decide_eq_true_eq, decide_eq_false_iff_not] at *; omega), if_neg (by simp only [decide_eq_true_eq, decide_eq_false_iff_not] at *; omega), if_pos (by simp only [decide_eq_true_eq, decide_eq_false_iff_not] at *; omega)] <;> rfl)
        | (rw [if_neg (by simp only [decide_eq_true_eq, decide_eq_false_iff_not] at *; omega), if_neg (by simp only [decide_eq_true_eq, decide_eq_false_iff_not] at *; omega), if_neg (by simp only [decide_eq_true_eq, decide_eq_false_iff_not] at *; omega), List.append_nil] <;> rfl)
      · first
        | (cases hc6; done)
        | skip
        refine AWp.seqK fun K25 hK25 => ?_
        refine AWp.region ?_
        refine AOps.s0 (Cert.binI rfl rfl rfl) rfl ?_
        refine AOps.s0 (Cert.assign (by conv => lhs; whnf)) rfl ?_
        refine AOps.nil ?_
        refine hK25 _ ?_
        clear hK25 K25
        refine AWp.cond rfl (fun hc7 => ?_) (fun hc7 => ?_)
        · first
          | (cases hc7; done)
          | skip
          refine AWp.region ?_
          refine AOps.s0 (Cert.move (by conv => lhs; whnf)) rfl ?_
          refine AOps.s0 (Cert.loadV (Try.tab_ok _ _ rfl) rfl rfl rfl) rfl ?_
          refine AOps.sH (Cert.callH rfl rfl (sch_members d c tk hne T (hs.members T hTm) (after5 F T.name.1 (S.contains T.name.1 || scalar T.name.1) (emptyB T) (kindBad T) (decide (T.kind = 5) && reachB d T)) (by omega) (H.set m (some (.map (seenM (insS S T.name.1))))))) rfl ?_
          refine AOps.nil ?_
          repeat (first | refine xBlock_normal ?_ | refine xThen_exit ?_ | refine xBlock_exit ?_)
          refine retQ.normal (xs := []) rfl ⟨rfl, ?_⟩
          rw [← List.append_assoc, ← hw5]
          unfold partF
          first
          | (exfalso; simp only [decide_eq_true_eq, decide_eq_false_iff_not] at *; omega)
          | (rw [if_pos (by simp only [decide_eq_true_eq, decide_eq_false_iff_not] at *; omega)] <;> rfl)
          | (rw [if_neg (by simp only [decide_eq_true_eq, decide_eq_false_iff_not] at *; omega), if_pos (by simp only [decide_eq_true_eq, decide_eq_false_iff_not] at *; omega)] <;> rfl)
          | (rw [if_neg (by simp only [decide_eq_true_eq, decide_eq_false_iff_not] at *; omega), if_neg (by simp only [decide_eq_true_eq, decide_eq_false_iff_not] at *; omega), if_pos (by simp only [decide_eq_true_eq, decide_eq_false_iff_not] at *; omega)] <;> rfl)
          | (rw [if_neg (by simp only [decide_eq_true_eq, decide_eq_false_iff_not] at *; omega), if_neg (by simp only [decide_eq_true_eq, decide_eq_false_iff_not] at *; omega), if_neg (by simp only [decide_eq_true_eq, decide_eq_false_iff_not] at *; omega), List.append_nil] <;> rfl)
        · first
          | (cases hc7; done)
          | skip
          refine AWp.seqK fun K26 hK26 => ?_
          refine AWp.region ?_
          refine AOps.s0 (Cert.binI rfl rfl rfl) rfl ?_
          refine AOps.s0 (Cert.assign (by conv => lhs; whnf)) rfl ?_
          refine AOps.nil ?_
          refine hK26 _ ?_
          clear hK26 K26
          refine AWp.cond rfl (fun hc8 => ?_) (fun hc8 => ?_)
          · first
            | (cases hc8; done)
            | skip
            refine AWp.region ?_
            refine AOps.s0 (Cert.move (by conv => lhs; whnf)) rfl ?_
            refine AOps.s0 (Cert.fieldV (Try.tab_ok _ _ rfl) rfl rfl (Try.tab_ok _ _ rfl) rfl rfl (by conv => lhs; whnf)) rfl ?_
            refine AOps.s0 (Cert.loadV (Try.tab_ok _ _ rfl) rfl rfl rfl) rfl ?_
            refine AOps.s0 (Cert.fieldV (Try.tab_ok _ _ rfl) rfl rfl (Try.tab_ok _ _ rfl) rfl rfl (by conv => lhs; whnf)) rfl ?_
            refine AOps.s0 (Cert.loadV (Try.tab_ok _ _ rfl) rfl rfl rfl) rfl ?_
            refine AOps.s0 (Cert.concat rfl rfl (by first | omega | (show _ ≤ 4611686018427387904; simp only [List.length_append, List.length_cons, List.length_nil]; omega))) rfl ?_
            refine AOps.sH (Cert.callH rfl rfl (sch_inputs d c tk hne _ T.inputs.l (hs.inputs T hTm) (T.name.1 ++ dot) [] (by simp [dot]; omega) (by decide) (after5 F T.name.1 (S.contains T.name.1 || scalar T.name.1) (emptyB T) (kindBad T) (decide (T.kind = 5) && reachB d T)) (by omega) (H.set m (some (.map (seenM (insS S T.name.1))))))) rfl ?_
            refine AOps.nil ?_
            repeat (first | refine xBlock_normal ?_ | refine xThen_exit ?_ | refine xBlock_exit ?_)
            refine retQ.normal (xs := []) rfl ⟨rfl, ?_⟩
            rw [← List.append_assoc, ← hw5]
            unfold partF
            first
            | (exfalso; simp only [decide_eq_true_eq, decide_eq_false_iff_not] at *; omega)
            | (rw [if_pos (by simp only [decide_eq_true_eq, decide_eq_false_iff_not] at *; omega)] <;> rfl)
            | (rw [if_neg (by simp only [decide_eq_true_eq, decide_eq_false_iff_not] at *; omega), if_pos (by simp only [decide_eq_true_eq, decide_eq_false_iff_not] at *; omega)] <;> rfl)
            | (rw [if_neg (by simp only [decide_eq_true_eq, decide_eq_false_iff_not] at *; omega), if_neg (by simp only [decide_eq_true_eq, decide_eq_false_iff_not] at *; omega), if_pos (by simp only [decide_eq_true_eq, decide_eq_false_iff_not] at *; omega)] <;> rfl)
            | (rw [if_neg (by simp only [decide_eq_true_eq, decide_eq_false_iff_not] at *; omega), if_neg (by simp only [decide_eq_true_eq, decide_eq_false_iff_not] at *; omega), if_neg (by simp only [decide_eq_true_eq, decide_eq_false_iff_not] at *; omega), List.append_nil] <;> rfl)
          · first
            | (cases hc8; done)
            | skip
            refine AWp.skip ?_
            repeat (first | refine xBlock_normal ?_ | refine xThen_exit ?_ | refine xBlock_exit ?_)
            refine retQ.normal (xs := []) rfl ⟨rfl, ?_⟩
            rw [← List.append_assoc, ← hw5]
            unfold partF
            first
            | (exfalso; simp only [decide_eq_true_eq, decide_eq_false_iff_not] at *; omega)
            | (rw [if_pos (by simp only [decide_eq_true_eq, decide_eq_false_iff_not] at *; omega)] <;> rfl)
            | (rw [if_neg (by simp only [decide_eq_true_eq, decide_eq_false_iff_not] at *; omega), if_pos (by simp only [decide_eq_true_eq, decide_eq_false_iff_not] at *; omega)] <;> rfl)
            | (rw [if_neg (by simp only [decide_eq_true_eq, decide_eq_false_iff_not] at *; omega), if_neg (by simp only [decide_eq_true_eq, decide_eq_false_iff_not] at *; omega), if_pos (by simp only [decide_eq_true_eq, decide_eq_false_iff_not] at *; omega)] <;> rfl)
            | (rw [if_neg (by simp only [decide_eq_true_eq, decide_eq_false_iff_not] at *; omega), if_neg (by simp only [decide_eq_true_eq, decide_eq_false_iff_not] at *; omega), if_neg (by simp only [decide_eq_true_eq, decide_eq_false_iff_not] at *; omega), List.append_nil] <;> rfl)
    · first
      | (cases hc5; done)
      | skip
      refine AWp.region ?_
      refine AOps.s0 (Cert.binI rfl rfl rfl) rfl ?_
      refine AOps.s0 (Cert.assign (by conv => lhs; whnf)) rfl ?_
      refine AOps.nil ?_
      refine hK23 _ ?_
      clear hK23 K23
      refine AWp.cond rfl (fun hc6 => ?_) (fun hc6 => ?_)
      · first
        | (cases hc6; done)
        | skip
        refine AWp.region ?_
        refine AOps.s0 (Cert.move (by conv => lhs; whnf)) rfl ?_
        refine AOps.s0 (Cert.loadV (Try.tab_ok _ _ rfl) rfl rfl rfl) rfl ?_
        refine AOps.sH (Cert.callH rfl rfl (sch_fields d c tk hne T (hs.fields T hTm) (hs.args T hTm) (after5 F T.name.1 (S.contains T.name.1 || scalar T.name.1) (emptyB T) (kindBad T) (decide (T.kind = 5) && reachB d T)) (by omega) (H.set m (some (.map (seenM (insS S T.name.1))))))) rfl ?_
        refine AOps.nil ?_
        repeat (first | refine xBlock_normal ?_ | refine xThen_exit ?_ | refine xBlock_exit ?_)
        refine retQ.normal (xs := []) rfl ⟨rfl, ?_⟩
        rw [← List.append_assoc, ← hw5]
        unfold partF
        first
        | (exfalso; simp only [decide_eq_true_eq, decide_eq_false_iff_not] at *; omega)
        | (rw [if_pos (by simp only [decide_eq_true_eq, decide_eq_false_iff_not] at *; omega)] <;> rfl)
        | (rw [if_neg (by simp only [decide_eq_true_eq, decide_eq_false_iff_not] at *; omega), if_pos (by simp only [decide_eq_true_eq, decide_eq_false_iff_not] at *; omega)] <;> rfl)
        | (rw [if_neg (by simp only [decide_eq_true_eq, decide_eq_false_iff_not] at *; omega), if_neg (by simp only [decide_eq_true_eq, decide_eq_false_iff_not] at *; omega), if_pos (by simp only [decide_eq_true_eq, decide_eq_false_iff_not] at *; omega)] <;> rfl)
        | (rw [if_neg (by simp only [decide_eq_true_eq, decide_eq_false_iff_not] at *; omega), if_neg (by simp only [decide_eq_true_eq, decide_eq_false_iff_not] at *; omega), if_neg (by simp only [decide_eq_true_eq, decide_eq_false_iff_not] at *; omega), List.append_nil] <;> rfl)
      · first
        | (cases hc6; done)
        | skip
        refine AWp.seqK fun K27 hK27 => ?_
        refine AWp.region ?_
        refine AOps.s0 (Cert.binI rfl rfl rfl) rfl ?_
        refine AOps.s0 (Cert.assign (by conv => lhs; whnf)) rfl ?_
        refine AOps.nil ?_
        refine hK27 _ ?_
        clear hK27 K27
        refine AWp.cond rfl (fun hc7 => ?_) (fun hc7 => ?_)
        · first
          | (cases hc7; done)
          | skip
          refine AWp.region ?_
          refine AOps.s0 (Cert.move (by conv => lhs; whnf)) rfl ?_
          refine AOps.s0 (Cert.loadV (Try.tab_ok _ _ rfl) rfl rfl rfl) rfl ?_
          refine AOps.sH (Cert.callH rfl rfl (sch_members d c tk hne T (hs.members T hTm) (after5 F T.name.1 (S.contains T.name.1 || scalar T.name.1) (emptyB T) (kindBad T) (decide (T.kind = 5) && reachB d T)) (by omega) (H.set m (some (.map (seenM (insS S T.name.1))))))) rfl ?_
          refine AOps.nil ?_
          repeat (first | refine xBlock_normal ?_ | refine xThen_exit ?_ | refine xBlock_exit ?_)
          refine retQ.normal (xs := []) rfl ⟨rfl, ?_⟩
          rw [← List.append_assoc, ← hw5]
          unfold partF
          first
          | (exfalso; simp only [decide_eq_true_eq, decide_eq_false_iff_not] at *; omega)
          | (rw [if_pos (by simp only [decide_eq_true_eq, decide_eq_false_iff_not] at *; omega)] <;> rfl)
          | (rw [if_neg (by simp only [decide_eq_true_eq, decide_eq_false_iff_not] at *; omega), if_pos (by simp only [decide_eq_true_eq, decide_eq_false_iff_not] at *; omega)] <;> rfl)
          | (rw [if_neg (by simp only [decide_eq_true_eq, decide_eq_false_iff_not] at *; omega), if_neg (by simp only [decide_eq_true_eq, decide_eq_false_iff_not] at *; omega), if_pos (by simp only [decide_eq_true_eq, decide_eq_false_iff_not] at *; omega)] <;> rfl)
          | (rw [if_neg (by simp only [decide_eq_true_eq, decide_eq_false_iff_not] at *; omega), if_neg (by simp only [decide_eq_true_eq, decide_eq_false_iff_not] at *; omega), if_neg (by simp only [decide_eq_true_eq, decide_eq_false_iff_not] at *; omega), List.append_nil] <;> rfl)
        · first
          | (cases hc7; done)
          | skip
          refine AWp.seqK fun K28 hK28 => ?_
          refine AWp.region ?_
          refine AOps.s0 (Cert.binI rfl rfl rfl) rfl ?_
          refine AOps.s0 (Cert.assign (by conv => lhs; whnf)) rfl ?_
          refine AOps.nil ?_
          refine hK28 _ ?_
          clear hK28 K28
          refine AWp.cond rfl (fun hc8 => ?_) (fun hc8 => ?_)
          · first
            | (cases hc8; done)
            | skip
            refine AWp.region ?_
            refine AOps.s0 (Cert.move (by conv => lhs; whnf)) rfl ?_
            refine AOps.s0 (Cert.fieldV (Try.tab_ok _ _ rfl) rfl rfl (Try.tab_ok _ _ rfl) rfl rfl (by conv => lhs; whnf)) rfl ?_
            refine AOps.s0 (Cert.loadV (Try.tab_ok _ _ rfl) rfl rfl rfl) rfl ?_
            refine AOps.s0 (Cert.fieldV (Try.tab_ok _ _ rfl) rfl rfl (Try.tab_ok _ _ rfl) rfl rfl (by conv => lhs; whnf)) rfl ?_
            refine AOps.s0 (Cert.loadV (Try.tab_ok _ _ rfl) rfl rfl rfl) rfl ?_
            refine AOps.s0 (Cert.concat rfl rfl (by first | omega | (show _ ≤ 4611686018427387904; simp only [List.length_append, List.length_cons, List.length_nil]; omega))) rfl ?_
            refine AOps.sH (Cert.callH rfl rfl (sch_inputs d c tk hne _ T.inputs.l (hs.inputs T hTm) (T.name.1 ++ dot) [] (by simp [dot]; omega) (by decide) (after5 F T.name.1 (S.contains T.name.1 || scalar T.name.1) (emptyB T) (kindBad T) (decide (T.kind = 5) && reachB d T)) (by omega) (H.set m (some (.map (seenM (insS S T.name.1))))))) rfl ?_
            refine AOps.nil ?_
            repeat (first | refine xBlock_normal ?_ | refine xThen_exit ?_ | refine xBlock_exit ?_)
            refine retQ.normal (xs := []) rfl ⟨rfl, ?_⟩
            rw [← List.append_assoc, ← hw5]
            unfold partF
            first
            | (exfalso; simp only [decide_eq_true_eq, decide_eq_false_iff_not] at *; omega)
            | (rw [if_pos (by simp only [decide_eq_true_eq, decide_eq_false_iff_not] at *; omega)] <;> rfl)
            | (rw [if_neg (by simp only [decide_eq_true_eq, decide_eq_false_iff_not] at *; omega), if_pos (by simp only [decide_eq_true_eq, decide_eq_false_iff_not] at *; omega)] <;> rfl)
            | (rw [if_neg (by simp only [decide_eq_true_eq, decide_eq_false_iff_not] at *; omega), if_neg (by simp only [decide_eq_true_eq, decide_eq_false_iff_not] at *; omega), if_pos (by simp only [decide_eq_true_eq, decide_eq_false_iff_not] at *; omega)] <;> rfl)
            | (rw [if_neg (by simp only [decide_eq_true_eq, decide_eq_false_iff_not] at *; omega), if_neg (by simp only [decide_eq_true_eq, decide_eq_false_iff_not] at *; omega), if_neg (by simp only [decide_eq_true_eq, decide_eq_false_iff_not] at *; omega), List.append_nil] <;> rfl)
          · first
            | (cases hc8; done)
            | skip
            refine AWp.skip ?_
            repeat (first | refine xBlock_normal ?_ | refine xThen_exit ?_ | refine xBlock_exit ?_)
            refine retQ.normal (xs := []) rfl ⟨rfl, ?_⟩
            rw [← List.append_assoc, ← hw5]
            unfold partF
            first
            | (exfalso; simp only [decide_eq_true_eq, decide_eq_false_iff_not] at *; omega)
            | (rw [if_pos (by simp only [decide_eq_true_eq, decide_eq_false_iff_not] at *; omega)] <;> rfl)
            | (rw [if_neg (by simp only [decide_eq_true_eq, decide_eq_false_iff_not] at *; omega), if_pos (by simp only [decide_eq_true_eq, decide_eq_false_iff_not] at *; omega)] <;> rfl)
            | (rw [if_neg (by simp only [decide_eq_true_eq, decide_eq_false_iff_not] at *; omega), if_neg (by simp only [decide_eq_true_eq, decide_eq_false_iff_not] at *; omega), if_pos (by simp only [decide_eq_true_eq, decide_eq_false_iff_not] at *; omega)] <;> rfl)
            | (rw [if_neg (by simp only [decide_eq_true_eq, decide_eq_false_iff_not] at *; omega), if_neg (by simp only [decide_eq_true_eq, decide_eq_false_iff_not] at *; omega), if_neg (by simp only [decide_eq_true_eq, decide_eq_false_iff_not] at *; omega), List.append_nil] <;> rfl)
end Go.Proofs


namespace Go.Proofs
open Go Go.Ab Go.Ab.Sch
theorem seen_step (d : Doc) (i : Nat) (T : Def) (hi : d.defs.l[i]? = some T) (S : List (List UInt8)) (hS : ∀ n, S.contains n = seenB d i n) (n : List UInt8) : (insS S T.name.1).contains n = seenB d (i + 1) n := by
  obtain ⟨h1, h2⟩ := List.getElem?_eq_some_iff.1 hi
  rw [insS_mem, seenB_succ _ _ _ h1, hS, h2]
theorem checkF_at (d : Doc) (i : Nat) (T : Def) (hi : d.defs.l[i]? = some T) : checkF d (i + 1) = checkF d i ++ (wholeF d i T ++ partF d T) := by
  obtain ⟨h1, h2⟩ := List.getElem?_eq_some_iff.1 hi
  rw [checkF_succ]; unfold defF; rw [getD_eq _ i h1, h2]
theorem ck_drop {d : Doc} {tk : Nat} {F : List Fault} {j : J} {w : World} {cs : List Value} (hx : All2 (DRel j w) [d.defs.d 7 Def.c, faultsT tk F] cs) : All2 (DRel j w) [d.defs.d 7 Def.c, faultsD F] cs := by
  cases hx with
  | cons h1 h2 => cases h2 with
    | cons h3 h4 => exact .cons h1 (.cons (slice_dropTok j w _ h3) h4)
set_option maxRecDepth 100000 in
set_option maxHeartbeats 2000000 in
theorem sch_Check (d : Doc) (hs : Small d) (need : Bool) (H : Heap) :
    ACalls Try.prog 11 [.agg d.c, .d (.bool need)] H fun r h' => r = .a (.d (faultsD (checkAll d need))) ∧ h' = H := by
  refine ACalls.of_wp (fn := Try.f11) (c := _) Try.tab_ok (fun _ _ => Try.call11 _ _) Try.func11 rfl (n := 41) rfl (rs := [.tmp 4]) rfl rfl ?_
  have hd := hs.defs
  refine AWp.tok 2 fun tk htk => ?_
  refine AWp.seqK fun K1 hK1 => ?_
  refine AWp.region ?_
  refine AOps.s0 (Cert.boxV rfl) rfl ?_
  refine AOps.s0 (Cert.assign (by conv => lhs; whnf)) rfl ?_
  refine AOps.nil ?_
  refine hK1 _ ?_
  clear hK1 K1
  refine AWp.seqK fun K2 hK2 => ?_
  refine AWp.region ?_
  refine AOps.s0 (Cert.loadV (Try.tab_ok _ _ rfl) rfl rfl rfl) rfl ?_
  refine AOps.s0 (Cert.build Try.tab_ok rfl rfl rfl rfl rfl rfl) rfl ?_
  refine AOps.sE (StepE.boxO rfl) rfl (fun _ _ _ ⟨id12, hid12, e1, e2, e3⟩ => ?_); subst e1 e2 e3
  refine AOps.s0 (Cert.assign (by conv => lhs; whnf)) rfl ?_
  refine AOps.nil ?_
  refine hK2 _ ?_
  clear hK2 K2
  have hne : tk ≠ id12 := fun e => by rw [← e, Heap.set_same] at hid12; cases hid12
  refine AWp.recell id12 [d.defs.d 7 Def.c, faultsT tk []] (Heap.set_same _ _ _) (fun j w cs hh hx => ?_) ?_
  · cases hx with
    | cons h1 h2 => cases h2 with
      | cons h3 h4 => exact .cons h1 (.cons ((AsArg.nil (k := 2) (k' := 2) (h := (H.set tk (some (.tok 2 0))).set id12 _) (by (first | assumption | exact Heap.set_same _ _ _ | ((repeat (refine (Heap.set_other _ _ (by first | assumption | (apply Ne.symm; assumption))).trans ?_)); first | assumption | exact Heap.set_same _ _ _) | (simp only [Heap.set_set, Heap.set_same]; done) | (simp [Heap.set, *]; done)))).rel hh h3) h4)
  refine AWp.heq (h' := ck H id12 tk d []) (by rw [Heap.set_set]; rfl) ?_
  refine AWp.seqK fun K3 hK3 => ?_
  refine AWp.region ?_
  refine AOps.sE StepE.makeMap rfl (fun _ _ _ ⟨id13, hid13, e1, e2, e3⟩ => ?_); subst e1 e2 e3
  refine AOps.s0 (Cert.assign (by conv => lhs; whnf)) rfl ?_
  refine AOps.nil ?_
  refine hK3 _ ?_
  clear hK3 K3
  refine AWp.seqK fun K4 hK4 => ?_
  refine AWp.seqK fun K5 hK5 => ?_
  refine AWp.region ?_
  obtain ⟨hmc, hmt, hmn⟩ := dh_new hid13
  refine AOps.s0 (Cert.fieldV (Try.tab_ok _ _ rfl) rfl rfl (Try.tab_ok _ _ rfl) rfl rfl (by conv => lhs; whnf)) rfl ?_
  refine AOps.s0 (Cert.loadV (Try.tab_ok _ _ rfl) rfl rfl rfl) rfl ?_
  refine AOps.s0 (Cert.lenA (Try.tab_ok _ _ rfl) rfl rfl rfl) rfl ?_
  refine AOps.s0 (Cert.move (by conv => lhs; whnf)) rfl ?_
  refine AOps.nil ?_
  refine hK5 _ ?_
  clear hK5 K5
  refine AWp.block ?_
  refine AWp.loopH (KeepsT.cons (k := 1) (by conv => lhs; whnf) (KeepsT.cons (k := 2) (by conv => lhs; whnf) (KeepsT.cons (k := 5) (by conv => lhs; whnf) (KeepsT.cons (k := 6) (by conv => lhs; whnf) (KeepsT.cons (k := 16) (by conv => lhs; whnf) KeepsT.nil))))) (fun (x : Nat × List (List UInt8) × List Fault) => [(17, .a (.d (.int .i64 x.1)))]) (fun x => dh H id12 tk id13 d x.2.2 x.2.1)
    (fun x => d.defs.l.length - x.1) (fun x => x.1 ≤ d.defs.l.length ∧ (∀ n, x.2.1.contains n = seenB d x.1 n) ∧ x.2.2 = checkF d x.1) (0, [], []) ⟨Nat.zero_le _, fun _ => rfl, rfl⟩ (Weak.to (by repeat (first | exact Keeps.nil | refine Keeps.c rfl rfl ?_ | refine Keeps.c (by (first | (first | rfl | ((conv => lhs; whnf); first | (simp [cellsA, faultsT, faultsD, namesD, Fault.mk_c, Nat.add_assoc, empty_append, Bool.and_assoc]; done) | (simp [cellsA, faultsT, faultsD, namesD, Nat.add_assoc, empty_append, Bool.and_assoc]; repeat (first | rfl | constructor)))) | rfl | (simp only [get_same, ev]; done) | (simp [*, cellsA]; done) | (show V.a (A.d (D.slice _ _ _ _)) = V.a (A.d (D.slice _ _ _ _)); simp [*, cellsA]; done))) rfl ?_)) (by repeat (first | exact Pfx.nil | apply Pfx.cons)) (by first | rfl | (first | rfl | (simp only [Heap.set_set, List.length_append, List.length_nil, List.length_cons, List.length_map, List.length_singleton, Nat.zero_add]; done) | (simp [Heap.set_set, Nat.add_assoc]; done)) | (((funext n; simp only [Heap.set]; (repeat' split) <;> simp_all)) <;> first | rfl | exact ⟨rfl, rfl⟩))) ?_
  rintro ⟨i, S, F⟩ ⟨hi, hS, hF⟩ K6 hK6
  dsimp only at hi hS hF
  have hl := checkF_len d hs i hi
  rw [← hF] at hl
  refine AWp.seqK fun K7 hK7 => ?_
  refine AWp.region ?_
  refine AOps.s0 (Cert.binI rfl rfl rfl) rfl ?_
  refine AOps.nil ?_
  refine hK7 _ ?_
  clear hK7 K7
  refine AWp.seqK fun K8 hK8 => ?_
  refine AWp.cond rfl (fun hc0 => ?_) (fun hc0 => ?_)
  · first
    | (cases hc0; done)
    | skip
    refine AWp.skip ?_
    refine hK8 _ ?_
    clear hK8 K8
    refine AWp.seqK fun K9 hK9 => ?_
    refine AWp.block ?_
    refine AWp.seqK fun K10 hK10 => ?_
    refine AWp.region ?_
    have hi3 : i < d.defs.l.length := map_lt hc0
    have hi4 : d.defs.l[i]? = some (d.defs.l[i]'hi3) := List.getElem?_eq_getElem hi3
    refine AOps.s0 (Cert.move (by conv => lhs; whnf)) rfl ?_
    refine AOps.s0 (Cert.assign (by conv => lhs; whnf)) rfl ?_
    refine AOps.nil ?_
    refine hK10 _ ?_
    clear hK10 K10
    refine AWp.region ?_
    refine AOps.s0 (Cert.move (by conv => lhs; whnf)) rfl ?_
    refine AOps.s0 (Cert.move (by conv => lhs; whnf)) rfl ?_
    refine AOps.s0 (Cert.move (by conv => lhs; whnf)) rfl ?_
    refine AOps.sH (Cert.callH rfl rfl (sch_def d hs id12 tk id13 hne hmc hmt i _ hi4 F (by omega) S hS H)) rfl ?_
    refine AOps.nil ?_
    refine hK9 _ ?_
    clear hK9 K9
    refine AWp.region ?_
    refine AOps.s0 (Cert.addI rfl rfl (by first | omega | (dsimp only; omega)) (by first | omega | (dsimp only; omega))) rfl ?_
    refine AOps.s0 (Cert.move (by conv => lhs; whnf)) rfl ?_
    refine AOps.nil ?_
    refine hK6 _ (i + 1, insS S (d.defs.l[i]'hi3).name.1, F ++ (wholeF d i (d.defs.l[i]'hi3) ++ partF d (d.defs.l[i]'hi3))) (Weak.to (by repeat (first | exact Keeps.nil | refine Keeps.c rfl rfl ?_ | refine Keeps.c (by (first | (first | rfl | ((conv => lhs; whnf); first | (simp [cellsA, faultsT, faultsD, namesD, Fault.mk_c, Nat.add_assoc, empty_append, Bool.and_assoc]; done) | (simp [cellsA, faultsT, faultsD, namesD, Nat.add_assoc, empty_append, Bool.and_assoc]; repeat (first | rfl | constructor)))) | rfl | (simp only [get_same, ev]; done) | (simp [*, cellsA]; done) | (show V.a (A.d (D.slice _ _ _ _)) = V.a (A.d (D.slice _ _ _ _)); simp [*, cellsA]; done))) rfl ?_)) (by repeat (first | exact Pfx.nil | apply Pfx.cons)) (by first | rfl | (first | rfl | (simp only [Heap.set_set, List.length_append, List.length_nil, List.length_cons, List.length_map, List.length_singleton, Nat.zero_add]; done) | (simp [Heap.set_set, Nat.add_assoc]; done)) | (((funext n; simp only [Heap.set]; (repeat' split) <;> simp_all)) <;> first | rfl | exact ⟨rfl, rfl⟩))) ⟨hi3, seen_step d i _ hi4 S hS, ?_⟩ (by dsimp only; omega)
    dsimp only
    rw [checkF_at d i _ hi4, hF]
  · first
    | (cases hc0; done)
    | skip
    refine AWp.exit ?_
    refine hK4 _ ?_
    clear hK8 K8 hK6 K6 hK4 K4
    refine AWp.seqK fun K11 hK11 => ?_
    refine AWp.seqK fun K12 hK12 => ?_
    refine AWp.region ?_
    refine AOps.s0 (Cert.loadV (Try.tab_ok _ _ rfl) rfl rfl rfl) rfl ?_
    refine AOps.s0 (Cert.callP rfl rfl (sch_Find d _)) rfl ?_
    refine AOps.s0 (Cert.move (by conv => lhs; whnf)) rfl ?_
    refine AOps.s0 (Cert.extract rfl rfl) rfl ?_
    refine AOps.s0 (Cert.extract rfl rfl) rfl ?_
    refine AOps.sL (Cert.allocL (Try.tab_ok _ _ rfl) rfl (by repeat (first | exact Snoc.nil | apply Snoc.cons))) rfl ?_
    refine AOps.sLn (Cert.storeLF (Try.tab_ok _ _ rfl) rfl rfl rfl rfl rfl (by repeat (first | exact SetAt.zero | apply SetAt.succ))) ?_
    refine AOps.s0 (Cert.assign (by conv => lhs; whnf)) rfl ?_
    refine AOps.nil ?_
    refine hK12 _ ?_
    clear hK12 K12
    refine AWp.freeze 8 _ rfl (by repeat (first | exact Snoc.nil | apply Snoc.cons)) (Keeps.c (k := 1) (by conv => lhs; whnf) (by rfl) (Keeps.c (k := 5) (by conv => lhs; whnf) (by rfl) (Keeps.c (k := 9) (by conv => lhs; whnf) (by rfl) Keeps.nil))) ?_
    refine AWp.seqK fun K13 hK13 => ?_
    refine AWp.region ?_
    refine AOps.s0 (Cert.move (by conv => lhs; whnf)) rfl ?_
    refine AOps.s0 (Cert.move (by conv => lhs; whnf)) rfl ?_
    refine AOps.gC rfl rfl (fun hC => Cert.move (by conv => lhs; whnf)) rfl ?_
    refine AOps.gC rfl rfl (fun hC => Cert.ungd (k := 32) rfl (by first | exact hC | exact andL hC | exact andL (andL hC) | exact andL (andL (andL hC)) | exact andR hC | simp_all) (Cert.notB rfl)) rfl ?_
    refine AOps.s0 (Cert.pickAnd rfl rfl (fun h => by first | exact h | exact notT h | exact andI hC h | exact andI hC (notT h) | simp_all) rfl) rfl ?_
    refine AOps.nil ?_
    refine hK13 _ ?_
    clear hK13 K13
    refine AWp.cond rfl (fun hc1 => ?_) (fun hc1 => ?_)
    · first
      | (cases hc1; done)
      | skip
      refine AWp.region ?_
      refine AOps.s0 (Cert.move (by conv => lhs; whnf)) rfl ?_
      refine AOps.sH (Cert.callH rfl rfl (sch_add d id12 tk hne F (by omega) true 30 sQuery (H.set id13 (some (.map (seenM S)))))) rfl ?_
      refine AOps.nil ?_
      refine hK11 _ ?_
      clear hK11 K11
      have hlen : i = d.defs.l.length := Nat.le_antisymm hi (map_ge hc0)
      first
      | refine AWp.recell id12 [d.defs.d 7 Def.c, faultsD (F ++ one true 30 sQuery)] (Heap.set_same _ _ _) (fun j w cs _ hx => ck_drop (tk := tk) (F := F ++ one true 30 sQuery) hx) ?_
      | refine AWp.recell id12 [d.defs.d 7 Def.c, faultsD F] (Heap.set_same _ _ _) (fun j w cs _ hx => ck_drop (tk := tk) (F := F) hx) ?_
      refine AWp.seqK fun K14 hK14 => ?_
      refine AWp.region ?_
      refine AOps.s0 (Cert.move (by conv => lhs; whnf)) rfl ?_
      refine AOps.s0 (Cert.nilP rfl) rfl ?_
      refine AOps.s0 (Cert.fieldP (Try.tab_ok _ _ rfl) rfl rfl (Try.tab_ok _ _ rfl) rfl rfl) rfl ?_
      refine AOps.s0 (Cert.loadP (Try.tab_ok _ _ rfl) rfl rfl (by (first | assumption | exact Heap.set_same _ _ _ | ((repeat (refine (Heap.set_other _ _ (by first | assumption | (apply Ne.symm; assumption))).trans ?_)); first | assumption | exact Heap.set_same _ _ _) | (simp only [Heap.set_set, Heap.set_same]; done) | (simp [Heap.set, *]; done))) rfl) rfl ?_
      refine AOps.s0 (Cert.assign (by conv => lhs; whnf)) rfl ?_
      refine AOps.nil ?_
      refine hK14 _ ?_
      clear hK14 K14
      refine AWp.ret ?_
      repeat (first | refine xBlock_ret ?_ | refine xThen_ret ?_)
      refine retQ.retF H rfl ⟨?_, rfl⟩ ?_
      · have h3 : (need && !(find d.defs.l sQuery).isSome) = _ := hc1
        unfold checkAll
        rw [h3, ← hlen, ← hF]
        first
        | rfl
        | (show V.a (A.d (faultsD F)) = _; simp [one])
      · intro id o he
        have e1 : id ≠ tk := fun e => by rw [e, htk] at he; cases he
        have e2 : id ≠ id13 := fun e => by rw [e, hmn] at he; cases he
        have e3 : id ≠ id12 := fun e => by
          rw [Heap.set_other _ _ (Ne.symm hne)] at hid12
          rw [e, hid12] at he; cases he
        rw [← he]
        simp [Heap.set, e1, e2, e3]
    · first
      | (cases hc1; done)
      | skip
      refine AWp.skip ?_
      refine hK11 _ ?_
      clear hK11 K11
      have hlen : i = d.defs.l.length := Nat.le_antisymm hi (map_ge hc0)
      first
      | refine AWp.recell id12 [d.defs.d 7 Def.c, faultsD (F ++ one true 30 sQuery)] (Heap.set_same _ _ _) (fun j w cs _ hx => ck_drop (tk := tk) (F := F ++ one true 30 sQuery) hx) ?_
      | refine AWp.recell id12 [d.defs.d 7 Def.c, faultsD F] (Heap.set_same _ _ _) (fun j w cs _ hx => ck_drop (tk := tk) (F := F) hx) ?_
      refine AWp.seqK fun K15 hK15 => ?_
      refine AWp.region ?_
      refine AOps.s0 (Cert.move (by conv => lhs; whnf)) rfl ?_
      refine AOps.s0 (Cert.nilP rfl) rfl ?_
      refine AOps.s0 (Cert.fieldP (Try.tab_ok _ _ rfl) rfl rfl (Try.tab_ok _ _ rfl) rfl rfl) rfl ?_
      refine AOps.s0 (Cert.loadP (Try.tab_ok _ _ rfl) rfl rfl (by (first | assumption | exact Heap.set_same _ _ _ | ((repeat (refine (Heap.set_other _ _ (by first | assumption | (apply Ne.symm; assumption))).trans ?_)); first | assumption | exact Heap.set_same _ _ _) | (simp only [Heap.set_set, Heap.set_same]; done) | (simp [Heap.set, *]; done))) rfl) rfl ?_
      refine AOps.s0 (Cert.assign (by conv => lhs; whnf)) rfl ?_
      refine AOps.nil ?_
      refine hK15 _ ?_
      clear hK15 K15
      refine AWp.ret ?_
      repeat (first | refine xBlock_ret ?_ | refine xThen_ret ?_)
      refine retQ.retF H rfl ⟨?_, rfl⟩ ?_
      · have h3 : (need && !(find d.defs.l sQuery).isSome) = _ := hc1
        unfold checkAll
        rw [h3, ← hlen, ← hF]
        first
        | rfl
        | (show V.a (A.d (faultsD F)) = _; simp [one])
      · intro id o he
        have e1 : id ≠ tk := fun e => by rw [e, htk] at he; cases he
        have e2 : id ≠ id13 := fun e => by rw [e, hmn] at he; cases he
        have e3 : id ≠ id12 := fun e => by
          rw [Heap.set_other _ _ (Ne.symm hne)] at hid12
          rw [e, hid12] at he; cases he
        rw [← he]
        simp [Heap.set, e1, e2, e3]
end Go.Proofs

