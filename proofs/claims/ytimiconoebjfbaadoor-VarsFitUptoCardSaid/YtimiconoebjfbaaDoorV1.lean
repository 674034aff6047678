import Derived.Test.YtimiconoebjfbaaDoorE3
import Derived.Test.YtimiconoebjfbaaDoorTab
set_option maxRecDepth 100000
set_option maxHeartbeats 2000000
set_option linter.unusedVariables false
set_option linter.unusedSimpArgs false
namespace Go.Proofs
open Go Go.Ab
structure TRef where
 FName : Bs
 FWraps : (Sl Int)
noncomputable def TRef.c (x : TRef) : List D := [.str x.FName, Sl.d 1 (intE .i64) none x.FWraps]
def TRef.zero : TRef := ⟨([] : Bs), (Sl.nil : Sl Int)⟩
inductive TValue where
 | mk (FKind : Int) (FInt : Int) (FText : Bs) (FItems_nl : Bool) (FItems_l : List TValue) (FKeys : (Sl Bs))
def TValue.FKind : TValue → Int | .mk x _ _ _ _ _ => x
def TValue.FInt : TValue → Int | .mk _ x _ _ _ _ => x
def TValue.FText : TValue → Bs | .mk _ _ x _ _ _ => x
def TValue.FItems : TValue → (Sl TValue) | .mk _ _ _ nl l _ => ⟨nl, l⟩
def TValue.FKeys : TValue → (Sl Bs) | .mk _ _ _ _ _ x => x
noncomputable def TValue.FItemsD : TValue → D := @TValue.rec (fun _ => D) (fun _ => List (List D)) (fun _ _ _ nl _ _ ih => .slice 5 none nl ih) [] (fun v _ ih ihl => ((intE .i64) v.FKind ++ (intE .i64) v.FInt ++ strE v.FText ++ [ih] ++ (fun s => [Sl.d 1 strE none s]) v.FKeys) :: ihl)
noncomputable def TValue.c (v : TValue) : List D := (intE .i64) v.FKind ++ (intE .i64) v.FInt ++ strE v.FText ++ [v.FItemsD] ++ (fun s => [Sl.d 1 strE none s]) v.FKeys
theorem TValue.FItemsD_eq (v : TValue) : v.FItemsD = Sl.d 5 TValue.c none v.FItems := by
 cases v with
 | mk y_Kind y_Int y_Text nl l y_Keys =>
  show D.slice 5 none nl _ = D.slice 5 none nl (l.map TValue.c)
  congr 1
  induction l with
  | nil => rfl
  | cons a r ih => exact congrArg (TValue.c a :: ·) ih
def TValue.zero : TValue := .mk (0 : Int) (0 : Int) ([] : Bs) true [] (Sl.nil : Sl Bs)
structure TVar where
 FName : Bs
 FType : TRef
 FHas : Bool
 FDefault : TValue
noncomputable def TVar.c (x : TVar) : List D := strE x.FName ++ TRef.c x.FType ++ boolE x.FHas ++ TValue.c x.FDefault
def TVar.zero : TVar := ⟨([] : Bs), TRef.zero, false, TValue.zero⟩
structure TArg where
 FName : Bs
 FValue : TValue
noncomputable def TArg.c (x : TArg) : List D := strE x.FName ++ TValue.c x.FValue
def TArg.zero : TArg := ⟨([] : Bs), TValue.zero⟩
structure TDir where
 FName : Bs
 FArgs : (Sl TArg)
noncomputable def TDir.c (x : TDir) : List D := [.str x.FName, Sl.d 6 TArg.c none x.FArgs]
def TDir.zero : TDir := ⟨([] : Bs), (Sl.nil : Sl TArg)⟩
inductive TSel where
 | mk (FKind : Int) (FAlias : Bs) (FName : Bs) (FOn : Bs) (FArgs : (Sl TArg)) (FDirs : (Sl TDir)) (FSels_nl : Bool) (FSels_l : List TSel)
def TSel.FKind : TSel → Int | .mk x _ _ _ _ _ _ _ => x
def TSel.FAlias : TSel → Bs | .mk _ x _ _ _ _ _ _ => x
def TSel.FName : TSel → Bs | .mk _ _ x _ _ _ _ _ => x
def TSel.FOn : TSel → Bs | .mk _ _ _ x _ _ _ _ => x
def TSel.FArgs : TSel → (Sl TArg) | .mk _ _ _ _ x _ _ _ => x
def TSel.FDirs : TSel → (Sl TDir) | .mk _ _ _ _ _ x _ _ => x
def TSel.FSels : TSel → (Sl TSel) | .mk _ _ _ _ _ _ nl l => ⟨nl, l⟩
noncomputable def TSel.FSelsD : TSel → D := @TSel.rec (fun _ => D) (fun _ => List (List D)) (fun _ _ _ _ _ _ nl _ ih => .slice 7 none nl ih) [] (fun v _ ih ihl => ((intE .i64) v.FKind ++ strE v.FAlias ++ strE v.FName ++ strE v.FOn ++ (fun s => [Sl.d 6 TArg.c none s]) v.FArgs ++ (fun s => [Sl.d 2 TDir.c none s]) v.FDirs ++ [ih]) :: ihl)
noncomputable def TSel.c (v : TSel) : List D := (intE .i64) v.FKind ++ strE v.FAlias ++ strE v.FName ++ strE v.FOn ++ (fun s => [Sl.d 6 TArg.c none s]) v.FArgs ++ (fun s => [Sl.d 2 TDir.c none s]) v.FDirs ++ [v.FSelsD]
theorem TSel.FSelsD_eq (v : TSel) : v.FSelsD = Sl.d 7 TSel.c none v.FSels := by
 cases v with
 | mk y_Kind y_Alias y_Name y_On y_Args y_Dirs nl l =>
  show D.slice 7 none nl _ = D.slice 7 none nl (l.map TSel.c)
  congr 1
  induction l with
  | nil => rfl
  | cons a r ih => exact congrArg (TSel.c a :: ·) ih
def TSel.zero : TSel := .mk (0 : Int) ([] : Bs) ([] : Bs) ([] : Bs) (Sl.nil : Sl TArg) (Sl.nil : Sl TDir) true []
structure TOp where
 FKind : Int
 FName : Bs
 FVars : (Sl TVar)
 FSels : (Sl TSel)
noncomputable def TOp.c (x : TOp) : List D := [.int .i64 x.FKind, .str x.FName, Sl.d 9 TVar.c none x.FVars, Sl.d 7 TSel.c none x.FSels]
def TOp.zero : TOp := ⟨(0 : Int), ([] : Bs), (Sl.nil : Sl TVar), (Sl.nil : Sl TSel)⟩
structure TFrag where
 FName : Bs
 FOn : Bs
 FSels : (Sl TSel)
noncomputable def TFrag.c (x : TFrag) : List D := [.str x.FName, .str x.FOn, Sl.d 7 TSel.c none x.FSels]
def TFrag.zero : TFrag := ⟨([] : Bs), ([] : Bs), (Sl.nil : Sl TSel)⟩
structure TQuery where
 FOps : (Sl TOp)
 FFrags : (Sl TFrag)
noncomputable def TQuery.c (x : TQuery) : List D := [Sl.d 4 TOp.c none x.FOps, Sl.d 3 TFrag.c none x.FFrags]
def TQuery.zero : TQuery := ⟨(Sl.nil : Sl TOp), (Sl.nil : Sl TFrag)⟩
structure TInput where
 FName : Bs
 FType : TRef
 FHas : Bool
 FDefault : TValue
 FDirs : (Sl TDir)
noncomputable def TInput.c (x : TInput) : List D := strE x.FName ++ TRef.c x.FType ++ boolE x.FHas ++ TValue.c x.FDefault ++ (fun s => [Sl.d 2 TDir.c none s]) x.FDirs
def TInput.zero : TInput := ⟨([] : Bs), TRef.zero, false, TValue.zero, (Sl.nil : Sl TDir)⟩
structure TField where
 FName : Bs
 FArgs : (Sl TInput)
 FType : TRef
 FDirs : (Sl TDir)
noncomputable def TField.c (x : TField) : List D := strE x.FName ++ (fun s => [Sl.d 10 TInput.c none s]) x.FArgs ++ TRef.c x.FType ++ (fun s => [Sl.d 2 TDir.c none s]) x.FDirs
def TField.zero : TField := ⟨([] : Bs), (Sl.nil : Sl TInput), TRef.zero, (Sl.nil : Sl TDir)⟩
structure TMember where
 FName : Bs
 FDirs : (Sl TDir)
noncomputable def TMember.c (x : TMember) : List D := [.str x.FName, Sl.d 2 TDir.c none x.FDirs]
def TMember.zero : TMember := ⟨([] : Bs), (Sl.nil : Sl TDir)⟩
structure TDef where
 FKind : Int
 FName : Bs
 FImplements : (Sl Bs)
 FDirs : (Sl TDir)
 FFields : (Sl TField)
 FMembers : (Sl TMember)
 FInputs : (Sl TInput)
noncomputable def TDef.c (x : TDef) : List D := [.int .i64 x.FKind, .str x.FName, Sl.d 1 strE none x.FImplements, Sl.d 2 TDir.c none x.FDirs, Sl.d 5 TField.c none x.FFields, Sl.d 2 TMember.c none x.FMembers, Sl.d 10 TInput.c none x.FInputs]
def TDef.zero : TDef := ⟨(0 : Int), ([] : Bs), (Sl.nil : Sl Bs), (Sl.nil : Sl TDir), (Sl.nil : Sl TField), (Sl.nil : Sl TMember), (Sl.nil : Sl TInput)⟩
structure TDoc where
 FDefs : (Sl TDef)
noncomputable def TDoc.c (x : TDoc) : List D := [Sl.d 7 TDef.c none x.FDefs]
def TDoc.zero : TDoc := ⟨(Sl.nil : Sl TDef)⟩
structure TFault where
 FErr : Int
 FAt : Bs
def TFault.c (x : TFault) : List D := [.int .i64 x.FErr, .str x.FAt]
def TFault.zero : TFault := ⟨(0 : Int), ([] : Bs)⟩
structure Vars_checker where
 Fd : TDoc
 Fvars : (Sl TVar)
 Fout : (Sl TFault)
noncomputable def Vars_checker.c (x : Vars_checker) : List D := TDoc.c x.Fd ++ (fun s => [Sl.d 9 TVar.c none s]) x.Fvars ++ (fun s => [Sl.d 2 TFault.c none s]) x.Fout
def Vars_checker.zero : Vars_checker := ⟨TDoc.zero, (Sl.nil : Sl TVar), (Sl.nil : Sl TFault)⟩
noncomputable def Vars_checker.cg (t2 : Option Nat) (x : Vars_checker) : List D := TDoc.c x.Fd ++ (fun s => [Sl.d 9 TVar.c none s]) x.Fvars ++ [Sl.d 2 TFault.c t2 x.Fout]
end Go.Proofs

namespace Go.Proofs
open Go Go.Ab Go.RowKit
section
variable {H : Type} {B : DataW H → Nat} (hB : Bulk B)
noncomputable def TRef.sz (x : TRef) : Nat := Bs.sz x.FName + ((Sl.sz (fun _ => 1)) x.FWraps + (0))
def TRef.wf (x : TRef) : Prop := (fun _ => True) x.FName ∧ ((Sl.wf i64) x.FWraps ∧ (True))
include hB in
theorem rd_TRef_32 : ∀ N, RdN Tryd.prog B N 32 TRef.c TRef.sz TRef.wf := RdA.struct hB (Tryd.tab_ok 32 _ rfl) rfl (fun N_ => (RdP.cons (n := 2) (o := 0) (o' := 1) (Tryd.tab_ok 9 _ rfl) rfl ((RdS.str hB (Tryd.tab_ok 9 _ rfl) rfl) N_) (RdP.cons (n := 2) (o := 1) (o' := 2) (Tryd.tab_ok 30 _ rfl) rfl ((RdS.slice hB (Tryd.tab_ok 30 _ rfl) rfl (Tryd.tab_ok 3 _ rfl) rfl (by decide) (fun _ => rfl) (RdS.int hB (Tryd.tab_ok 3 _ rfl) rfl)) N_) (RdP.nil (n := 2))))) (fun a => (⟨a.1, a.2.1⟩ : TRef)) (fun _ => rfl) (fun _ => Nat.le_refl _) (fun _ h => h)
noncomputable def TValue.sz : TValue → Nat := @TValue.rec (fun _ => Nat) (fun _ => Nat) (fun y_Kind y_Int y_Text nl l y_Keys ih => (fun _ => 1) y_Kind + ((fun _ => 1) y_Int + (Bs.sz y_Text + ((1 + ih) + ((Sl.sz Bs.sz) y_Keys + (0)))))) 0 (fun _ _ ih ihl => ih + ihl)
noncomputable def TValue.szL : List TValue → Nat := @TValue.rec_1 (fun _ => Nat) (fun _ => Nat) (fun y_Kind y_Int y_Text nl l y_Keys ih => (fun _ => 1) y_Kind + ((fun _ => 1) y_Int + (Bs.sz y_Text + ((1 + ih) + ((Sl.sz Bs.sz) y_Keys + (0)))))) 0 (fun _ _ ih ihl => ih + ihl)
theorem TValue.szL_eq (l : List TValue) : TValue.szL l = (l.map TValue.sz).sum := by
 induction l with
 | nil => rfl
 | cons a r ih => exact congrArg (TValue.sz a + ·) ih
theorem TValue.sz_eq (x : TValue) : x.sz = (fun _ => 1) x.FKind + ((fun _ => 1) x.FInt + (Bs.sz x.FText + ((Sl.sz TValue.sz) x.FItems + ((Sl.sz Bs.sz) x.FKeys + (0))))) := by
 cases x with
 | mk y_Kind y_Int y_Text nl l y_Keys =>
  show (fun _ => 1) y_Kind + ((fun _ => 1) y_Int + (Bs.sz y_Text + ((1 + TValue.szL l) + ((Sl.sz Bs.sz) y_Keys + (0))))) = _
  rw [TValue.szL_eq]; rfl
def TValue.wf : TValue → Prop := @TValue.rec (fun _ => Prop) (fun _ => Prop) (fun y_Kind y_Int y_Text nl l y_Keys ih => i64 y_Kind ∧ (i64 y_Int ∧ ((fun _ => True) y_Text ∧ (((nl = true → l = []) ∧ l.length ≤ maxN ∧ ih) ∧ ((Sl.wf (fun _ => True)) y_Keys ∧ (True)))))) True (fun _ _ ih ihl => ih ∧ ihl)
def TValue.wfL : List TValue → Prop := @TValue.rec_1 (fun _ => Prop) (fun _ => Prop) (fun y_Kind y_Int y_Text nl l y_Keys ih => i64 y_Kind ∧ (i64 y_Int ∧ ((fun _ => True) y_Text ∧ (((nl = true → l = []) ∧ l.length ≤ maxN ∧ ih) ∧ ((Sl.wf (fun _ => True)) y_Keys ∧ (True)))))) True (fun _ _ ih ihl => ih ∧ ihl)
theorem TValue.wfL_iff (l : List TValue) : TValue.wfL l ↔ ∀ x ∈ l, TValue.wf x := by
 induction l with
 | nil => exact ⟨fun _ _ h => (by cases h), fun _ => trivial⟩
 | cons a r ih =>
  show (TValue.wf a ∧ TValue.wfL r) ↔ _
  rw [ih]; simp
theorem TValue.wf_iff (x : TValue) : x.wf ↔ i64 x.FKind ∧ (i64 x.FInt ∧ ((fun _ => True) x.FText ∧ ((Sl.wf TValue.wf) x.FItems ∧ ((Sl.wf (fun _ => True)) x.FKeys ∧ (True))))) := by
 cases x with
 | mk y_Kind y_Int y_Text nl l y_Keys =>
  show (i64 y_Kind ∧ (i64 y_Int ∧ ((fun _ => True) y_Text ∧ (((nl = true → l = []) ∧ l.length ≤ maxN ∧ TValue.wfL l) ∧ ((Sl.wf (fun _ => True)) y_Keys ∧ (True)))))) ↔ _
  rw [TValue.wfL_iff]; exact Iff.rfl
include hB in
theorem rd_TValue_35 : ∀ N, RdN Tryd.prog B N 35 TValue.c TValue.sz TValue.wf := by
 have key : ∀ N M, M ≤ N → RdN Tryd.prog B M 35 TValue.c TValue.sz TValue.wf := by
  intro N
  induction N with
  | zero => intro M hM; rw [Nat.le_zero.1 hM]; exact .zero
  | succ N ih =>
   intro M hM
   cases M with
   | zero => exact .zero
   | succ N_ =>
    have hit : RdN Tryd.prog B N_ 33 (fun s : Sl TValue => [Sl.d 5 TValue.c none s]) (Sl.sz TValue.sz) (Sl.wf TValue.wf) := by
     cases N_ with
     | zero => exact .zero
     | succ M => exact RdS.sliceN hB (Tryd.tab_ok 33 _ rfl) rfl (Tryd.tab_ok 35 _ rfl) rfl (by decide) (fun _ => rfl) (ih M (by omega))
    refine RdN.struct hB (Tryd.tab_ok 35 _ rfl) rfl (RdP.cons (n := 5) (o := 0) (o' := 1) (Tryd.tab_ok 3 _ rfl) rfl ((RdS.int hB (Tryd.tab_ok 3 _ rfl) rfl) N_) (RdP.cons (n := 5) (o := 1) (o' := 2) (Tryd.tab_ok 3 _ rfl) rfl ((RdS.int hB (Tryd.tab_ok 3 _ rfl) rfl) N_) (RdP.cons (n := 5) (o := 2) (o' := 3) (Tryd.tab_ok 9 _ rfl) rfl ((RdS.str hB (Tryd.tab_ok 9 _ rfl) rfl) N_) (RdP.cons (n := 5) (o := 3) (o' := 4) (Tryd.tab_ok 33 _ rfl) rfl hit (RdP.cons (n := 5) (o := 4) (o' := 5) (Tryd.tab_ok 28 _ rfl) rfl ((RdS.slice hB (Tryd.tab_ok 28 _ rfl) rfl (Tryd.tab_ok 9 _ rfl) rfl (by decide) (fun _ => rfl) (RdS.str hB (Tryd.tab_ok 9 _ rfl) rfl)) N_) (RdP.nil (n := 5))))))) (fun a => TValue.mk a.1 a.2.1 a.2.2.1 a.2.2.2.1.nl a.2.2.2.1.l a.2.2.2.2.1) (fun a => ?_) (fun a => by rw [TValue.sz_eq]; exact Nat.le_refl _) (fun a h => by rw [TValue.wf_iff]; exact h)
    unfold TValue.c
    rw [TValue.FItemsD_eq]
    rfl
 exact fun N => key N N (Nat.le_refl _)
noncomputable def TVar.sz (x : TVar) : Nat := Bs.sz x.FName + (TRef.sz x.FType + ((fun _ => 1) x.FHas + (TValue.sz x.FDefault + (0))))
def TVar.wf (x : TVar) : Prop := (fun _ => True) x.FName ∧ (TRef.wf x.FType ∧ ((fun _ => True) x.FHas ∧ (TValue.wf x.FDefault ∧ (True))))
include hB in
theorem rd_TVar_37 : ∀ N, RdN Tryd.prog B N 37 TVar.c TVar.sz TVar.wf := RdA.struct hB (Tryd.tab_ok 37 _ rfl) rfl (fun N_ => (RdP.cons (n := 9) (o := 0) (o' := 1) (Tryd.tab_ok 9 _ rfl) rfl ((RdS.str hB (Tryd.tab_ok 9 _ rfl) rfl) N_) (RdP.cons (n := 9) (o := 1) (o' := 3) (Tryd.tab_ok 32 _ rfl) rfl ((rd_TRef_32 hB) N_) (RdP.cons (n := 9) (o := 3) (o' := 4) (Tryd.tab_ok 4 _ rfl) rfl ((RdS.bool hB (Tryd.tab_ok 4 _ rfl) rfl) N_) (RdP.cons (n := 9) (o := 4) (o' := 9) (Tryd.tab_ok 35 _ rfl) rfl ((rd_TValue_35 hB) N_) (RdP.nil (n := 9))))))) (fun a => (⟨a.1, a.2.1, a.2.2.1, a.2.2.2.1⟩ : TVar)) (fun _ => rfl) (fun _ => Nat.le_refl _) (fun _ h => h)
end
theorem TRef.sz_def (x : TRef) : x.sz = 0 + Bs.sz x.FName + (Sl.sz (fun _ => 1)) x.FWraps := by
 unfold TRef.sz; try dsimp only
 omega
theorem TRef.pos (x : TRef) : 1 ≤ x.sz := by
 rw [TRef.sz_def]; have := Bs.sz_pos x.FName; omega
theorem TValue.sz_def (x : TValue) : x.sz = 0 + 1 + 1 + Bs.sz x.FText + (Sl.sz TValue.sz) x.FItems + (Sl.sz Bs.sz) x.FKeys := by
 rw [TValue.sz_eq]; try dsimp only
 omega
theorem TValue.pos (x : TValue) : 1 ≤ x.sz := by
 rw [TValue.sz_def]; have := Bs.sz_pos x.FText; omega
theorem TVar.sz_def (x : TVar) : x.sz = 0 + Bs.sz x.FName + TRef.sz x.FType + 1 + TValue.sz x.FDefault := by
 unfold TVar.sz; try dsimp only
 omega
theorem TVar.pos (x : TVar) : 1 ≤ x.sz := by
 rw [TVar.sz_def]; have := Bs.sz_pos x.FName; omega
theorem TVar.FType_wf {x : TVar} (h : x.wf) : TRef.wf x.FType := h.2.1
end Go.Proofs

namespace Go.Proofs
open Go Go.Ab
open AOps Cert AWp
def Z1_j2  (y3_l0 : TFrag) : Option (TFrag × Bool) := some ((TFrag.mk ([] : Bs) ([] : Bs) (Sl.nil : Sl TSel)), false)
def Z1_l7 (a0 : TQuery) (a1 : Bs)  : Nat → Nat → TFrag → Option (TFrag × Bool)
 | 0, _, _ => none
 | n7 + 1, s11_8, y9_l0 => bif (decide (((s11_8 : Nat) : Int) < ((a0.FFrags.l.length : Nat) : Int))) then ((a0.FFrags.l[s11_8]?).bind fun x15 => bif ((x15.FName == a1)) then (some (x15, true)) else ((Z1_l7 a0 a1 n7) (s11_8 + 1) y9_l0)) else (Z1_j2   y9_l0)
def Z1 (a0 : TQuery) (a1 : Bs) : Option (TFrag × Bool) := Z1_l7 a0 a1 (a0.FFrags.l.length + 1) 0 TFrag.zero
theorem Z1_walk {a0 : TQuery} {a1 : Bs}   {r : (TFrag × Bool)} (hE : Z1 a0 a1 = some r) (H : Heap)  : ACalls Tryd.prog 28 [.agg (TQuery.c a0), .d (.str a1)] H fun v h' => v = .tup [.agg (TFrag.c r.1), .d (.bool r.2)] ∧ h' = H := by
 unfold Z1 at hE
 refine ACalls.of_wp (fn := Tryd.f28) (c := _) Tryd.tab_ok (fun _ _ => Tryd.call28 _ _) Tryd.func28 rfl (n := 22) rfl (rs := [.cell 4 52, .tmp 5]) rfl rfl ?_
 refine seqK fun K1 hK1 => ?_
 refine region ?_
 refine s0 (boxV rfl) rfl ?_
 refine sL (allocLA (TK rfl) rfl) rfl ?_
 refine s0 assignA rfl ?_
 refine nil ?_
 refine hK1 _ ?_
 clear hK1 K1
 refine seqJ (KeepsT.A (k := 4) KeepsT.nil) (fun (z : TFrag) => []) (fun z => [TFrag.c z]) (fun z => H) (fun z => Z1_j2 z = some r) ?_ ?_
 ·intro K2 hK2
  refine seqK fun K5 hK5 => ?_
  refine region ?_
  refine s0 (fieldVA (TK rfl) rfl rfl (TK rfl) rfl rfl) rfl ?_
  refine s0 (loadV (TK rfl) rfl rfl rfl) rfl ?_
  refine sLen (f := TFrag.c) (s := a0.FFrags) (TK rfl) rfl rfl rfl rfl fun hL6 => ?_
  refine s0 moveA rfl ?_
  refine nil ?_
  refine hK5 _ ?_
  clear hK5 K5
  refine block ?_
  refine loopO (KeepsT.A (k := 1) (KeepsT.A (k := 4) (KeepsT.A (k := 9) (KeepsT.A (k := 10) KeepsT.nil)))) (fun (z : Nat × Nat × TFrag) => [(11, .a (.d (.int .i64 ((z.2.1 : Nat) : Int))))]) (fun z => [TFrag.c z.2.2]) (fun z => H) (fun z => z.1) (fun z => Z1_l7 a0 a1 z.1 z.2.1 z.2.2 = some r) ((a0.FFrags.l.length + 1), 0, TFrag.zero) hE Weak.toA ?_
  rintro ⟨n7, s11_8, y9_l0⟩ hE K7 hK7
  try dsimp only at hE
  cases n7 with
  | zero => cases hE
  | succ n7 =>
    rw [Z1_l7] at hE
    refine seqK fun K10 hK10 => ?_
    refine region ?_
    refine s0 (binI rfl rfl rfl) rfl ?_
    refine nil ?_
    refine hK10 _ ?_
    clear hK10 K10
    refine seqK fun K11 hK11 => ?_
    refine condE hE rfl (fun hc12 hE => ?_) (fun hc12 hE => ?_)
    ·try dsimp only at hc12
     have hf12 := of_decide_eq_true hc12
     refine AWp.skip ?_
     refine hK11 _ ?_
     clear hK11 K11
     refine seqK fun K13 hK13 => ?_
     refine block ?_
     refine seqK fun K14 hK14 => ?_
     refine region ?_
     obtain ⟨x15, gx15, hE⟩ := bindO_some hE
     refine s0 (idxMn (f := TFrag.c) (n := s11_8) (TK rfl) rfl (TK rfl) rfl rfl rfl gx15) rfl ?_
     refine s0 (loadV (TK rfl) rfl rfl rfl) rfl ?_
     refine sL (allocLA (TK rfl) rfl) rfl ?_
     refine sLn (storeLFA (TK rfl) rfl rfl rfl rfl rfl) ?_
     refine nil ?_
     refine hK14 _ ?_
     clear hK14 K14
     refine freezeA 7 _ rfl (Keeps.c (k := 1) (by conv => lhs; whnf) (by rfl) (Keeps.c (k := 4) (by conv => lhs; whnf) (by rfl) (Keeps.c (k := 9) (by conv => lhs; whnf) (by rfl) (Keeps.c (k := 10) (by conv => lhs; whnf) (by rfl) (Keeps.c (k := 11) (by conv => lhs; whnf) (by rfl) Keeps.nil))))) ?_
     refine seqK fun K16 hK16 => ?_
     refine region ?_
     refine s0 (fieldVA (TK rfl) rfl rfl (TK rfl) rfl rfl) rfl ?_
     refine s0 (loadV (TK rfl) rfl rfl rfl) rfl ?_
     refine s0 moveA rfl ?_
     refine s0 (binS rfl rfl rfl) rfl ?_
     refine nil ?_
     refine hK16 _ ?_
     clear hK16 K16
     refine condE hE rfl (fun hc17 hE => ?_) (fun hc17 hE => ?_)
     ·refine seqK fun K18 hK18 => ?_
      refine region ?_
      refine s0 (loadV (TK rfl) rfl rfl rfl) rfl ?_
      refine sLn (storeLFA (TK rfl) rfl rfl rfl rfl rfl) ?_
      refine s0 assignA rfl ?_
      refine nil ?_
      refine hK18 _ ?_
      clear hK18 K18
      refine AWp.ret ?_
      repeat (first | refine xBlock_ret ?_ | refine xThen_ret ?_)
      obtain rfl := Option.some.inj hE
      refine retQ.retF H rfl ⟨rfl, rfl⟩ ?_
      exact (fun _ _ h => h)
     refine AWp.skip ?_
     refine hK13 _ ?_
     clear hK13 K13
     refine region ?_
     refine s0 (addIA rfl rfl) rfl ?_
     refine s0 moveA rfl ?_
     refine nil ?_
     exact hK7 _ (n7, (s11_8 + 1), y9_l0) Weak.toA hE (Nat.lt_succ_self _)
    refine AWp.exit ?_
    exact hK2 _ y9_l0 Weak.toA hE
 rintro y3_l0 hE
 try dsimp only at hE
 unfold Z1_j2 at hE
 refine seqK fun K4 hK4 => ?_
 refine region ?_
 refine s0 (build Tryd.tab_ok rfl rfl rfl rfl rfl rfl) rfl ?_
 refine sLn (storeLFA (TK rfl) rfl rfl rfl rfl rfl) ?_
 refine s0 assignA rfl ?_
 refine nil ?_
 refine hK4 _ ?_
 clear hK4 K4
 refine AWp.ret ?_
 repeat (first | refine xBlock_ret ?_ | refine xThen_ret ?_)
 obtain rfl := Option.some.inj hE
 refine retQ.retF H rfl ⟨rfl, rfl⟩ ?_
 exact (fun _ _ h => h)
def Z59_j2  (s1_3 : (Sl Bs)) : Option (Sl Bs) := some s1_3
def Z59_l15 (a0 : TValue) (k_rec_29 : TValue → (Sl Bs) → Option (Sl Bs)) : Nat → (Sl Bs) → Nat → Option (Sl Bs)
 | 0, _, _ => none
 | n15 + 1, s1_16, s22_17 => bif (decide (((s22_17 : Nat) : Int) < ((a0.FItems.l.length : Nat) : Int))) then ((a0.FItems.l[s22_17]?).bind fun x23 => (k_rec_29 x23 s1_16).bind fun x24 => (Z59_l15 a0 k_rec_29 n15) x24 (s22_17 + 1)) else (Z59_j2   s1_16)
def Z59_j10 (a0 : TValue) (a1 : (Sl Bs)) (k_rec_29 : TValue → (Sl Bs) → Option (Sl Bs)) (s16_11 : Bool) : Option (Sl Bs) := bif s16_11 then (Z59_l15 a0 k_rec_29 (a0.FItems.l.length + 1) a1 0) else (Z59_j2   a1)
def Z59_n : Nat → TValue → (Sl Bs) → Option (Sl Bs)
 | 0, _, _ => none
 | n + 1, a0, a1 => bif (decide (a0.FKind = (7 : Int))) then ((appC 16 a1 (⟨false, [a0.FText]⟩ : Sl Bs)).bind fun x9 => some x9) else (bif (decide (a0.FKind = (5 : Int))) then (Z59_j10 a0 a1 (Z59_n n) (decide (a0.FKind = (5 : Int)))) else (Z59_j10 a0 a1 (Z59_n n) (decide (a0.FKind = (6 : Int)))))
theorem Z59_step (n : Nat) (ih_29 : ∀ {a0 : TValue} {a1 : (Sl Bs)}  {g1 : Nat} {r : (Sl Bs)}, Z59_n n a0 a1 = some r → ∀ (H : Heap) (hg1 : H g1 = some (.tok 1 a1.l.length)), ACalls Tryd.prog 29 [.agg (TValue.c a0), .d (Sl.d 1 strE (some g1) a1)] H fun v h' => v = .a (.d (Sl.d 1 strE (some g1) r)) ∧ h' = (H.set g1 (some (.tok 1 r.l.length)))) : ∀ {a0 : TValue} {a1 : (Sl Bs)}  {g1 : Nat} {r : (Sl Bs)}, Z59_n (n + 1) a0 a1 = some r → ∀ (H : Heap) (hg1 : H g1 = some (.tok 1 a1.l.length)), ACalls Tryd.prog 29 [.agg (TValue.c a0), .d (Sl.d 1 strE (some g1) a1)] H fun v h' => v = .a (.d (Sl.d 1 strE (some g1) r)) ∧ h' = (H.set g1 (some (.tok 1 r.l.length))) := by
 intro a0 a1  g1 r hE H hg1
 rw [Z59_n] at hE
 refine ACalls.of_wp (fn := Tryd.f29) (c := _) Tryd.tab_ok (fun _ _ => Tryd.call29 _ _) Tryd.func29 rfl (n := 31) rfl (rs := [.tmp 4]) rfl rfl ?_
 refine AWp.heqA (h' := (H.set g1 (some (.tok 1 a1.l.length)))) (by funext n_; simp only [Heap.set]; (repeat' split) <;> simp_all) ?_
 refine seqK fun K1 hK1 => ?_
 refine region ?_
 refine s0 (boxV rfl) rfl ?_
 refine s0 assignA rfl ?_
 refine nil ?_
 refine hK1 _ ?_
 clear hK1 K1
 refine seqJH KeepsT.nil (fun (z : (Sl Bs)) => [(1, .a (.d (Sl.d 1 strE (some g1) z)))]) (fun z => (H.set g1 (some (.tok 1 z.l.length)))) (fun z => Z59_j2 z = some r) ?_ ?_
 ·intro K2 hK2
  refine seqK fun K5 hK5 => ?_
  refine region ?_
  refine s0 (fieldVA (TK rfl) rfl rfl (TK rfl) rfl rfl) rfl ?_
  refine s0 (loadV (TK rfl) rfl rfl rfl) rfl ?_
  refine nil ?_
  refine hK5 _ ?_
  clear hK5 K5
  refine block ?_
  refine seqK fun K6 hK6 => ?_
  refine region ?_
  refine s0 (binI rfl rfl rfl) rfl ?_
  refine s0 assignA rfl ?_
  refine nil ?_
  refine hK6 _ ?_
  clear hK6 K6
  refine condE hE rfl (fun hc7 hE => ?_) (fun hc7 hE => ?_)
  ·refine seqK fun K8 hK8 => ?_
   refine region ?_
   refine s0 moveA rfl ?_
   refine s0 (fieldVA (TK rfl) rfl rfl (TK rfl) rfl rfl) rfl ?_
   refine s0 (loadV (TK rfl) rfl rfl rfl) rfl ?_
   refine s0 (buildSlice (TK rfl) rfl (TK rfl) rfl rfl rfl rfl rfl rfl) rfl ?_
   obtain ⟨x9, gx9, hE⟩ := bindO_some hE
   refine sH (appM (f := strE) (TK rfl) rfl (TK rfl) (TK rfl) ⟨_, rfl⟩ rfl rfl (by decide) rfl rfl rfl rfl hpG rfl gx9) rfl ?_
   refine AOps.heq (h' := (H.set g1 (some (.tok 1 x9.l.length)))) (by first | rfl | (rw [Heap.set_set]; rfl) | (funext n_; simp only [Heap.set]; (repeat' split) <;> first | rfl | (exfalso; simp_all; done) | (simp_all; done))) ?_
   refine s0 assignA rfl ?_
   refine nil ?_
   refine hK8 _ ?_
   clear hK8 K8
   refine AWp.ret ?_
   repeat (first | refine xBlock_ret ?_ | refine xThen_ret ?_)
   obtain rfl := Option.some.inj hE
   refine retQ.retF (H.set g1 (some (.tok 1 x9.l.length))) rfl ⟨rfl, rfl⟩ ?_
   exact (fun _ _ h => h)
  refine seqJH (KeepsT.A (k := 1) (KeepsT.A (k := 2) KeepsT.nil)) (fun (z : Bool) => [(16, .a (.d (.bool z)))]) (fun z => (H.set g1 (some (.tok 1 a1.l.length)))) (fun z => Z59_j10 a0 a1 (Z59_n n) z = some r) ?_ ?_
  ·intro K10 hK10
   refine seqK fun K25 hK25 => ?_
   refine region ?_
   refine s0 (binI rfl rfl rfl) rfl ?_
   refine s0 assignA rfl ?_
   refine nil ?_
   refine hK25 _ ?_
   clear hK25 K25
   refine condE hE rfl (fun hc26 hE => ?_) (fun hc26 hE => ?_)
   ·refine AWp.skip ?_
    exact hK10 _ (decide (a0.FKind = (5 : Int))) Weak.toA hE
   refine region ?_
   refine s0 (binI rfl rfl rfl) rfl ?_
   refine s0 assignA rfl ?_
   refine nil ?_
   exact hK10 _ (decide (a0.FKind = (6 : Int))) Weak.toA hE
  rintro s16_11 hE
  try dsimp only at hE
  unfold Z59_j10 at hE
  refine condE hE rfl (fun hc12 hE => ?_) (fun hc12 hE => ?_)
  ·refine seqK fun K13 hK13 => ?_
   refine region ?_
   refine s0 (fieldVA (TK rfl) rfl rfl (TK rfl) rfl rfl) rfl ?_
   refine s0 (loadV (TK rfl) rfl rfl (congrArg (fun x => some (A.d x)) (TValue.FItemsD_eq _))) rfl ?_
   refine sLen (f := TValue.c) (s := a0.FItems) (TK rfl) rfl rfl rfl rfl fun hL14 => ?_
   refine s0 moveA rfl ?_
   refine nil ?_
   refine hK13 _ ?_
   clear hK13 K13
   refine block ?_
   refine loopH (KeepsT.A (k := 20) (KeepsT.A (k := 21) KeepsT.nil)) (fun (z : Nat × (Sl Bs) × Nat) => [(1, .a (.d (Sl.d 1 strE (some g1) z.2.1))), (22, .a (.d (.int .i64 ((z.2.2 : Nat) : Int))))]) (fun z => (H.set g1 (some (.tok 1 z.2.1.l.length)))) (fun z => z.1) (fun z => Z59_l15 a0 (Z59_n n) z.1 z.2.1 z.2.2 = some r) ((a0.FItems.l.length + 1), a1, 0) hE Weak.toA ?_
   rintro ⟨n15, s1_16, s22_17⟩ hE K15 hK15
   try dsimp only at hE
   cases n15 with
   | zero => cases hE
   | succ n15 =>
     rw [Z59_l15] at hE
     refine seqK fun K18 hK18 => ?_
     refine region ?_
     refine s0 (binI rfl rfl rfl) rfl ?_
     refine nil ?_
     refine hK18 _ ?_
     clear hK18 K18
     refine seqK fun K19 hK19 => ?_
     refine condE hE rfl (fun hc20 hE => ?_) (fun hc20 hE => ?_)
     ·try dsimp only at hc20
      have hf20 := of_decide_eq_true hc20
      refine AWp.skip ?_
      refine hK19 _ ?_
      clear hK19 K19
      refine seqK fun K21 hK21 => ?_
      refine block ?_
      refine seqK fun K22 hK22 => ?_
      refine region ?_
      obtain ⟨x23, gx23, hE⟩ := bindO_some hE
      refine s0 (idxMn (f := TValue.c) (n := s22_17) (TK rfl) rfl (TK rfl) rfl rfl rfl gx23) rfl ?_
      refine s0 (loadV (TK rfl) rfl rfl rfl) rfl ?_
      refine sL (allocLA (TK rfl) rfl) rfl ?_
      refine sLn (storeLFA (TK rfl) rfl rfl rfl rfl rfl) ?_
      refine nil ?_
      refine hK22 _ ?_
      clear hK22 K22
      refine freezeA 6 _ rfl (Keeps.c (k := 1) (by conv => lhs; whnf) (by rfl) (Keeps.c (k := 20) (by conv => lhs; whnf) (by rfl) (Keeps.c (k := 21) (by conv => lhs; whnf) (by rfl) (Keeps.c (k := 22) (by conv => lhs; whnf) (by rfl) Keeps.nil)))) ?_
      refine region ?_
      refine s0 (loadV (TK rfl) rfl rfl rfl) rfl ?_
      refine s0 moveA rfl ?_
      obtain ⟨x24, gx24, hE⟩ := bindO_some hE
      refine sH (callH rfl rfl (ih_29 gx24 _ hpG)) rfl ?_
      refine AOps.heq (h' := (H.set g1 (some (.tok 1 x24.l.length)))) (by first | rfl | (rw [Heap.set_set]; rfl) | (funext n_; simp only [Heap.set]; (repeat' split) <;> first | rfl | (exfalso; simp_all; done) | (simp_all; done))) ?_
      refine s0 assignA rfl ?_
      refine nil ?_
      refine hK21 _ ?_
      clear hK21 K21
      refine region ?_
      refine s0 (addIA rfl rfl) rfl ?_
      refine s0 moveA rfl ?_
      refine nil ?_
      exact hK15 _ (n15, x24, (s22_17 + 1)) Weak.toA hE (Nat.lt_succ_self _)
     refine AWp.exit ?_
     exact hK2 _ s1_16 Weak.toA hE
  refine AWp.skip ?_
  exact hK2 _ a1 Weak.toA hE
 rintro s1_3 hE
 try dsimp only at hE
 unfold Z59_j2 at hE
 refine seqK fun K4 hK4 => ?_
 refine region ?_
 refine s0 moveA rfl ?_
 refine s0 assignA rfl ?_
 refine nil ?_
 refine hK4 _ ?_
 clear hK4 K4
 refine AWp.ret ?_
 repeat (first | refine xBlock_ret ?_ | refine xThen_ret ?_)
 obtain rfl := Option.some.inj hE
 refine retQ.retF (H.set g1 (some (.tok 1 s1_3.l.length))) rfl ⟨rfl, rfl⟩ ?_
 exact (fun _ _ h => h)
theorem Z59_all : ∀ (n : Nat), (∀ {a0 : TValue} {a1 : (Sl Bs)}  {g1 : Nat} {r : (Sl Bs)}, Z59_n n a0 a1 = some r → ∀ (H : Heap) (hg1 : H g1 = some (.tok 1 a1.l.length)), ACalls Tryd.prog 29 [.agg (TValue.c a0), .d (Sl.d 1 strE (some g1) a1)] H fun v h' => v = .a (.d (Sl.d 1 strE (some g1) r)) ∧ h' = (H.set g1 (some (.tok 1 r.l.length))))
 | 0 => fun hE => by first | cases hE | (rw [Z59_n] at hE; cases hE)
 | n + 1 => Z59_step n (Z59_all n)
def Z59 (a0 : TValue) (a1 : (Sl Bs)) : Option (Sl Bs) := Z59_n F0 a0 a1
theorem Z59_walk {a0 : TValue} {a1 : (Sl Bs)}  {g1 : Nat} {r : (Sl Bs)} (hE : Z59 a0 a1 = some r) (H : Heap) (hg1 : H g1 = some (.tok 1 a1.l.length)) : ACalls Tryd.prog 29 [.agg (TValue.c a0), .d (Sl.d 1 strE (some g1) a1)] H fun v h' => v = .a (.d (Sl.d 1 strE (some g1) r)) ∧ h' = (H.set g1 (some (.tok 1 r.l.length))) := (Z59_all F0) hE H hg1
def Z60_j2  (s3_3 : (Sl Bs)) (y4_c2 : (List Bs)) : Option ((Sl Bs) × (List Bs)) := some (s3_3, y4_c2)
def Z60_j15 (s22_10 : Nat) (k_next_8 : (Sl Bs) → Nat → (List Bs) → Option ((Sl Bs) × (List Bs))) (s3_16 : (Sl Bs)) (y17_c2 : (List Bs)) : Option ((Sl Bs) × (List Bs)) := k_next_8 s3_16 (s22_10 + 1) y17_c2
def Z60_j25 (a0 : TQuery) (s22_10 : Nat) (s3_23 : (Sl Bs)) (k_next_8 : (Sl Bs) → Nat → (List Bs) → Option ((Sl Bs) × (List Bs))) (k_rec_16 : TQuery → (Sl TSel) → (List Bs) → (Sl Bs) → Option ((Sl Bs) × (List Bs))) (s17_26 : (Sl TSel)) (y27_c2 : (List Bs)) : Option ((Sl Bs) × (List Bs)) := (k_rec_16 a0 s17_26 y27_c2 s3_23).bind fun x28 => Z60_j15 s22_10 k_next_8 x28.1 x28.2
def Z60_j22 (a0 : TQuery) (s22_10 : Nat) (y11_c2 : (List Bs)) (x19 : TSel) (k_next_8 : (Sl Bs) → Nat → (List Bs) → Option ((Sl Bs) × (List Bs))) (k_rec_16 : TQuery → (Sl TSel) → (List Bs) → (Sl Bs) → Option ((Sl Bs) × (List Bs))) (s3_23 : (Sl Bs)) : Option ((Sl Bs) × (List Bs)) := bif (decide (x19.FKind = (2 : Int))) then ((Z1 a0 x19.FName).bind fun x32 => bif ((!x32.2) || (y11_c2.contains x19.FName)) then (Z60_j15 s22_10 k_next_8 s3_23 y11_c2) else (Z60_j25 a0 s22_10 s3_23 k_next_8 k_rec_16 x32.1.FSels (insS y11_c2 x19.FName))) else (Z60_j25 a0 s22_10 s3_23 k_next_8 k_rec_16 x19.FSels y11_c2)
def Z60_j45 (s41_41 : Nat) (k_next_39 : (Sl Bs) → Nat → Option ((Sl Bs) × (List Bs))) (s3_46 : (Sl Bs)) : Option ((Sl Bs) × (List Bs)) := k_next_39 s3_46 (s41_41 + 1)
def Z60_l51 (s41_41 : Nat) (x48 : TDir) (k_next_39 : (Sl Bs) → Nat → Option ((Sl Bs) × (List Bs))) : Nat → (Sl Bs) → Nat → Option ((Sl Bs) × (List Bs))
 | 0, _, _ => none
 | n51 + 1, s3_52, s48_53 => bif (decide (((s48_53 : Nat) : Int) < ((x48.FArgs.l.length : Nat) : Int))) then ((x48.FArgs.l[s48_53]?).bind fun x59 => (Z59 x59.FValue s3_52).bind fun x60 => (Z60_l51 s41_41 x48 k_next_39 n51) x60 (s48_53 + 1)) else (Z60_j45 s41_41 k_next_39 s3_52)
def Z60_l39 (a0 : TQuery) (s22_10 : Nat) (y11_c2 : (List Bs)) (x19 : TSel) (k_next_8 : (Sl Bs) → Nat → (List Bs) → Option ((Sl Bs) × (List Bs))) (k_rec_16 : TQuery → (Sl TSel) → (List Bs) → (Sl Bs) → Option ((Sl Bs) × (List Bs))) : Nat → (Sl Bs) → Nat → Option ((Sl Bs) × (List Bs))
 | 0, _, _ => none
 | n39 + 1, s3_40, s41_41 => bif (decide (((s41_41 : Nat) : Int) < ((x19.FDirs.l.length : Nat) : Int))) then ((x19.FDirs.l[s41_41]?).bind fun x48 => Z60_l51 s41_41 x48 ((Z60_l39 a0 s22_10 y11_c2 x19 k_next_8 k_rec_16 n39)) (x48.FArgs.l.length + 1) s3_40 0) else (Z60_j22 a0 s22_10 y11_c2 x19 k_next_8 k_rec_16 s3_40)
def Z60_j20 (a0 : TQuery) (s22_10 : Nat) (y11_c2 : (List Bs)) (x19 : TSel) (k_next_8 : (Sl Bs) → Nat → (List Bs) → Option ((Sl Bs) × (List Bs))) (k_rec_16 : TQuery → (Sl TSel) → (List Bs) → (Sl Bs) → Option ((Sl Bs) × (List Bs))) (s3_21 : (Sl Bs)) : Option ((Sl Bs) × (List Bs)) := Z60_l39 a0 s22_10 y11_c2 x19 k_next_8 k_rec_16 (x19.FDirs.l.length + 1) s3_21 0
def Z60_l63 (a0 : TQuery) (s22_10 : Nat) (y11_c2 : (List Bs)) (x19 : TSel) (k_next_8 : (Sl Bs) → Nat → (List Bs) → Option ((Sl Bs) × (List Bs))) (k_rec_16 : TQuery → (Sl TSel) → (List Bs) → (Sl Bs) → Option ((Sl Bs) × (List Bs))) : Nat → (Sl Bs) → Nat → Option ((Sl Bs) × (List Bs))
 | 0, _, _ => none
 | n63 + 1, s3_64, s29_65 => bif (decide (((s29_65 : Nat) : Int) < ((x19.FArgs.l.length : Nat) : Int))) then ((x19.FArgs.l[s29_65]?).bind fun x71 => (Z59 x71.FValue s3_64).bind fun x72 => (Z60_l63 a0 s22_10 y11_c2 x19 k_next_8 k_rec_16 n63) x72 (s29_65 + 1)) else (Z60_j20 a0 s22_10 y11_c2 x19 k_next_8 k_rec_16 s3_64)
def Z60_l8 (a0 : TQuery) (a1 : (Sl TSel)) (k_rec_16 : TQuery → (Sl TSel) → (List Bs) → (Sl Bs) → Option ((Sl Bs) × (List Bs))) : Nat → (Sl Bs) → Nat → (List Bs) → Option ((Sl Bs) × (List Bs))
 | 0, _, _, _ => none
 | n8 + 1, s3_9, s22_10, y11_c2 => bif (decide (((s22_10 : Nat) : Int) < ((a1.l.length : Nat) : Int))) then ((a1.l[s22_10]?).bind fun x19 => Z60_l63 a0 s22_10 y11_c2 x19 ((Z60_l8 a0 a1 k_rec_16 n8)) k_rec_16 (x19.FArgs.l.length + 1) s3_9 0) else (Z60_j2   s3_9 y11_c2)
def Z60_n : Nat → TQuery → (Sl TSel) → (List Bs) → (Sl Bs) → Option ((Sl Bs) × (List Bs))
 | 0, _, _, _, _ => none
 | n + 1, a0, a1, a2, a3 => Z60_l8 a0 a1 (Z60_n n) (a1.l.length + 1) a3 0 a2
theorem Z60_step (n : Nat) (ih_16 : ∀ {a0 : TQuery} {a1 : (Sl TSel)} {a2 : (List Bs)} {a3 : (Sl Bs)} {w1 : Option Nat} {c2 : Nat} {g3 : Nat} {r : ((Sl Bs) × (List Bs))}, Z60_n n a0 a1 a2 a3 = some r → ∀ (H : Heap) (hc2 : H c2 = some (.map (seenM a2))) (hg3 : H g3 = some (.tok 1 a3.l.length)), ACalls Tryd.prog 16 [.agg (TQuery.c a0), .d (Sl.d 7 TSel.c w1 a1), .d (.map c2), .d (Sl.d 1 strE (some g3) a3)] H fun v h' => v = .a (.d (Sl.d 1 strE (some g3) r.1)) ∧ h' = ((H.set c2 (some (.map (seenM r.2)))).set g3 (some (.tok 1 r.1.l.length)))) : ∀ {a0 : TQuery} {a1 : (Sl TSel)} {a2 : (List Bs)} {a3 : (Sl Bs)} {w1 : Option Nat} {c2 : Nat} {g3 : Nat} {r : ((Sl Bs) × (List Bs))}, Z60_n (n + 1) a0 a1 a2 a3 = some r → ∀ (H : Heap) (hc2 : H c2 = some (.map (seenM a2))) (hg3 : H g3 = some (.tok 1 a3.l.length)), ACalls Tryd.prog 16 [.agg (TQuery.c a0), .d (Sl.d 7 TSel.c w1 a1), .d (.map c2), .d (Sl.d 1 strE (some g3) a3)] H fun v h' => v = .a (.d (Sl.d 1 strE (some g3) r.1)) ∧ h' = ((H.set c2 (some (.map (seenM r.2)))).set g3 (some (.tok 1 r.1.l.length))) := by
 intro a0 a1 a2 a3 w1 c2 g3 r hE H hc2 hg3
 rw [Z60_n] at hE
 refine ACalls.of_wp (fn := Tryd.f16) (c := _) Tryd.tab_ok (fun _ _ => Tryd.call16 _ _) Tryd.func16 rfl (n := 90) rfl (rs := [.tmp 8]) rfl rfl ?_
 have ne_g3_c2 : g3 ≠ c2 := fun e_ => by subst e_; simp_all
 refine AWp.heqA (h' := ((H.set c2 (some (.map (seenM a2)))).set g3 (some (.tok 1 a3.l.length)))) (by funext n_; simp only [Heap.set]; (repeat' split) <;> simp_all) ?_
 refine seqK fun K1 hK1 => ?_
 refine region ?_
 refine s0 (boxV rfl) rfl ?_
 refine s0 assignA rfl ?_
 refine nil ?_
 refine hK1 _ ?_
 clear hK1 K1
 refine seqJH KeepsT.nil (fun (z : (Sl Bs) × (List Bs)) => [(3, .a (.d (Sl.d 1 strE (some g3) z.1)))]) (fun z => ((H.set c2 (some (.map (seenM z.2)))).set g3 (some (.tok 1 z.1.l.length)))) (fun z => Z60_j2 z.1 z.2 = some r) ?_ ?_
 ·intro K2 hK2
  refine seqK fun K6 hK6 => ?_
  refine region ?_
  refine s0 moveA rfl ?_
  refine sLen (f := TSel.c) (s := a1) (TK rfl) rfl rfl rfl rfl fun hL7 => ?_
  refine s0 moveA rfl ?_
  refine nil ?_
  refine hK6 _ ?_
  clear hK6 K6
  refine block ?_
  refine loopH (KeepsT.A (k := 2) (KeepsT.A (k := 4) (KeepsT.A (k := 20) (KeepsT.A (k := 21) KeepsT.nil)))) (fun (z : Nat × (Sl Bs) × Nat × (List Bs)) => [(3, .a (.d (Sl.d 1 strE (some g3) z.2.1))), (22, .a (.d (.int .i64 ((z.2.2.1 : Nat) : Int))))]) (fun z => ((H.set c2 (some (.map (seenM z.2.2.2)))).set g3 (some (.tok 1 z.2.1.l.length)))) (fun z => z.1) (fun z => Z60_l8 a0 a1 (Z60_n n) z.1 z.2.1 z.2.2.1 z.2.2.2 = some r) ((a1.l.length + 1), a3, 0, a2) hE Weak.toA ?_
  rintro ⟨n8, s3_9, s22_10, y11_c2⟩ hE K8 hK8
  try dsimp only at hE
  cases n8 with
  | zero => cases hE
  | succ n8 =>
    rw [Z60_l8] at hE
    refine seqK fun K12 hK12 => ?_
    refine region ?_
    refine s0 (binI rfl rfl rfl) rfl ?_
    refine nil ?_
    refine hK12 _ ?_
    clear hK12 K12
    refine seqK fun K13 hK13 => ?_
    refine condE hE rfl (fun hc14 hE => ?_) (fun hc14 hE => ?_)
    ·try dsimp only at hc14
     have hf14 := of_decide_eq_true hc14
     refine AWp.skip ?_
     refine hK13 _ ?_
     clear hK13 K13
     refine seqJH (KeepsT.A (k := 2) (KeepsT.A (k := 4) (KeepsT.A (k := 20) (KeepsT.A (k := 21) (KeepsT.A (k := 22) KeepsT.nil))))) (fun (z : (Sl Bs) × (List Bs)) => [(3, .a (.d (Sl.d 1 strE (some g3) z.1)))]) (fun z => ((H.set c2 (some (.map (seenM z.2)))).set g3 (some (.tok 1 z.1.l.length)))) (fun z => Z60_j15 s22_10 ((Z60_l8 a0 a1 (Z60_n n) n8)) z.1 z.2 = some r) ?_ ?_
     ·intro K15 hK15
      refine block ?_
      refine seqK fun K18 hK18 => ?_
      refine region ?_
      obtain ⟨x19, gx19, hE⟩ := bindO_some hE
      refine s0 (idxMn (f := TSel.c) (n := s22_10) (TK rfl) rfl (TK rfl) rfl rfl rfl gx19) rfl ?_
      refine s0 (loadV (TK rfl) rfl rfl rfl) rfl ?_
      refine sL (allocLA (TK rfl) rfl) rfl ?_
      refine sLn (storeLFA (TK rfl) rfl rfl rfl rfl rfl) ?_
      refine nil ?_
      refine hK18 _ ?_
      clear hK18 K18
      refine freezeA 10 _ rfl (Keeps.c (k := 2) (by conv => lhs; whnf) (by rfl) (Keeps.c (k := 3) (by conv => lhs; whnf) (by rfl) (Keeps.c (k := 4) (by conv => lhs; whnf) (by rfl) (Keeps.c (k := 20) (by conv => lhs; whnf) (by rfl) (Keeps.c (k := 21) (by conv => lhs; whnf) (by rfl) (Keeps.c (k := 22) (by conv => lhs; whnf) (by rfl) Keeps.nil)))))) ?_
      refine seqJH (KeepsT.A (k := 2) (KeepsT.A (k := 4) (KeepsT.A (k := 10) (KeepsT.A (k := 20) (KeepsT.A (k := 21) (KeepsT.A (k := 22) KeepsT.nil)))))) (fun (z : (Sl Bs)) => [(3, .a (.d (Sl.d 1 strE (some g3) z)))]) (fun z => ((H.set c2 (some (.map (seenM y11_c2)))).set g3 (some (.tok 1 z.l.length)))) (fun z => Z60_j20 a0 s22_10 y11_c2 x19 ((Z60_l8 a0 a1 (Z60_n n) n8)) (Z60_n n) z = some r) ?_ ?_
      ·intro K20 hK20
       refine seqK fun K61 hK61 => ?_
       refine region ?_
       refine s0 (fieldVA (TK rfl) rfl rfl (TK rfl) rfl rfl) rfl ?_
       refine s0 (loadV (TK rfl) rfl rfl rfl) rfl ?_
       refine sLen (f := TArg.c) (s := x19.FArgs) (TK rfl) rfl rfl rfl rfl fun hL62 => ?_
       refine s0 moveA rfl ?_
       refine nil ?_
       refine hK61 _ ?_
       clear hK61 K61
       refine block ?_
       refine loopH (KeepsT.A (k := 2) (KeepsT.A (k := 4) (KeepsT.A (k := 10) (KeepsT.A (k := 20) (KeepsT.A (k := 21) (KeepsT.A (k := 22) (KeepsT.A (k := 27) (KeepsT.A (k := 28) KeepsT.nil)))))))) (fun (z : Nat × (Sl Bs) × Nat) => [(3, .a (.d (Sl.d 1 strE (some g3) z.2.1))), (29, .a (.d (.int .i64 ((z.2.2 : Nat) : Int))))]) (fun z => ((H.set c2 (some (.map (seenM y11_c2)))).set g3 (some (.tok 1 z.2.1.l.length)))) (fun z => z.1) (fun z => Z60_l63 a0 s22_10 y11_c2 x19 ((Z60_l8 a0 a1 (Z60_n n) n8)) (Z60_n n) z.1 z.2.1 z.2.2 = some r) ((x19.FArgs.l.length + 1), s3_9, 0) hE Weak.toA ?_
       rintro ⟨n63, s3_64, s29_65⟩ hE K63 hK63
       try dsimp only at hE
       cases n63 with
       | zero => cases hE
       | succ n63 =>
         rw [Z60_l63] at hE
         refine seqK fun K66 hK66 => ?_
         refine region ?_
         refine s0 (binI rfl rfl rfl) rfl ?_
         refine nil ?_
         refine hK66 _ ?_
         clear hK66 K66
         refine seqK fun K67 hK67 => ?_
         refine condE hE rfl (fun hc68 hE => ?_) (fun hc68 hE => ?_)
         ·try dsimp only at hc68
          have hf68 := of_decide_eq_true hc68
          refine AWp.skip ?_
          refine hK67 _ ?_
          clear hK67 K67
          refine seqK fun K69 hK69 => ?_
          refine block ?_
          refine seqK fun K70 hK70 => ?_
          refine region ?_
          obtain ⟨x71, gx71, hE⟩ := bindO_some hE
          refine s0 (idxMn (f := TArg.c) (n := s29_65) (TK rfl) rfl (TK rfl) rfl rfl rfl gx71) rfl ?_
          refine s0 (loadV (TK rfl) rfl rfl rfl) rfl ?_
          refine sL (allocLA (TK rfl) rfl) rfl ?_
          refine sLn (storeLFA (TK rfl) rfl rfl rfl rfl rfl) ?_
          refine nil ?_
          refine hK70 _ ?_
          clear hK70 K70
          refine freezeA 12 _ rfl (Keeps.c (k := 2) (by conv => lhs; whnf) (by rfl) (Keeps.c (k := 3) (by conv => lhs; whnf) (by rfl) (Keeps.c (k := 4) (by conv => lhs; whnf) (by rfl) (Keeps.c (k := 10) (by conv => lhs; whnf) (by rfl) (Keeps.c (k := 20) (by conv => lhs; whnf) (by rfl) (Keeps.c (k := 21) (by conv => lhs; whnf) (by rfl) (Keeps.c (k := 22) (by conv => lhs; whnf) (by rfl) (Keeps.c (k := 27) (by conv => lhs; whnf) (by rfl) (Keeps.c (k := 28) (by conv => lhs; whnf) (by rfl) (Keeps.c (k := 29) (by conv => lhs; whnf) (by rfl) Keeps.nil)))))))))) ?_
          refine region ?_
          refine s0 (fieldVA (TK rfl) rfl rfl (TK rfl) rfl rfl) rfl ?_
          refine s0 (loadV (TK rfl) rfl rfl rfl) rfl ?_
          refine s0 moveA rfl ?_
          obtain ⟨x72, gx72, hE⟩ := bindO_some hE
          refine sH (callH rfl rfl (Z59_walk gx72 _ hpG)) rfl ?_
          refine AOps.heq (h' := ((H.set c2 (some (.map (seenM y11_c2)))).set g3 (some (.tok 1 x72.l.length)))) (by first | rfl | (rw [Heap.set_set]; rfl) | (funext n_; simp only [Heap.set]; (repeat' split) <;> first | rfl | (exfalso; simp_all; done) | (simp_all; done))) ?_
          refine s0 assignA rfl ?_
          refine nil ?_
          refine hK69 _ ?_
          clear hK69 K69
          refine region ?_
          refine s0 (addIA rfl rfl) rfl ?_
          refine s0 moveA rfl ?_
          refine nil ?_
          exact hK63 _ (n63, x72, (s29_65 + 1)) Weak.toA hE (Nat.lt_succ_self _)
         refine AWp.exit ?_
         exact hK20 _ s3_64 Weak.toA hE
      rintro s3_21 hE
      try dsimp only at hE
      unfold Z60_j20 at hE
      refine seqJH (KeepsT.A (k := 2) (KeepsT.A (k := 4) (KeepsT.A (k := 10) (KeepsT.A (k := 20) (KeepsT.A (k := 21) (KeepsT.A (k := 22) KeepsT.nil)))))) (fun (z : (Sl Bs)) => [(3, .a (.d (Sl.d 1 strE (some g3) z)))]) (fun z => ((H.set c2 (some (.map (seenM y11_c2)))).set g3 (some (.tok 1 z.l.length)))) (fun z => Z60_j22 a0 s22_10 y11_c2 x19 ((Z60_l8 a0 a1 (Z60_n n) n8)) (Z60_n n) z = some r) ?_ ?_
      ·intro K22 hK22
       refine seqK fun K37 hK37 => ?_
       refine region ?_
       refine s0 (fieldVA (TK rfl) rfl rfl (TK rfl) rfl rfl) rfl ?_
       refine s0 (loadV (TK rfl) rfl rfl rfl) rfl ?_
       refine sLen (f := TDir.c) (s := x19.FDirs) (TK rfl) rfl rfl rfl rfl fun hL38 => ?_
       refine s0 moveA rfl ?_
       refine nil ?_
       refine hK37 _ ?_
       clear hK37 K37
       refine block ?_
       refine loopH (KeepsT.A (k := 2) (KeepsT.A (k := 4) (KeepsT.A (k := 10) (KeepsT.A (k := 20) (KeepsT.A (k := 21) (KeepsT.A (k := 22) (KeepsT.A (k := 39) (KeepsT.A (k := 40) KeepsT.nil)))))))) (fun (z : Nat × (Sl Bs) × Nat) => [(3, .a (.d (Sl.d 1 strE (some g3) z.2.1))), (41, .a (.d (.int .i64 ((z.2.2 : Nat) : Int))))]) (fun z => ((H.set c2 (some (.map (seenM y11_c2)))).set g3 (some (.tok 1 z.2.1.l.length)))) (fun z => z.1) (fun z => Z60_l39 a0 s22_10 y11_c2 x19 ((Z60_l8 a0 a1 (Z60_n n) n8)) (Z60_n n) z.1 z.2.1 z.2.2 = some r) ((x19.FDirs.l.length + 1), s3_21, 0) hE Weak.toA ?_
       rintro ⟨n39, s3_40, s41_41⟩ hE K39 hK39
       try dsimp only at hE
       cases n39 with
       | zero => cases hE
       | succ n39 =>
         rw [Z60_l39] at hE
         refine seqK fun K42 hK42 => ?_
         refine region ?_
         refine s0 (binI rfl rfl rfl) rfl ?_
         refine nil ?_
         refine hK42 _ ?_
         clear hK42 K42
         refine seqK fun K43 hK43 => ?_
         refine condE hE rfl (fun hc44 hE => ?_) (fun hc44 hE => ?_)
         ·try dsimp only at hc44
          have hf44 := of_decide_eq_true hc44
          refine AWp.skip ?_
          refine hK43 _ ?_
          clear hK43 K43
          refine seqJH (KeepsT.A (k := 2) (KeepsT.A (k := 4) (KeepsT.A (k := 10) (KeepsT.A (k := 20) (KeepsT.A (k := 21) (KeepsT.A (k := 22) (KeepsT.A (k := 39) (KeepsT.A (k := 40) (KeepsT.A (k := 41) KeepsT.nil))))))))) (fun (z : (Sl Bs)) => [(3, .a (.d (Sl.d 1 strE (some g3) z)))]) (fun z => ((H.set c2 (some (.map (seenM y11_c2)))).set g3 (some (.tok 1 z.l.length)))) (fun z => Z60_j45 s41_41 ((Z60_l39 a0 s22_10 y11_c2 x19 ((Z60_l8 a0 a1 (Z60_n n) n8)) (Z60_n n) n39)) z = some r) ?_ ?_
          ·intro K45 hK45
           refine block ?_
           refine seqK fun K47 hK47 => ?_
           refine region ?_
           obtain ⟨x48, gx48, hE⟩ := bindO_some hE
           refine s0 (idxMn (f := TDir.c) (n := s41_41) (TK rfl) rfl (TK rfl) rfl rfl rfl gx48) rfl ?_
           refine s0 (loadV (TK rfl) rfl rfl rfl) rfl ?_
           refine sL (allocLA (TK rfl) rfl) rfl ?_
           refine sLn (storeLFA (TK rfl) rfl rfl rfl rfl rfl) ?_
           refine nil ?_
           refine hK47 _ ?_
           clear hK47 K47
           refine freezeA 14 _ rfl (Keeps.c (k := 2) (by conv => lhs; whnf) (by rfl) (Keeps.c (k := 3) (by conv => lhs; whnf) (by rfl) (Keeps.c (k := 4) (by conv => lhs; whnf) (by rfl) (Keeps.c (k := 10) (by conv => lhs; whnf) (by rfl) (Keeps.c (k := 20) (by conv => lhs; whnf) (by rfl) (Keeps.c (k := 21) (by conv => lhs; whnf) (by rfl) (Keeps.c (k := 22) (by conv => lhs; whnf) (by rfl) (Keeps.c (k := 39) (by conv => lhs; whnf) (by rfl) (Keeps.c (k := 40) (by conv => lhs; whnf) (by rfl) (Keeps.c (k := 41) (by conv => lhs; whnf) (by rfl) Keeps.nil)))))))))) ?_
           refine seqK fun K49 hK49 => ?_
           refine region ?_
           refine s0 (fieldVA (TK rfl) rfl rfl (TK rfl) rfl rfl) rfl ?_
           refine s0 (loadV (TK rfl) rfl rfl rfl) rfl ?_
           refine sLen (f := TArg.c) (s := x48.FArgs) (TK rfl) rfl rfl rfl rfl fun hL50 => ?_
           refine s0 moveA rfl ?_
           refine nil ?_
           refine hK49 _ ?_
           clear hK49 K49
           refine block ?_
           refine loopH (KeepsT.A (k := 2) (KeepsT.A (k := 4) (KeepsT.A (k := 10) (KeepsT.A (k := 20) (KeepsT.A (k := 21) (KeepsT.A (k := 22) (KeepsT.A (k := 39) (KeepsT.A (k := 40) (KeepsT.A (k := 41) (KeepsT.A (k := 46) (KeepsT.A (k := 47) KeepsT.nil))))))))))) (fun (z : Nat × (Sl Bs) × Nat) => [(3, .a (.d (Sl.d 1 strE (some g3) z.2.1))), (48, .a (.d (.int .i64 ((z.2.2 : Nat) : Int))))]) (fun z => ((H.set c2 (some (.map (seenM y11_c2)))).set g3 (some (.tok 1 z.2.1.l.length)))) (fun z => z.1) (fun z => Z60_l51 s41_41 x48 ((Z60_l39 a0 s22_10 y11_c2 x19 ((Z60_l8 a0 a1 (Z60_n n) n8)) (Z60_n n) n39)) z.1 z.2.1 z.2.2 = some r) ((x48.FArgs.l.length + 1), s3_40, 0) hE Weak.toA ?_
           rintro ⟨n51, s3_52, s48_53⟩ hE K51 hK51
           try dsimp only at hE
           cases n51 with
           | zero => cases hE
           | succ n51 =>
             rw [Z60_l51] at hE
             refine seqK fun K54 hK54 => ?_
             refine region ?_
             refine s0 (binI rfl rfl rfl) rfl ?_
             refine nil ?_
             refine hK54 _ ?_
             clear hK54 K54
             refine seqK fun K55 hK55 => ?_
             refine condE hE rfl (fun hc56 hE => ?_) (fun hc56 hE => ?_)
             ·try dsimp only at hc56
              have hf56 := of_decide_eq_true hc56
              refine AWp.skip ?_
              refine hK55 _ ?_
              clear hK55 K55
              refine seqK fun K57 hK57 => ?_
              refine block ?_
              refine seqK fun K58 hK58 => ?_
              refine region ?_
              obtain ⟨x59, gx59, hE⟩ := bindO_some hE
              refine s0 (idxMn (f := TArg.c) (n := s48_53) (TK rfl) rfl (TK rfl) rfl rfl rfl gx59) rfl ?_
              refine s0 (loadV (TK rfl) rfl rfl rfl) rfl ?_
              refine sL (allocLA (TK rfl) rfl) rfl ?_
              refine sLn (storeLFA (TK rfl) rfl rfl rfl rfl rfl) ?_
              refine nil ?_
              refine hK58 _ ?_
              clear hK58 K58
              refine freezeA 16 _ rfl (Keeps.c (k := 2) (by conv => lhs; whnf) (by rfl) (Keeps.c (k := 3) (by conv => lhs; whnf) (by rfl) (Keeps.c (k := 4) (by conv => lhs; whnf) (by rfl) (Keeps.c (k := 10) (by conv => lhs; whnf) (by rfl) (Keeps.c (k := 20) (by conv => lhs; whnf) (by rfl) (Keeps.c (k := 21) (by conv => lhs; whnf) (by rfl) (Keeps.c (k := 22) (by conv => lhs; whnf) (by rfl) (Keeps.c (k := 39) (by conv => lhs; whnf) (by rfl) (Keeps.c (k := 40) (by conv => lhs; whnf) (by rfl) (Keeps.c (k := 41) (by conv => lhs; whnf) (by rfl) (Keeps.c (k := 46) (by conv => lhs; whnf) (by rfl) (Keeps.c (k := 47) (by conv => lhs; whnf) (by rfl) (Keeps.c (k := 48) (by conv => lhs; whnf) (by rfl) Keeps.nil))))))))))))) ?_
              refine region ?_
              refine s0 (fieldVA (TK rfl) rfl rfl (TK rfl) rfl rfl) rfl ?_
              refine s0 (loadV (TK rfl) rfl rfl rfl) rfl ?_
              refine s0 moveA rfl ?_
              obtain ⟨x60, gx60, hE⟩ := bindO_some hE
              refine sH (callH rfl rfl (Z59_walk gx60 _ hpG)) rfl ?_
              refine AOps.heq (h' := ((H.set c2 (some (.map (seenM y11_c2)))).set g3 (some (.tok 1 x60.l.length)))) (by first | rfl | (rw [Heap.set_set]; rfl) | (funext n_; simp only [Heap.set]; (repeat' split) <;> first | rfl | (exfalso; simp_all; done) | (simp_all; done))) ?_
              refine s0 assignA rfl ?_
              refine nil ?_
              refine hK57 _ ?_
              clear hK57 K57
              refine region ?_
              refine s0 (addIA rfl rfl) rfl ?_
              refine s0 moveA rfl ?_
              refine nil ?_
              exact hK51 _ (n51, x60, (s48_53 + 1)) Weak.toA hE (Nat.lt_succ_self _)
             refine AWp.exit ?_
             exact hK45 _ s3_52 Weak.toA hE
          rintro s3_46 hE
          try dsimp only at hE
          unfold Z60_j45 at hE
          refine region ?_
          refine s0 (addIA rfl rfl) rfl ?_
          refine s0 moveA rfl ?_
          refine nil ?_
          exact hK39 _ (n39, s3_46, (s41_41 + 1)) Weak.toA hE (Nat.lt_succ_self _)
         refine AWp.exit ?_
         exact hK22 _ s3_40 Weak.toA hE
      rintro s3_23 hE
      try dsimp only at hE
      unfold Z60_j22 at hE
      refine seqK fun K24 hK24 => ?_
      refine region ?_
      refine s0 (fieldVA (TK rfl) rfl rfl (TK rfl) rfl rfl) rfl ?_
      refine s0 (loadV (TK rfl) rfl rfl (congrArg (fun x => some (A.d x)) (TSel.FSelsD_eq _))) rfl ?_
      refine s0 assignA rfl ?_
      refine nil ?_
      refine hK24 _ ?_
      clear hK24 K24
      refine seqJH (KeepsT.A (k := 2) (KeepsT.A (k := 3) (KeepsT.A (k := 4) (KeepsT.A (k := 20) (KeepsT.A (k := 21) (KeepsT.A (k := 22) KeepsT.nil)))))) (fun (z : (Sl TSel) × (List Bs)) => [(17, .a (.d (Sl.d 7 TSel.c none z.1)))]) (fun z => ((H.set c2 (some (.map (seenM z.2)))).set g3 (some (.tok 1 s3_23.l.length)))) (fun z => Z60_j25 a0 s22_10 s3_23 ((Z60_l8 a0 a1 (Z60_n n) n8)) (Z60_n n) z.1 z.2 = some r) ?_ ?_
      ·intro K25 hK25
       refine seqK fun K29 hK29 => ?_
       refine region ?_
       refine s0 (fieldVA (TK rfl) rfl rfl (TK rfl) rfl rfl) rfl ?_
       refine s0 (loadV (TK rfl) rfl rfl rfl) rfl ?_
       refine s0 (binI rfl rfl rfl) rfl ?_
       refine nil ?_
       refine hK29 _ ?_
       clear hK29 K29
       refine condE hE rfl (fun hc30 hE => ?_) (fun hc30 hE => ?_)
       ·refine seqK fun K31 hK31 => ?_
        refine region ?_
        refine s0 (loadV (TK rfl) rfl rfl rfl) rfl ?_
        refine s0 (fieldVA (TK rfl) rfl rfl (TK rfl) rfl rfl) rfl ?_
        refine s0 (loadV (TK rfl) rfl rfl rfl) rfl ?_
        obtain ⟨x32, gx32, hE⟩ := bindO_some hE
        refine s0 (callP rfl rfl (fun H => Z1_walk gx32 H)) rfl ?_
        refine s0 moveA rfl ?_
        refine s0 (extract rfl rfl) rfl ?_
        refine s0 (extract rfl rfl) rfl ?_
        refine sL (allocLA (TK rfl) rfl) rfl ?_
        refine sLn (storeLFA (TK rfl) rfl rfl rfl rfl rfl) ?_
        refine s0 assignA rfl ?_
        refine nil ?_
        refine hK31 _ ?_
        clear hK31 K31
        refine freezeA 18 _ rfl (Keeps.c (k := 2) (by conv => lhs; whnf) (by rfl) (Keeps.c (k := 3) (by conv => lhs; whnf) (by rfl) (Keeps.c (k := 4) (by conv => lhs; whnf) (by rfl) (Keeps.c (k := 10) (by conv => lhs; whnf) (by rfl) (Keeps.c (k := 19) (by conv => lhs; whnf) (by rfl) (Keeps.c (k := 20) (by conv => lhs; whnf) (by rfl) (Keeps.c (k := 21) (by conv => lhs; whnf) (by rfl) (Keeps.c (k := 22) (by conv => lhs; whnf) (by rfl) Keeps.nil)))))))) ?_
        refine seqK fun K33 hK33 => ?_
        refine seqK fun K34 hK34 => ?_
        refine region ?_
        refine s0 moveA rfl ?_
        refine s0 (notB rfl) rfl ?_
        refine s0 moveA rfl ?_
        refine gC rfl rfl (fun hC => moveA) rfl ?_
        refine gC rfl rfl (fun hC => fieldVA (TK rfl) rfl rfl (TK rfl) rfl rfl) rfl ?_
        refine gC rfl rfl (fun hC => ungdA (k := 74) rfl (loadV (TK rfl) rfl rfl rfl)) rfl ?_
        refine gC rfl rfl (fun hC => ungdA (k := 73) rfl (ungdA (k := 75) rfl (lookupSeen (TK rfl) rfl (TK rfl) (TK rfl) rfl rfl rfl rfl hpG))) rfl ?_
        refine s0 (pickOrA rfl rfl rfl) rfl ?_
        refine nil ?_
        refine hK34 _ ?_
        clear hK34 K34
        refine condE hE rfl (fun hc35 hE => ?_) (fun hc35 hE => ?_)
        ·refine AWp.exit ?_
         exact hK15 _ (s3_23, y11_c2) Weak.toA hE
        refine AWp.skip ?_
        refine hK33 _ ?_
        clear hK33 K33
        refine seqK fun K36 hK36 => ?_
        refine region ?_
        refine s0 moveA rfl ?_
        refine s0 (fieldVA (TK rfl) rfl rfl (TK rfl) rfl rfl) rfl ?_
        refine s0 (loadV (TK rfl) rfl rfl rfl) rfl ?_
        refine sHn (mapUpdate (TK rfl) rfl (TK rfl) rfl rfl rfl rfl hpG (seen_upd _ _) rfl) rfl rfl ?_
        refine AOps.heq (h' := ((H.set c2 (some (.map (seenM (insS y11_c2 x19.FName))))).set g3 (some (.tok 1 s3_23.l.length)))) (by first | rfl | (rw [Heap.set_set]; rfl) | (funext n_; simp only [Heap.set]; (repeat' split) <;> first | rfl | (exfalso; simp_all; done) | (simp_all; done))) ?_
        refine nil ?_
        refine hK36 _ ?_
        clear hK36 K36
        refine region ?_
        refine s0 (fieldVA (TK rfl) rfl rfl (TK rfl) rfl rfl) rfl ?_
        refine s0 (loadV (TK rfl) rfl rfl rfl) rfl ?_
        refine s0 assignA rfl ?_
        refine nil ?_
        exact hK25 _ (x32.1.FSels, (insS y11_c2 x19.FName)) Weak.toA hE
       refine AWp.skip ?_
       exact hK25 _ (x19.FSels, y11_c2) Weak.toA hE
      rintro ⟨s17_26, y27_c2⟩ hE
      try dsimp only at hE
      unfold Z60_j25 at hE
      refine region ?_
      refine s0 (loadV (TK rfl) rfl rfl rfl) rfl ?_
      refine s0 moveA rfl ?_
      refine s0 moveA rfl ?_
      refine s0 moveA rfl ?_
      obtain ⟨x28, gx28, hE⟩ := bindO_some hE
      refine sH (callH rfl rfl (ih_16 gx28 _ hpG hpG)) rfl ?_
      refine AOps.heq (h' := ((H.set c2 (some (.map (seenM x28.2)))).set g3 (some (.tok 1 x28.1.l.length)))) (by first | rfl | (rw [Heap.set_set]; rfl) | (funext n_; simp only [Heap.set]; (repeat' split) <;> first | rfl | (exfalso; simp_all; done) | (simp_all; done))) ?_
      refine s0 assignA rfl ?_
      refine nil ?_
      exact hK15 _ (x28.1, x28.2) Weak.toA hE
     rintro ⟨s3_16, y17_c2⟩ hE
     try dsimp only at hE
     unfold Z60_j15 at hE
     refine region ?_
     refine s0 (addIA rfl rfl) rfl ?_
     refine s0 moveA rfl ?_
     refine nil ?_
     exact hK8 _ (n8, s3_16, (s22_10 + 1), y17_c2) Weak.toA hE (Nat.lt_succ_self _)
    refine AWp.exit ?_
    exact hK2 _ (s3_9, y11_c2) Weak.toA hE
 rintro ⟨s3_3, y4_c2⟩ hE
 try dsimp only at hE
 unfold Z60_j2 at hE
 refine seqK fun K5 hK5 => ?_
 refine region ?_
 refine s0 moveA rfl ?_
 refine s0 assignA rfl ?_
 refine nil ?_
 refine hK5 _ ?_
 clear hK5 K5
 refine AWp.ret ?_
 repeat (first | refine xBlock_ret ?_ | refine xThen_ret ?_)
 obtain rfl := Option.some.inj hE
 refine retQ.retF ((H.set c2 (some (.map (seenM y4_c2)))).set g3 (some (.tok 1 s3_3.l.length))) rfl ⟨rfl, rfl⟩ ?_
 exact (fun _ _ h => h)
theorem Z60_all : ∀ (n : Nat), (∀ {a0 : TQuery} {a1 : (Sl TSel)} {a2 : (List Bs)} {a3 : (Sl Bs)} {w1 : Option Nat} {c2 : Nat} {g3 : Nat} {r : ((Sl Bs) × (List Bs))}, Z60_n n a0 a1 a2 a3 = some r → ∀ (H : Heap) (hc2 : H c2 = some (.map (seenM a2))) (hg3 : H g3 = some (.tok 1 a3.l.length)), ACalls Tryd.prog 16 [.agg (TQuery.c a0), .d (Sl.d 7 TSel.c w1 a1), .d (.map c2), .d (Sl.d 1 strE (some g3) a3)] H fun v h' => v = .a (.d (Sl.d 1 strE (some g3) r.1)) ∧ h' = ((H.set c2 (some (.map (seenM r.2)))).set g3 (some (.tok 1 r.1.l.length))))
 | 0 => fun hE => by first | cases hE | (rw [Z60_n] at hE; cases hE)
 | n + 1 => Z60_step n (Z60_all n)
def Z60 (a0 : TQuery) (a1 : (Sl TSel)) (a2 : (List Bs)) (a3 : (Sl Bs)) : Option ((Sl Bs) × (List Bs)) := Z60_n F0 a0 a1 a2 a3
theorem Z60_walk {a0 : TQuery} {a1 : (Sl TSel)} {a2 : (List Bs)} {a3 : (Sl Bs)} {w1 : Option Nat} {c2 : Nat} {g3 : Nat} {r : ((Sl Bs) × (List Bs))} (hE : Z60 a0 a1 a2 a3 = some r) (H : Heap) (hc2 : H c2 = some (.map (seenM a2))) (hg3 : H g3 = some (.tok 1 a3.l.length)) : ACalls Tryd.prog 16 [.agg (TQuery.c a0), .d (Sl.d 7 TSel.c w1 a1), .d (.map c2), .d (Sl.d 1 strE (some g3) a3)] H fun v h' => v = .a (.d (Sl.d 1 strE (some g3) r.1)) ∧ h' = ((H.set c2 (some (.map (seenM r.2)))).set g3 (some (.tok 1 r.1.l.length))) := (Z60_all F0) hE H hc2 hg3
def Z36_j2   : Option Int := some (-1 : Int)
def Z36_l6 (a0 : (Sl Bs)) (a1 : Bs)  : Nat → Nat → Option Int
 | 0, _ => none
 | n6 + 1, s8_7 => bif (decide (((s8_7 : Nat) : Int) < ((a0.l.length : Nat) : Int))) then ((a0.l[s8_7]?).bind fun x14 => bif ((a1 == x14)) then (some ((s8_7 : Nat) : Int)) else ((Z36_l6 a0 a1 n6) (s8_7 + 1))) else (Z36_j2   )
def Z36 (a0 : (Sl Bs)) (a1 : Bs) : Option Int := Z36_l6 a0 a1 (a0.l.length + 1) 0
theorem Z36_walk {a0 : (Sl Bs)} {a1 : Bs} {w0 : Option Nat}  {r : Int} (hE : Z36 a0 a1 = some r) (H : Heap)  : ACalls Tryd.prog 30 [.d (Sl.d 1 strE w0 a0), .d (.str a1)] H fun v h' => v = .a (.d (.int .i64 r)) ∧ h' = H := by
 unfold Z36 at hE
 refine ACalls.of_wp (fn := Tryd.f30) (c := _) Tryd.tab_ok (fun _ _ => Tryd.call30 _ _) Tryd.func30 rfl (n := 19) rfl (rs := [.tmp 4]) rfl rfl ?_
 refine seqK fun K1 hK1 => ?_
 refine region ?_
 refine s0 assignA rfl ?_
 refine nil ?_
 refine hK1 _ ?_
 clear hK1 K1
 refine seqJH KeepsT.nil (fun (z : Unit) => []) (fun z => H) (fun z => Z36_j2  = some r) ?_ ?_
 ·intro K2 hK2
  refine seqK fun K4 hK4 => ?_
  refine region ?_
  refine s0 moveA rfl ?_
  refine sLen (f := strE) (s := a0) (TK rfl) rfl rfl rfl rfl fun hL5 => ?_
  refine s0 moveA rfl ?_
  refine nil ?_
  refine hK4 _ ?_
  clear hK4 K4
  refine block ?_
  refine loopH (KeepsT.A (k := 0) (KeepsT.A (k := 1) (KeepsT.A (k := 7) KeepsT.nil))) (fun (z : Nat × Nat) => [(8, .a (.d (.int .i64 ((z.2 : Nat) : Int))))]) (fun z => H) (fun z => z.1) (fun z => Z36_l6 a0 a1 z.1 z.2 = some r) ((a0.l.length + 1), 0) hE Weak.toA ?_
  rintro ⟨n6, s8_7⟩ hE K6 hK6
  try dsimp only at hE
  cases n6 with
  | zero => cases hE
  | succ n6 =>
    rw [Z36_l6] at hE
    refine seqK fun K8 hK8 => ?_
    refine region ?_
    refine s0 (binI rfl rfl rfl) rfl ?_
    refine nil ?_
    refine hK8 _ ?_
    clear hK8 K8
    refine seqK fun K9 hK9 => ?_
    refine condE hE rfl (fun hc10 hE => ?_) (fun hc10 hE => ?_)
    ·try dsimp only at hc10
     have hf10 := of_decide_eq_true hc10
     refine AWp.skip ?_
     refine hK9 _ ?_
     clear hK9 K9
     refine seqK fun K11 hK11 => ?_
     refine block ?_
     refine seqK fun K12 hK12 => ?_
     refine region ?_
     refine s0 moveA rfl ?_
     refine s0 assignA rfl ?_
     refine nil ?_
     refine hK12 _ ?_
     clear hK12 K12
     refine seqK fun K13 hK13 => ?_
     refine region ?_
     refine s0 moveA rfl ?_
     refine s0 moveA rfl ?_
     refine s0 moveA rfl ?_
     obtain ⟨x14, gx14, hE⟩ := bindO_some hE
     refine s0 (idxMn (f := strE) (n := s8_7) (TK rfl) rfl (TK rfl) rfl rfl rfl gx14) rfl ?_
     refine s0 (loadV (TK rfl) rfl rfl rfl) rfl ?_
     refine s0 (binS rfl rfl rfl) rfl ?_
     refine nil ?_
     refine hK13 _ ?_
     clear hK13 K13
     refine condE hE rfl (fun hc15 hE => ?_) (fun hc15 hE => ?_)
     ·refine seqK fun K16 hK16 => ?_
      refine region ?_
      refine s0 moveA rfl ?_
      refine s0 assignA rfl ?_
      refine nil ?_
      refine hK16 _ ?_
      clear hK16 K16
      refine AWp.ret ?_
      repeat (first | refine xBlock_ret ?_ | refine xThen_ret ?_)
      obtain rfl := Option.some.inj hE
      refine retQ.retF H rfl ⟨rfl, rfl⟩ ?_
      exact (fun _ _ h => h)
     refine AWp.skip ?_
     refine hK11 _ ?_
     clear hK11 K11
     refine region ?_
     refine s0 (addIA rfl rfl) rfl ?_
     refine s0 moveA rfl ?_
     refine nil ?_
     exact hK6 _ (n6, (s8_7 + 1)) Weak.toA hE (Nat.lt_succ_self _)
    refine AWp.exit ?_
    exact hK2 _ () Weak.toA hE
 rintro _ hE
 try dsimp only at hE
 unfold Z36_j2 at hE
 refine seqK fun K3 hK3 => ?_
 refine region ?_
 refine s0 assignA rfl ?_
 refine nil ?_
 refine hK3 _ ?_
 clear hK3 K3
 refine AWp.ret ?_
 repeat (first | refine xBlock_ret ?_ | refine xThen_ret ?_)
 obtain rfl := Option.some.inj hE
 refine retQ.retF H rfl ⟨rfl, rfl⟩ ?_
 exact (fun _ _ h => h)
def Z32 (a0 : (Sl Bs)) (a1 : Bs) : Option Bool := (Z36 a0 a1).bind fun x3 => some (decide ((0 : Int) ≤ x3))
theorem Z32_walk {a0 : (Sl Bs)} {a1 : Bs} {w0 : Option Nat}  {r : Bool} (hE : Z32 a0 a1 = some r) (H : Heap)  : ACalls Tryd.prog 17 [.d (Sl.d 1 strE w0 a0), .d (.str a1)] H fun v h' => v = .a (.d (.bool r)) ∧ h' = H := by
 unfold Z32 at hE
 refine ACalls.of_wp (fn := Tryd.f17) (c := _) Tryd.tab_ok (fun _ _ => Tryd.call17 _ _) Tryd.func17 rfl (n := 9) rfl (rs := [.tmp 4]) rfl rfl ?_
 refine seqK fun K1 hK1 => ?_
 refine region ?_
 refine s0 assignA rfl ?_
 refine nil ?_
 refine hK1 _ ?_
 clear hK1 K1
 refine seqK fun K2 hK2 => ?_
 refine region ?_
 refine s0 moveA rfl ?_
 refine s0 moveA rfl ?_
 obtain ⟨x3, gx3, hE⟩ := bindO_some hE
 refine s0 (callP rfl rfl (fun H => Z36_walk gx3 H)) rfl ?_
 refine s0 (binI rfl rfl rfl) rfl ?_
 refine s0 assignA rfl ?_
 refine nil ?_
 refine hK2 _ ?_
 clear hK2 K2
 refine AWp.ret ?_
 repeat (first | refine xBlock_ret ?_ | refine xThen_ret ?_)
 obtain rfl := Option.some.inj hE
 refine retQ.retF H rfl ⟨rfl, rfl⟩ ?_
 exact (fun _ _ h => h)
end Go.Proofs

namespace Go.Proofs
open Go Go.Ab
open AOps Cert AWp
def Z51_j7  (s5_8 : (Sl Bs)) : Option (Sl Bs) := some s5_8
def Z51_j21 (s27_17 : Int) (k_next_15 : (Sl Bs) → Int → Option (Sl Bs)) (s5_22 : (Sl Bs)) : Option (Sl Bs) := (addC s27_17 (1 : Int)).bind fun x23 => k_next_15 s5_22 x23
def Z51_l15 (x14 : ((Sl Bs) × (List Bs)))  : Nat → (Sl Bs) → Int → Option (Sl Bs)
 | 0, _, _ => none
 | n15 + 1, s5_16, s27_17 => bif (decide (s27_17 < ((x14.1.l.length : Nat) : Int))) then ((idxC x14.1.l s27_17).bind fun x25 => (Z32 s5_16 x25).bind fun x27 => bif (!x27) then ((appC 16 s5_16 (⟨false, [x25]⟩ : Sl Bs)).bind fun x29 => Z51_j21 s27_17 ((Z51_l15 x14 n15)) x29) else (Z51_j21 s27_17 ((Z51_l15 x14 n15)) s5_16)) else (Z51_j7   s5_16)
def Z51 (a0 : TQuery) (a1 : Int) : Option (Sl Bs) := bif ((decide (a1 < (0 : Int))) || (decide (((a0.FOps.l.length : Nat) : Int) ≤ a1))) then (some (Sl.nil : Sl Bs)) else ((idxC a0.FOps.l a1).bind fun x13 => (Z60 a0 x13.FSels ([] : List Bs) (Sl.nil : Sl Bs)).bind fun x14 => Z51_l15 x14 F0 (Sl.nil : Sl Bs) (0 : Int))
theorem Z51_walk {a0 : TQuery} {a1 : Int}   {r : (Sl Bs)} (hE : Z51 a0 a1 = some r) (H : Heap)  : ACalls Tryd.prog 7 [.agg (TQuery.c a0), .d (.int .i64 a1)] H fun v h' => v = .a (.d (Sl.d 1 strE none r)) ∧ h' = H := by
 unfold Z51 at hE
 refine ACalls.of_wp (fn := Tryd.f7) (c := _) Tryd.tab_ok (fun _ _ => Tryd.call7 _ _) Tryd.func7 rfl (n := 41) rfl (rs := [.tmp 4]) rfl rfl ?_
 refine AWp.tok 1 fun tk1 htk1 => ?_
 refine seqK fun K1 hK1 => ?_
 refine region ?_
 refine s0 (boxV rfl) rfl ?_
 refine s0 (assignNil (k' := 1) rfl) rfl ?_
 refine nil ?_
 refine hK1 _ ?_
 clear hK1 K1
 refine seqK fun K2 hK2 => ?_
 refine seqK fun K3 hK3 => ?_
 refine region ?_
 refine s0 moveA rfl ?_
 refine s0 (binI rfl rfl rfl) rfl ?_
 refine s0 moveA rfl ?_
 refine gC rfl rfl (fun hC => moveA) rfl ?_
 refine gC rfl rfl (fun hC => fieldVA (TK rfl) rfl rfl (TK rfl) rfl rfl) rfl ?_
 refine gC rfl rfl (fun hC => ungdA (k := 12) rfl (loadV (TK rfl) rfl rfl rfl)) rfl ?_
 refine gC rfl rfl (fun hC => ungdA (k := 13) rfl (lenM' (f := TOp.c) (s := a0.FOps) (TK rfl) rfl rfl rfl)) rfl ?_
 refine gC rfl rfl (fun hC => ungdA (k := 11) rfl (ungdA (k := 14) rfl (binI rfl rfl rfl))) rfl ?_
 refine s0 (pickOrA rfl rfl rfl) rfl ?_
 refine nil ?_
 refine hK3 _ ?_
 clear hK3 K3
 refine condE hE rfl (fun hc4 hE => ?_) (fun hc4 hE => ?_)
 ·refine seqK fun K5 hK5 => ?_
  refine region ?_
  refine s0 (assignNil (k' := 1) rfl) rfl ?_
  refine nil ?_
  refine hK5 _ ?_
  clear hK5 K5
  refine AWp.ret ?_
  repeat (first | refine xBlock_ret ?_ | refine xThen_ret ?_)
  obtain rfl := Option.some.inj hE
  refine retQ.retF H rfl ⟨rfl, rfl⟩ ?_
  first | exact Heap.sub_set htk1 | (simp only [Heap.set_set]; exact Heap.sub_set htk1)
 refine AWp.skip ?_
 refine hK2 _ ?_
 clear hK2 K2
 refine seqK fun K6 hK6 => ?_
 refine region ?_
 refine s0 assignA rfl ?_
 refine nil ?_
 refine hK6 _ ?_
 clear hK6 K6
 refine AWp.nilTok 5 1 tk1 rfl hpG ?_
 refine seqJH KeepsT.nil (fun (z : (Sl Bs)) => [(5, .a (.d (Sl.d 1 strE (some tk1) z)))]) (fun z => (H.set tk1 (some (.tok 1 z.l.length)))) (fun z => Z51_j7 z = some r) ?_ ?_
 ·intro K7 hK7
  refine seqK fun K10 hK10 => ?_
  refine AWp.tok 0 fun id24_11 hid24_11 => ?_
  obtain ⟨ne_id24_11_tk1, hid24_11⟩ := Heap.set_fresh hid24_11
  refine AWp.tok 1 fun tk3_12 htk3_12 => ?_
  obtain ⟨ne_tk3_12_id24_11, htk3_12⟩ := Heap.set_fresh htk3_12
  obtain ⟨ne_tk3_12_tk1, htk3_12⟩ := Heap.set_fresh htk3_12
  refine AWp.draw rfl ?_
  refine DOps.s0 (loadV (TK rfl) rfl rfl rfl) rfl ?_
  refine DOps.s0 (fieldVA (TK rfl) rfl rfl (TK rfl) rfl rfl) rfl ?_
  refine DOps.s0 (loadV (TK rfl) rfl rfl rfl) rfl ?_
  refine DOps.s0 moveA rfl ?_
  obtain ⟨x13, gx13, hE⟩ := bindO_some hE
  refine DOps.s0 (idxM (f := TOp.c) (TK rfl) rfl (TK rfl) rfl rfl rfl gx13) rfl ?_
  refine DOps.s0 (fieldVA (TK rfl) rfl rfl (TK rfl) rfl rfl) rfl ?_
  refine DOps.s0 (loadV (TK rfl) rfl rfl rfl) rfl ?_
  refine DOps.sH (makeMapT (id := id24_11) hpG) rfl ?_
  refine DOps.heq (h' := (((H.set tk1 (some (.tok 1 0))).set id24_11 (some (.map (seenM ([] : List Bs))))).set tk3_12 (some (.tok 1 0)))) (by first | rfl | (rw [Heap.set_set]; rfl) | (funext n_; simp only [Heap.set]; (repeat' split) <;> first | rfl | (exfalso; simp_all; done) | (simp_all; done))) ?_
  obtain ⟨x14, gx14, hE⟩ := bindO_some hE
  refine DOps.sH (callH rfl rfl (ACalls.asArgs (.cons (.refl _) (.cons (.refl _) (.cons (.refl _) (.cons (AsArg.nil (k' := 1) (t := tk3_12) hpG) .nil)))) (Z60_walk gx14 _ hpG hpG))) rfl ?_
  refine DOps.heq (h' := (((H.set tk1 (some (.tok 1 0))).set id24_11 (some (.map (seenM x14.2)))).set tk3_12 (some (.tok 1 x14.1.l.length)))) (by first | rfl | (rw [Heap.set_set]; rfl) | (funext n_; simp only [Heap.set]; (repeat' split) <;> first | rfl | (exfalso; simp_all; done) | (simp_all; done))) ?_
  refine DOps.s0 (lenM' (f := strE) (s := x14.1) (TK rfl) rfl rfl rfl) rfl ?_
  refine DOps.s0 moveA rfl ?_
  refine DOps.nil (by decide +kernel) ?_
  refine hK10 _ ?_
  clear hK10 K10
  refine AWp.dropTok 25 rfl ?_
  refine block ?_
  refine loopH (KeepsT.A (k := 25) (KeepsT.A (k := 26) KeepsT.nil)) (fun (z : Nat × (Sl Bs) × Int) => [(5, .a (.d (Sl.d 1 strE (some tk1) z.2.1))), (27, .a (.d (.int .i64 z.2.2)))]) (fun z => (((H.set tk1 (some (.tok 1 z.2.1.l.length))).set id24_11 (some (.map (seenM x14.2)))).set tk3_12 (some (.tok 1 x14.1.l.length)))) (fun z => z.1) (fun z => Z51_l15 x14 z.1 z.2.1 z.2.2 = some r) (F0, (Sl.nil : Sl Bs), (0 : Int)) hE Weak.toA ?_
  rintro ⟨n15, s5_16, s27_17⟩ hE K15 hK15
  try dsimp only at hE
  cases n15 with
  | zero => cases hE
  | succ n15 =>
    rw [Z51_l15] at hE
    refine seqK fun K18 hK18 => ?_
    refine region ?_
    refine s0 (binI rfl rfl rfl) rfl ?_
    refine nil ?_
    refine hK18 _ ?_
    clear hK18 K18
    refine seqK fun K19 hK19 => ?_
    refine condE hE rfl (fun hc20 hE => ?_) (fun hc20 hE => ?_)
    ·refine AWp.skip ?_
     refine hK19 _ ?_
     clear hK19 K19
     refine seqJH (KeepsT.A (k := 25) (KeepsT.A (k := 26) (KeepsT.A (k := 27) KeepsT.nil))) (fun (z : (Sl Bs)) => [(5, .a (.d (Sl.d 1 strE (some tk1) z)))]) (fun z => (((H.set tk1 (some (.tok 1 z.l.length))).set id24_11 (some (.map (seenM x14.2)))).set tk3_12 (some (.tok 1 x14.1.l.length)))) (fun z => Z51_j21 s27_17 ((Z51_l15 x14 n15)) z = some r) ?_ ?_
     ·intro K21 hK21
      refine block ?_
      refine seqK fun K24 hK24 => ?_
      refine region ?_
      obtain ⟨x25, gx25, hE⟩ := bindO_some hE
      refine s0 (idxM (f := strE) (TK rfl) rfl (TK rfl) rfl rfl rfl gx25) rfl ?_
      refine s0 (loadV (TK rfl) rfl rfl rfl) rfl ?_
      refine s0 assignA rfl ?_
      refine nil ?_
      refine hK24 _ ?_
      clear hK24 K24
      refine seqK fun K26 hK26 => ?_
      refine region ?_
      refine s0 moveA rfl ?_
      refine s0 moveA rfl ?_
      obtain ⟨x27, gx27, hE⟩ := bindO_some hE
      refine s0 (callP rfl rfl (fun H => Z32_walk gx27 H)) rfl ?_
      refine s0 (notB rfl) rfl ?_
      refine nil ?_
      refine hK26 _ ?_
      clear hK26 K26
      refine condE hE rfl (fun hc28 hE => ?_) (fun hc28 hE => ?_)
      ·refine region ?_
       refine s0 moveA rfl ?_
       refine s0 moveA rfl ?_
       refine s0 (buildSlice (TK rfl) rfl (TK rfl) rfl rfl rfl rfl rfl rfl) rfl ?_
       obtain ⟨x29, gx29, hE⟩ := bindO_some hE
       refine sH (appM (f := strE) (TK rfl) rfl (TK rfl) (TK rfl) ⟨_, rfl⟩ rfl rfl (by decide) rfl rfl rfl rfl hpG rfl gx29) rfl ?_
       refine AOps.heq (h' := (((H.set tk1 (some (.tok 1 x29.l.length))).set id24_11 (some (.map (seenM x14.2)))).set tk3_12 (some (.tok 1 x14.1.l.length)))) (by first | rfl | (rw [Heap.set_set]; rfl) | (funext n_; simp only [Heap.set]; (repeat' split) <;> first | rfl | (exfalso; simp_all; done) | (simp_all; done))) ?_
       refine s0 assignA rfl ?_
       refine nil ?_
       exact hK21 _ x29 Weak.toA hE
      refine AWp.skip ?_
      exact hK21 _ s5_16 Weak.toA hE
     rintro s5_22 hE
     try dsimp only at hE
     unfold Z51_j21 at hE
     refine region ?_
     obtain ⟨x23, gx23, hE⟩ := bindO_some hE
     refine s0 (addM rfl rfl gx23) rfl ?_
     refine s0 moveA rfl ?_
     refine nil ?_
     exact hK15 _ (n15, s5_22, x23) Weak.toA hE (Nat.lt_succ_self _)
    refine AWp.exit ?_
    exact hK7 _ s5_16 (Weak.toFA (by (intro id_ o_ he_); (have e_id24_11 : id_ ≠ id24_11 := fun e_ => by rw [e_] at he_; simp [Heap.set, hid24_11, ne_id24_11_tk1] at he_); (have e_tk3_12 : id_ ≠ tk3_12 := fun e_ => by rw [e_] at he_; simp [Heap.set, htk3_12, ne_tk3_12_tk1] at he_); (rw [← he_]); (simp only [Heap.set, if_neg e_id24_11, if_neg e_tk3_12]); (first | done | rfl))) hE
 rintro s5_8 hE
 try dsimp only at hE
 unfold Z51_j7 at hE
 refine seqK fun K9 hK9 => ?_
 refine region ?_
 refine s0 moveA rfl ?_
 refine s0 assignA rfl ?_
 refine nil ?_
 refine hK9 _ ?_
 clear hK9 K9
 refine AWp.dropTok 4 rfl ?_
 refine AWp.ret ?_
 repeat (first | refine xBlock_ret ?_ | refine xThen_ret ?_)
 obtain rfl := Option.some.inj hE
 refine retQ.retF H rfl ⟨rfl, rfl⟩ ?_
 first | exact Heap.sub_set htk1 | (simp only [Heap.set_set]; exact Heap.sub_set htk1)
def Z34_j8   : Option Bool := some true
def Z34_l12 (a0 : (Sl Int)) (a1 : (Sl Int))  : Nat → Nat → Option Bool
 | 0, _ => none
 | n12 + 1, s13_13 => bif (decide (((s13_13 : Nat) : Int) < ((a0.l.length : Nat) : Int))) then ((a0.l[s13_13]?).bind fun x20 => (a1.l[s13_13]?).bind fun x21 => bif (!decide (x20 = x21)) then (some false) else ((Z34_l12 a0 a1 n12) (s13_13 + 1))) else (Z34_j8   )
def Z34 (a0 : (Sl Int)) (a1 : (Sl Int)) : Option Bool := bif (!decide (((a0.l.length : Nat) : Int) = ((a1.l.length : Nat) : Int))) then (some false) else (Z34_l12 a0 a1 (a0.l.length + 1) 0)
theorem Z34_walk {a0 : (Sl Int)} {a1 : (Sl Int)} {w0 : Option Nat} {w1 : Option Nat}  {r : Bool} (hE : Z34 a0 a1 = some r) (H : Heap)  : ACalls Tryd.prog 57 [.d (Sl.d 1 (intE .i64) w0 a0), .d (Sl.d 1 (intE .i64) w1 a1)] H fun v h' => v = .a (.d (.bool r)) ∧ h' = H := by
 unfold Z34 at hE
 refine ACalls.of_wp (fn := Tryd.f57) (c := _) Tryd.tab_ok (fun _ _ => Tryd.call57 _ _) Tryd.func57 rfl (n := 26) rfl (rs := [.tmp 4]) rfl rfl ?_
 refine seqK fun K1 hK1 => ?_
 refine region ?_
 refine s0 assignA rfl ?_
 refine nil ?_
 refine hK1 _ ?_
 clear hK1 K1
 refine seqK fun K2 hK2 => ?_
 refine seqK fun K3 hK3 => ?_
 refine region ?_
 refine s0 moveA rfl ?_
 refine sLen (f := (intE .i64)) (s := a0) (TK rfl) rfl rfl rfl rfl fun hL4 => ?_
 refine s0 moveA rfl ?_
 refine sLen (f := (intE .i64)) (s := a1) (TK rfl) rfl rfl rfl rfl fun hL5 => ?_
 refine s0 (binI rfl rfl rfl) rfl ?_
 refine nil ?_
 refine hK3 _ ?_
 clear hK3 K3
 refine condE hE rfl (fun hc6 hE => ?_) (fun hc6 hE => ?_)
 ·refine seqK fun K7 hK7 => ?_
  refine region ?_
  refine s0 assignA rfl ?_
  refine nil ?_
  refine hK7 _ ?_
  clear hK7 K7
  refine AWp.ret ?_
  repeat (first | refine xBlock_ret ?_ | refine xThen_ret ?_)
  obtain rfl := Option.some.inj hE
  refine retQ.retF H rfl ⟨rfl, rfl⟩ ?_
  exact (fun _ _ h => h)
 refine AWp.skip ?_
 refine hK2 _ ?_
 clear hK2 K2
 refine seqJH KeepsT.nil (fun (z : Unit) => []) (fun z => H) (fun z => Z34_j8  = some r) ?_ ?_
 ·intro K8 hK8
  refine seqK fun K10 hK10 => ?_
  refine region ?_
  refine s0 moveA rfl ?_
  refine sLen (f := (intE .i64)) (s := a0) (TK rfl) rfl rfl rfl rfl fun hL11 => ?_
  refine s0 moveA rfl ?_
  refine nil ?_
  refine hK10 _ ?_
  clear hK10 K10
  refine block ?_
  refine loopH (KeepsT.A (k := 0) (KeepsT.A (k := 1) (KeepsT.A (k := 12) KeepsT.nil))) (fun (z : Nat × Nat) => [(13, .a (.d (.int .i64 ((z.2 : Nat) : Int))))]) (fun z => H) (fun z => z.1) (fun z => Z34_l12 a0 a1 z.1 z.2 = some r) ((a0.l.length + 1), 0) hE Weak.toA ?_
  rintro ⟨n12, s13_13⟩ hE K12 hK12
  try dsimp only at hE
  cases n12 with
  | zero => cases hE
  | succ n12 =>
    rw [Z34_l12] at hE
    refine seqK fun K14 hK14 => ?_
    refine region ?_
    refine s0 (binI rfl rfl rfl) rfl ?_
    refine nil ?_
    refine hK14 _ ?_
    clear hK14 K14
    refine seqK fun K15 hK15 => ?_
    refine condE hE rfl (fun hc16 hE => ?_) (fun hc16 hE => ?_)
    ·try dsimp only at hc16
     have hf16 := of_decide_eq_true hc16
     refine AWp.skip ?_
     refine hK15 _ ?_
     clear hK15 K15
     refine seqK fun K17 hK17 => ?_
     refine block ?_
     refine seqK fun K18 hK18 => ?_
     refine region ?_
     refine s0 moveA rfl ?_
     refine s0 assignA rfl ?_
     refine nil ?_
     refine hK18 _ ?_
     clear hK18 K18
     refine seqK fun K19 hK19 => ?_
     refine AWp.draw rfl ?_
     refine DOps.s0 moveA rfl ?_
     refine DOps.s0 moveA rfl ?_
     obtain ⟨x20, gx20, hE⟩ := bindO_some hE
     refine DOps.s0 (idxMn (f := (intE .i64)) (n := s13_13) (TK rfl) rfl (TK rfl) rfl rfl rfl gx20) rfl ?_
     refine DOps.s0 (loadV (TK rfl) rfl rfl rfl) rfl ?_
     refine DOps.s0 moveA rfl ?_
     refine DOps.s0 moveA rfl ?_
     obtain ⟨x21, gx21, hE⟩ := bindO_some hE
     refine DOps.s0 (idxMn (f := (intE .i64)) (n := s13_13) (TK rfl) rfl (TK rfl) rfl rfl rfl gx21) rfl ?_
     refine DOps.s0 (loadV (TK rfl) rfl rfl rfl) rfl ?_
     refine DOps.s0 (binI rfl rfl rfl) rfl ?_
     refine DOps.nil (by decide +kernel) ?_
     refine hK19 _ ?_
     clear hK19 K19
     refine condE hE rfl (fun hc22 hE => ?_) (fun hc22 hE => ?_)
     ·refine seqK fun K23 hK23 => ?_
      refine region ?_
      refine s0 assignA rfl ?_
      refine nil ?_
      refine hK23 _ ?_
      clear hK23 K23
      refine AWp.ret ?_
      repeat (first | refine xBlock_ret ?_ | refine xThen_ret ?_)
      obtain rfl := Option.some.inj hE
      refine retQ.retF H rfl ⟨rfl, rfl⟩ ?_
      exact (fun _ _ h => h)
     refine AWp.skip ?_
     refine hK17 _ ?_
     clear hK17 K17
     refine region ?_
     refine s0 (addIA rfl rfl) rfl ?_
     refine s0 moveA rfl ?_
     refine nil ?_
     exact hK12 _ (n12, (s13_13 + 1)) Weak.toA hE (Nat.lt_succ_self _)
    refine AWp.exit ?_
    exact hK8 _ () Weak.toA hE
 rintro _ hE
 try dsimp only at hE
 unfold Z34_j8 at hE
 refine seqK fun K9 hK9 => ?_
 refine region ?_
 refine s0 assignA rfl ?_
 refine nil ?_
 refine hK9 _ ?_
 clear hK9 K9
 refine AWp.ret ?_
 repeat (first | refine xBlock_ret ?_ | refine xThen_ret ?_)
 obtain rfl := Option.some.inj hE
 refine retQ.retF H rfl ⟨rfl, rfl⟩ ?_
 exact (fun _ _ h => h)
def Z30 (a0 : (Sl Int)) : Option (Sl Int) := bif a0.nl then (some (Sl.nil : Sl Int)) else ((appC 8 (⟨false, []⟩ : Sl Int) a0).bind fun x7 => some x7)
theorem Z30_walk {a0 : (Sl Int)} {w0 : Option Nat}  {r : (Sl Int)} (hE : Z30 a0 = some r) (H : Heap)  : ACalls Tryd.prog 81 [.d (Sl.d 1 (intE .i64) w0 a0)] H fun v h' => v = .a (.d (Sl.d 1 (intE .i64) none r)) ∧ h' = H := by
 unfold Z30 at hE
 refine ACalls.of_wp (fn := Tryd.f81) (c := _) Tryd.tab_ok (fun _ _ => Tryd.call81 _ _) Tryd.func81 rfl (n := 8) rfl (rs := [.tmp 2]) rfl rfl ?_
 refine seqK fun K1 hK1 => ?_
 refine region ?_
 refine s0 (assignNil (k' := 1) rfl) rfl ?_
 refine nil ?_
 refine hK1 _ ?_
 clear hK1 K1
 refine seqK fun K2 hK2 => ?_
 refine seqK fun K3 hK3 => ?_
 refine region ?_
 refine s0 moveA rfl ?_
 refine s0 (eqNil (TK rfl) rfl rfl) rfl ?_
 refine nil ?_
 refine hK3 _ ?_
 clear hK3 K3
 refine condE hE rfl (fun hc4 hE => ?_) (fun hc4 hE => ?_)
 ·refine seqK fun K5 hK5 => ?_
  refine region ?_
  refine s0 (assignNil (k' := 1) rfl) rfl ?_
  refine nil ?_
  refine hK5 _ ?_
  clear hK5 K5
  refine AWp.ret ?_
  repeat (first | refine xBlock_ret ?_ | refine xThen_ret ?_)
  obtain rfl := Option.some.inj hE
  refine retQ.retF H rfl ⟨rfl, rfl⟩ ?_
  exact (fun _ _ h => h)
 refine AWp.skip ?_
 refine hK2 _ ?_
 clear hK2 K2
 refine seqK fun K6 hK6 => ?_
 refine region ?_
 refine s0 (buildSliceF (TK rfl) rfl (TK rfl) rfl rfl rfl rfl rfl rfl) rfl ?_
 refine s0 moveA rfl ?_
 obtain ⟨x7, gx7, hE⟩ := bindO_some hE
 refine s0 (appFM (f := (intE .i64)) (TK rfl) rfl (TK rfl) (TK rfl) ⟨_, rfl⟩ rfl rfl (by decide) rfl rfl rfl (by intro q h; cases h <;> decide) rfl rfl gx7) rfl ?_
 refine s0 assignA rfl ?_
 refine nil ?_
 refine hK6 _ ?_
 clear hK6 K6
 refine AWp.ret ?_
 repeat (first | refine xBlock_ret ?_ | refine xThen_ret ?_)
 obtain rfl := Option.some.inj hE
 refine retQ.retF H rfl ⟨rfl, rfl⟩ ?_
 exact (fun _ _ h => h)
theorem Z30_arr {a0 : (Sl Int)} {w0 : Option Nat}  {ar0 : Nat} {r : (Sl Int)} (hE : Z30 a0 = some r) (H : Heap) (har0 : H ar0 = some (.arr 1 []))  : ACalls Tryd.prog 81 [.d (Sl.d 1 (intE .i64) w0 a0)] H fun v h' => v = .a (.d (.arr 1 ar0 r.nl r.l.length)) ∧ h' = H.set ar0 (some (.arr 1 (r.l.map (intE .i64)))) := by
 unfold Z30 at hE
 refine ACalls.of_wp (fn := Tryd.f81) (c := _) Tryd.tab_ok (fun _ _ => Tryd.call81 _ _) Tryd.func81 rfl (n := 8) rfl (rs := [.tmp 2]) rfl rfl ?_
 refine AWp.heqA (h' := (H.set ar0 (some (.arr 1 [])))) (by funext n_; simp only [Heap.set]; (repeat' split) <;> simp_all) ?_
 refine seqK fun K1 hK1 => ?_
 refine region ?_
 refine s0 (assignNil (k' := 1) rfl) rfl ?_
 refine AOps.nilR 2 1 ar0 rfl hpG ?_
 refine nil ?_
 refine hK1 _ ?_
 clear hK1 K1
 refine seqK fun K2 hK2 => ?_
 refine seqK fun K3 hK3 => ?_
 refine region ?_
 refine s0 moveA rfl ?_
 refine s0 (eqNil (TK rfl) rfl rfl) rfl ?_
 refine nil ?_
 refine hK3 _ ?_
 clear hK3 K3
 refine condE hE rfl (fun hc4 hE => ?_) (fun hc4 hE => ?_)
 ·refine seqK fun K5 hK5 => ?_
  refine region ?_
  refine s0 (assignNil (k' := 1) rfl) rfl ?_
  refine AOps.nilR 2 1 ar0 rfl hpG ?_
  refine nil ?_
  refine hK5 _ ?_
  clear hK5 K5
  refine AWp.ret ?_
  repeat (first | refine xBlock_ret ?_ | refine xThen_ret ?_)
  obtain rfl := Option.some.inj hE
  refine retQ.retF (H.set ar0 (some (.arr 1 []))) rfl ⟨rfl, rfl⟩ ?_
  exact (fun _ _ h => h)
 refine AWp.skip ?_
 refine hK2 _ ?_
 clear hK2 K2
 refine seqK fun K6 hK6 => ?_
 refine region ?_
 refine s0 (buildSliceF (TK rfl) rfl (TK rfl) rfl rfl rfl rfl rfl rfl) rfl ?_
 refine AOps.fullR 5 1 ar0 rfl hpG ?_
 refine s0 moveA rfl ?_
 obtain ⟨x7, gx7, hE⟩ := bindO_some hE
 refine sH (appR (f := (intE .i64)) (s := (⟨false, []⟩ : Sl Int)) (TK rfl) rfl (TK rfl) (TK rfl) ⟨_, rfl⟩ rfl rfl rfl rfl rfl rfl hpG (by first | rfl | simp [Sl.setL, Sl.nil, sortL_len]) rfl gx7) rfl ?_
 refine AOps.heq (h' := (H.set ar0 (some (.arr 1 (x7.l.map (intE .i64)))))) (by first | rfl | (rw [Heap.set_set]; rfl) | (funext n_; simp only [Heap.set]; (repeat' split) <;> first | rfl | (exfalso; simp_all; done) | (simp_all; done))) ?_
 refine s0 assignA rfl ?_
 refine nil ?_
 refine hK6 _ ?_
 clear hK6 K6
 refine AWp.ret ?_
 repeat (first | refine xBlock_ret ?_ | refine xThen_ret ?_)
 obtain rfl := Option.some.inj hE
 refine retQ.retF (H.set ar0 (some (.arr 1 (x7.l.map (intE .i64))))) rfl ⟨rfl, rfl⟩ ?_
 exact (fun _ _ h => h)
def Tryd.lay82_ren : Go.Shelf.Ren := ⟨fun | 10 => 82 | 6 => 91 | n => n, fun | 22 => 30 | 23 => 3 | 25 => 136 | 3 => 3 | 4 => 4 | 0 => 0 | n => n, fun | n => n⟩
theorem Tryd.lay82 : Go.Proofs.SlLaysH.n10 Tryd.prog Tryd.lay82_ren := {
 mixed := by kernel_rfl
 f6 := ⟨Tryd.f91.name, by decide, Tryd.func91.trans (congrArg some (by kernel_rfl))⟩
 f10 := ⟨Tryd.f82.name, by decide, Tryd.func82.trans (congrArg some (by kernel_rfl))⟩
 t0 := Tryd.underlying0
 a0 := Tryd.isAgg0
 z0 := Tryd.sizeOf0
 v0 := Tryd.zeroValue0
 t3 := Tryd.underlying3
 a3 := Tryd.isAgg3
 z3 := Tryd.sizeOf3
 v3 := Tryd.zeroValue3
 t4 := Tryd.underlying4
 a4 := Tryd.isAgg4
 z4 := Tryd.sizeOf4
 v4 := Tryd.zeroValue4
 t22 := Tryd.underlying30
 a22 := Tryd.isAgg30
 z22 := Tryd.sizeOf30
 v22 := Tryd.zeroValue30
 a23 := Tryd.isAgg3
 z23 := Tryd.sizeOf3
 t25 := Tryd.underlying136
 a25 := Tryd.isAgg136
 z25 := Tryd.sizeOf136
 v25 := Tryd.zeroValue136 }
theorem Z33_walk {s : Sl Int} {f : Int → Option Bool} {g : Nat} (ht : ∀ x, ∃ z, f x = some z) (eg : ∀ args w, (callFunc g args).run Tryd.prog w = .ok (.enter g args) w) (hg : ∀ x z w, f x = some z → Calls Tryd.prog g #[.int .i64 x] w fun e w' => e = .returned (.bool z) ∧ w' = w)
  {H : Heap} {id m : Nat} {nl : Bool} (hH : H id = some (.arr 1 (s.l.map (intE .i64)))) (hm : m = s.l.length) (hn : nl = s.nl) : ACalls Tryd.prog 82 [.d (.arr 1 id nl m), .d (.func g [])] H fun r h' => r = .a (.d (Sl.d 1 (intE .i64) none (delL f s))) ∧ h' = H.set id none :=
 delI_calls Tryd.lay82 Tryd.zeroValue3 ht eg hg hH hm hn rfl
def Z48 (a0 : Int) : Option Bool := some (decide (a0 = (1 : Int)))
theorem Z48_tot (x : Int) : ∃ z, Z48 x = some z := ⟨_, rfl⟩
theorem Z48_enter (args : Array Value) (w : World) : (callFunc 83 args).run Tryd.prog w = .ok (.enter 83 args) w := Tryd.call83 args w
theorem Z48_calls (x : Int) (z : Bool) (w : World) (h : Z48 x = some z) : Calls Tryd.prog 83 #[.int .i64 x] w fun e w' => e = .returned (.bool z) ∧ w' = w := by
 obtain rfl := Option.some.inj h
 go_enter Tryd.func83, Tryd.ntmps83
 go_wp2
 go_ret
 exact ⟨rfl, rfl⟩
def Z47 (a0 : (Sl Int)) : Option (Sl Int) := (Z30 a0).bind fun x3 => (some (delL Z48 x3)).bind fun x4 => some x4
theorem Z47_walk {a0 : (Sl Int)} {w0 : Option Nat}  {r : (Sl Int)} (hE : Z47 a0 = some r) (H : Heap)  : ACalls Tryd.prog 70 [.d (Sl.d 1 (intE .i64) w0 a0)] H fun v h' => v = .a (.d (Sl.d 1 (intE .i64) none r)) ∧ h' = H := by
 unfold Z47 at hE
 refine ACalls.of_wp (fn := Tryd.f70) (c := _) Tryd.tab_ok (fun _ _ => Tryd.call70 _ _) Tryd.func70 rfl (n := 6) rfl (rs := [.tmp 2]) rfl rfl ?_
 refine AWp.arrO 1 fun ar1 har1 => ?_
 refine seqK fun K1 hK1 => ?_
 refine region ?_
 refine s0 (assignNil (k' := 1) rfl) rfl ?_
 refine nil ?_
 refine hK1 _ ?_
 clear hK1 K1
 refine seqK fun K2 hK2 => ?_
 refine region ?_
 refine s0 moveA rfl ?_
 obtain ⟨x3, gx3, hE⟩ := bindO_some hE
 refine sH (callH rfl rfl (Z30_arr gx3 _ hpG)) rfl ?_
 refine AOps.heq (h' := (H.set ar1 (some (.arr 1 (x3.l.map (intE .i64)))))) (by first | rfl | (rw [Heap.set_set]; rfl) | (funext n_; simp only [Heap.set]; (repeat' split) <;> first | rfl | (exfalso; simp_all; done) | (simp_all; done))) ?_
 obtain ⟨x4, gx4, hE⟩ := bindO_some hE
 have ex4 := Option.some.inj gx4
 refine sH (callH rfl rfl (Z33_walk (s := x3) (f := Z48) Z48_tot Z48_enter Z48_calls hpG (by first | rfl | simp [Sl.setL, Sl.nil, sortL_len]) rfl)) rfl ?_
 refine AOps.heq (h' := H) (by first | rfl | (rw [Heap.set_set]; rfl) | (funext n_; simp only [Heap.set]; (repeat' split) <;> first | rfl | (exfalso; simp_all; done) | (simp_all; done))) ?_
 rw [ex4]
 refine s0 assignA rfl ?_
 refine nil ?_
 refine hK2 _ ?_
 clear hK2 K2
 refine AWp.ret ?_
 repeat (first | refine xBlock_ret ?_ | refine xThen_ret ?_)
 obtain rfl := Option.some.inj hE
 refine retQ.retF H rfl ⟨rfl, rfl⟩ ?_
 exact (fun _ _ h => h)
def Z45 (a0 : TRef) (a1 : TRef) : Option Bool := guardO (((a0.FName == a1.FName))) (Z47 a0.FWraps) (Sl.nil : Sl Int) fun x3 => guardO (((a0.FName == a1.FName))) (Z47 a1.FWraps) (Sl.nil : Sl Int) fun x4 => guardO (((a0.FName == a1.FName))) (Z34 x3 x4) false fun x5 => some (((a0.FName == a1.FName)) && x5)
theorem Z45_walk {a0 : TRef} {a1 : TRef}   {r : Bool} (hE : Z45 a0 a1 = some r) (H : Heap)  : ACalls Tryd.prog 54 [.agg (TRef.c a0), .agg (TRef.c a1)] H fun v h' => v = .a (.d (.bool r)) ∧ h' = H := by
 unfold Z45 at hE
 refine ACalls.of_wp (fn := Tryd.f54) (c := _) Tryd.tab_ok (fun _ _ => Tryd.call54 _ _) Tryd.func54 rfl (n := 19) rfl (rs := [.tmp 4]) rfl rfl ?_
 refine seqK fun K1 hK1 => ?_
 refine region ?_
 refine s0 (boxV rfl) rfl ?_
 refine s0 (boxV rfl) rfl ?_
 refine s0 assignA rfl ?_
 refine nil ?_
 refine hK1 _ ?_
 clear hK1 K1
 refine seqK fun K2 hK2 => ?_
 refine AWp.draw rfl ?_
 refine DOps.s0 (fieldVA (TK rfl) rfl rfl (TK rfl) rfl rfl) rfl ?_
 refine DOps.s0 (loadV (TK rfl) rfl rfl rfl) rfl ?_
 refine DOps.s0 (fieldVA (TK rfl) rfl rfl (TK rfl) rfl rfl) rfl ?_
 refine DOps.s0 (loadV (TK rfl) rfl rfl rfl) rfl ?_
 refine DOps.s0 (binS rfl rfl rfl) rfl ?_
 refine DOps.s0 moveA rfl ?_
 refine DOps.gC rfl rfl (fun hC => fieldVA (TK rfl) rfl rfl (TK rfl) rfl rfl) rfl ?_
 refine DOps.gC rfl rfl (fun hC => ungdA (k := 11) rfl (loadV (TK rfl) rfl rfl rfl)) rfl ?_
 obtain ⟨x3, gx3, hE⟩ := guardO_some hE
 refine DOps.gC rfl rfl (fun hC => ungdA (k := 12) rfl (callP rfl rfl (fun H => Z47_walk (gx3 hC) H))) rfl ?_
 refine DOps.gC rfl rfl (fun hC => fieldVA (TK rfl) rfl rfl (TK rfl) rfl rfl) rfl ?_
 refine DOps.gC rfl rfl (fun hC => ungdA (k := 14) rfl (loadV (TK rfl) rfl rfl rfl)) rfl ?_
 obtain ⟨x4, gx4, hE⟩ := guardO_some hE
 refine DOps.gC rfl rfl (fun hC => ungdA (k := 15) rfl (callP rfl rfl (fun H => Z47_walk (gx4 hC) H))) rfl ?_
 obtain ⟨x5, gx5, hE⟩ := guardO_some hE
 refine DOps.gC rfl rfl (fun hC => ungdA (k := 13) rfl (ungdA (k := 16) rfl (callP rfl rfl (fun H => Z34_walk (gx5 hC) H)))) rfl ?_
 refine DOps.s0 (pickAndA rfl rfl rfl) rfl ?_
 refine DOps.s0 assignA rfl ?_
 refine DOps.nil (by decide +kernel) ?_
 refine hK2 _ ?_
 clear hK2 K2
 refine AWp.ret ?_
 repeat (first | refine xBlock_ret ?_ | refine xThen_ret ?_)
 obtain rfl := Option.some.inj hE
 refine retQ.retF H rfl ⟨rfl, rfl⟩ ?_
 exact (fun _ _ h => h)
def Z40 (a0 : TRef) : Option Bool := guardO ((decide ((0 : Int) < ((a0.FWraps.l.length : Nat) : Int)))) (a0.FWraps.l[0]?) (0 : Int) fun x4 => some ((decide ((0 : Int) < ((a0.FWraps.l.length : Nat) : Int))) && (decide (x4 = (1 : Int))))
theorem Z40_walk {a0 : TRef}   {r : Bool} (hE : Z40 a0 = some r) (H : Heap)  : ACalls Tryd.prog 55 [.agg (TRef.c a0)] H fun v h' => v = .a (.d (.bool r)) ∧ h' = H := by
 unfold Z40 at hE
 refine ACalls.of_wp (fn := Tryd.f55) (c := _) Tryd.tab_ok (fun _ _ => Tryd.call55 _ _) Tryd.func55 rfl (n := 14) rfl (rs := [.tmp 2]) rfl rfl ?_
 refine seqK fun K1 hK1 => ?_
 refine region ?_
 refine s0 (boxV rfl) rfl ?_
 refine s0 assignA rfl ?_
 refine nil ?_
 refine hK1 _ ?_
 clear hK1 K1
 refine seqK fun K2 hK2 => ?_
 refine region ?_
 refine s0 (fieldVA (TK rfl) rfl rfl (TK rfl) rfl rfl) rfl ?_
 refine s0 (loadV (TK rfl) rfl rfl rfl) rfl ?_
 refine sLen (f := (intE .i64)) (s := a0.FWraps) (TK rfl) rfl rfl rfl rfl fun hL3 => ?_
 refine s0 (binI rfl rfl rfl) rfl ?_
 refine s0 moveA rfl ?_
 refine gC rfl rfl (fun hC => fieldVA (TK rfl) rfl rfl (TK rfl) rfl rfl) rfl ?_
 refine gC rfl rfl (fun hC => ungdA (k := 8) rfl (loadV (TK rfl) rfl rfl rfl)) rfl ?_
 obtain ⟨x4, gx4, hE⟩ := guardO_some hE
 refine gC rfl rfl (fun hC => ungdA (k := 9) rfl (idxMn (f := (intE .i64)) (n := 0) (TK rfl) rfl (TK rfl) rfl rfl rfl (gx4 hC))) rfl ?_
 refine gC rfl rfl (fun hC => ungdA (k := 10) rfl (loadV (TK rfl) rfl rfl rfl)) rfl ?_
 refine gC rfl rfl (fun hC => ungdA (k := 11) rfl (binI rfl rfl rfl)) rfl ?_
 refine s0 (pickAndA rfl rfl rfl) rfl ?_
 refine s0 assignA rfl ?_
 refine nil ?_
 refine hK2 _ ?_
 clear hK2 K2
 refine AWp.ret ?_
 repeat (first | refine xBlock_ret ?_ | refine xThen_ret ?_)
 obtain rfl := Option.some.inj hE
 refine retQ.retF H rfl ⟨rfl, rfl⟩ ?_
 exact (fun _ _ h => h)
def Z43_j3 (a0 : TRef)  (s3_4 : (Sl Int)) : Option TRef := (Z30 s3_4).bind fun x6 => some (TRef.mk a0.FName x6)
def Z43 (a0 : TRef) : Option TRef := (Z40 a0).bind fun x8 => bif x8 then ((partC a0.FWraps (some (1 : Int)) none).bind fun x10 => Z43_j3 a0  x10) else (Z43_j3 a0  a0.FWraps)
theorem Z43_walk {a0 : TRef}   {r : TRef} (hE : Z43 a0 = some r) (H : Heap)  : ACalls Tryd.prog 72 [.agg (TRef.c a0)] H fun v h' => v = .a (.agg (TRef.c r)) ∧ h' = H := by
 unfold Z43 at hE
 refine ACalls.of_wp (fn := Tryd.f72) (c := _) Tryd.tab_ok (fun _ _ => Tryd.call72 _ _) Tryd.func72 rfl (n := 15) rfl (rs := [.cell 2 32]) rfl rfl ?_
 refine seqK fun K1 hK1 => ?_
 refine region ?_
 refine s0 (boxV rfl) rfl ?_
 refine sL (allocLA (TK rfl) rfl) rfl ?_
 refine nil ?_
 refine hK1 _ ?_
 clear hK1 K1
 refine seqK fun K2 hK2 => ?_
 refine region ?_
 refine s0 (fieldVA (TK rfl) rfl rfl (TK rfl) rfl rfl) rfl ?_
 refine s0 (loadV (TK rfl) rfl rfl rfl) rfl ?_
 refine s0 assignA rfl ?_
 refine nil ?_
 refine hK2 _ ?_
 clear hK2 K2
 refine seqJH (KeepsT.A (k := 1) (KeepsT.A (k := 2) KeepsT.nil)) (fun (z : (Sl Int)) => [(3, .a (.d (Sl.d 1 (intE .i64) none z)))]) (fun z => H) (fun z => Z43_j3 a0 z = some r) ?_ ?_
 ·intro K3 hK3
  refine seqK fun K7 hK7 => ?_
  refine region ?_
  refine s0 (loadV (TK rfl) rfl rfl rfl) rfl ?_
  obtain ⟨x8, gx8, hE⟩ := bindO_some hE
  refine s0 (callP rfl rfl (fun H => Z40_walk gx8 H)) rfl ?_
  refine nil ?_
  refine hK7 _ ?_
  clear hK7 K7
  refine condE hE rfl (fun hc9 hE => ?_) (fun hc9 hE => ?_)
  ·refine region ?_
   refine s0 moveA rfl ?_
   obtain ⟨x10, gx10, hE⟩ := bindO_some hE
   refine s0 (partM (f := (intE .i64)) (l := (some (1 : Int))) (r := none) (TK rfl) rfl (TK rfl) rfl rfl rfl trivial gx10) rfl ?_
   refine s0 assignA rfl ?_
   refine nil ?_
   exact hK3 _ x10 Weak.toA hE
  refine AWp.skip ?_
  exact hK3 _ a0.FWraps Weak.toA hE
 rintro s3_4 hE
 try dsimp only at hE
 unfold Z43_j3 at hE
 refine seqK fun K5 hK5 => ?_
 refine AWp.draw rfl ?_
 refine DOps.s0 (fieldVA (TK rfl) rfl rfl (TK rfl) rfl rfl) rfl ?_
 refine DOps.s0 (loadV (TK rfl) rfl rfl rfl) rfl ?_
 refine DOps.s0 moveA rfl ?_
 obtain ⟨x6, gx6, hE⟩ := bindO_some hE
 refine DOps.s0 (callP rfl rfl (fun H => Z30_walk gx6 H)) rfl ?_
 refine DOps.s0 (build Tryd.tab_ok rfl rfl rfl rfl rfl rfl) rfl ?_
 refine DOps.sLn (storeLFA (TK rfl) rfl rfl rfl rfl rfl) ?_
 refine DOps.nil (by decide +kernel) ?_
 refine hK5 _ ?_
 clear hK5 K5
 refine AWp.ret ?_
 repeat (first | refine xBlock_ret ?_ | refine xThen_ret ?_)
 obtain rfl := Option.some.inj hE
 refine retQ.retF H rfl ⟨rfl, rfl⟩ ?_
 exact (fun _ _ h => h)
def Z39 (a0 : TRef) : Option Bool := (Z43 a0).bind fun x3 => guardO ((decide ((0 : Int) < ((x3.FWraps.l.length : Nat) : Int)))) (x3.FWraps.l[0]?) (0 : Int) fun x6 => some ((decide ((0 : Int) < ((x3.FWraps.l.length : Nat) : Int))) && (decide (x6 = (2 : Int))))
theorem Z39_walk {a0 : TRef}   {r : Bool} (hE : Z39 a0 = some r) (H : Heap)  : ACalls Tryd.prog 71 [.agg (TRef.c a0)] H fun v h' => v = .a (.d (.bool r)) ∧ h' = H := by
 unfold Z39 at hE
 refine ACalls.of_wp (fn := Tryd.f71) (c := _) Tryd.tab_ok (fun _ _ => Tryd.call71 _ _) Tryd.func71 rfl (n := 16) rfl (rs := [.tmp 2]) rfl rfl ?_
 refine seqK fun K1 hK1 => ?_
 refine region ?_
 refine sL (boxL rfl (by repeat (first | exact Snoc.nil | apply Snoc.cons))) rfl ?_
 refine s0 assignA rfl ?_
 refine nil ?_
 refine hK1 _ ?_
 clear hK1 K1
 refine seqK fun K2 hK2 => ?_
 refine region ?_
 refine s0 (loadL (TK rfl) rfl rfl rfl rfl) rfl ?_
 obtain ⟨x3, gx3, hE⟩ := bindO_some hE
 refine s0 (callP rfl rfl (fun H => Z43_walk gx3 H)) rfl ?_
 refine sLn (storeLFA (TK rfl) rfl rfl rfl rfl rfl) ?_
 refine nil ?_
 refine hK2 _ ?_
 clear hK2 K2
 refine seqK fun K4 hK4 => ?_
 refine region ?_
 refine s0 (fieldL (TK rfl) rfl rfl (TK rfl) rfl rfl) rfl ?_
 refine s0 (loadL (TK rfl) rfl rfl rfl rfl) rfl ?_
 refine sLen (f := (intE .i64)) (s := x3.FWraps) (TK rfl) rfl rfl rfl rfl fun hL5 => ?_
 refine s0 (binI rfl rfl rfl) rfl ?_
 refine s0 moveA rfl ?_
 refine gC rfl rfl (fun hC => fieldL (TK rfl) rfl rfl (TK rfl) rfl rfl) rfl ?_
 refine gC rfl rfl (fun hC => ungdLA (k := 10) rfl (loadL (TK rfl) rfl rfl rfl rfl)) rfl ?_
 obtain ⟨x6, gx6, hE⟩ := guardO_some hE
 refine gC rfl rfl (fun hC => ungdA (k := 11) rfl (idxMn (f := (intE .i64)) (n := 0) (TK rfl) rfl (TK rfl) rfl rfl rfl (gx6 hC))) rfl ?_
 refine gC rfl rfl (fun hC => ungdA (k := 12) rfl (loadV (TK rfl) rfl rfl rfl)) rfl ?_
 refine gC rfl rfl (fun hC => ungdA (k := 13) rfl (binI rfl rfl rfl)) rfl ?_
 refine s0 (pickAndA rfl rfl rfl) rfl ?_
 refine s0 assignA rfl ?_
 refine nil ?_
 refine hK4 _ ?_
 clear hK4 K4
 refine AWp.ret ?_
 repeat (first | refine xBlock_ret ?_ | refine xThen_ret ?_)
 obtain rfl := Option.some.inj hE
 refine retQ.retF H rfl ⟨rfl, rfl⟩ ?_
 exact (fun _ _ h => h)
def Z38 (a0 : TRef) : Option (TRef × Bool) := (Z39 a0).bind fun x4 => bif (!x4) then (some ((TRef.mk ([] : Bs) (Sl.nil : Sl Int)), false)) else ((Z43 a0).bind fun x8 => (partC x8.FWraps (some (1 : Int)) none).bind fun x10 => some ((TRef.mk x8.FName x10), true))
theorem Z38_walk {a0 : TRef}   {r : (TRef × Bool)} (hE : Z38 a0 = some r) (H : Heap)  : ACalls Tryd.prog 56 [.agg (TRef.c a0)] H fun v h' => v = .tup [.agg (TRef.c r.1), .d (.bool r.2)] ∧ h' = H := by
 unfold Z38 at hE
 refine ACalls.of_wp (fn := Tryd.f56) (c := _) Tryd.tab_ok (fun _ _ => Tryd.call56 _ _) Tryd.func56 rfl (n := 15) rfl (rs := [.cell 2 32, .tmp 3]) rfl rfl ?_
 refine seqK fun K1 hK1 => ?_
 refine region ?_
 refine sL (boxL rfl (by repeat (first | exact Snoc.nil | apply Snoc.cons))) rfl ?_
 refine sL (allocLA (TK rfl) rfl) rfl ?_
 refine s0 assignA rfl ?_
 refine nil ?_
 refine hK1 _ ?_
 clear hK1 K1
 refine seqK fun K2 hK2 => ?_
 refine seqK fun K3 hK3 => ?_
 refine region ?_
 refine s0 (loadL (TK rfl) rfl rfl rfl rfl) rfl ?_
 obtain ⟨x4, gx4, hE⟩ := bindO_some hE
 refine s0 (callP rfl rfl (fun H => Z39_walk gx4 H)) rfl ?_
 refine s0 (notB rfl) rfl ?_
 refine nil ?_
 refine hK3 _ ?_
 clear hK3 K3
 refine condE hE rfl (fun hc5 hE => ?_) (fun hc5 hE => ?_)
 ·refine seqK fun K6 hK6 => ?_
  refine region ?_
  refine s0 (build Tryd.tab_ok rfl rfl rfl rfl rfl rfl) rfl ?_
  refine sLn (storeLFA (TK rfl) rfl rfl rfl rfl rfl) ?_
  refine s0 assignA rfl ?_
  refine nil ?_
  refine hK6 _ ?_
  clear hK6 K6
  refine AWp.ret ?_
  repeat (first | refine xBlock_ret ?_ | refine xThen_ret ?_)
  obtain rfl := Option.some.inj hE
  refine retQ.retF H rfl ⟨rfl, rfl⟩ ?_
  exact (fun _ _ h => h)
 refine AWp.skip ?_
 refine hK2 _ ?_
 clear hK2 K2
 refine seqK fun K7 hK7 => ?_
 refine region ?_
 refine s0 (loadL (TK rfl) rfl rfl rfl rfl) rfl ?_
 obtain ⟨x8, gx8, hE⟩ := bindO_some hE
 refine s0 (callP rfl rfl (fun H => Z43_walk gx8 H)) rfl ?_
 refine sLn (storeLFA (TK rfl) rfl rfl rfl rfl rfl) ?_
 refine nil ?_
 refine hK7 _ ?_
 clear hK7 K7
 refine seqK fun K9 hK9 => ?_
 refine region ?_
 refine s0 (fieldL (TK rfl) rfl rfl (TK rfl) rfl rfl) rfl ?_
 refine s0 (loadL (TK rfl) rfl rfl rfl rfl) rfl ?_
 obtain ⟨x10, gx10, hE⟩ := bindO_some hE
 refine s0 (partM (f := (intE .i64)) (l := (some (1 : Int))) (r := none) (TK rfl) rfl (TK rfl) rfl rfl rfl trivial gx10) rfl ?_
 refine s0 (fieldL (TK rfl) rfl rfl (TK rfl) rfl rfl) rfl ?_
 refine sLn (storeL1 (TK rfl) rfl rfl rfl rfl (by repeat (first | exact SetAt.zero | apply SetAt.succ)) (by repeat (first | exact SetAt.zero | apply SetAt.succ))) ?_
 refine nil ?_
 refine hK9 _ ?_
 clear hK9 K9
 refine seqK fun K11 hK11 => ?_
 refine region ?_
 refine s0 (loadL (TK rfl) rfl rfl rfl rfl) rfl ?_
 refine sLn (storeLFA (TK rfl) rfl rfl rfl rfl rfl) ?_
 refine s0 assignA rfl ?_
 refine nil ?_
 refine hK11 _ ?_
 clear hK11 K11
 refine AWp.ret ?_
 repeat (first | refine xBlock_ret ?_ | refine xThen_ret ?_)
 obtain rfl := Option.some.inj hE
 refine retQ.retF H rfl ⟨rfl, rfl⟩ ?_
 exact (fun _ _ h => h)
end Go.Proofs
