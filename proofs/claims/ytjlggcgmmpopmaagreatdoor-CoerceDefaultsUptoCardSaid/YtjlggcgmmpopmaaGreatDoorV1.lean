import Derived.Test.YtjlggcgmmpopmaaGreatDoorE3
import Derived.Test.YtjlggcgmmpopmaaGreatDoorTab
set_option maxRecDepth 100000
set_option maxHeartbeats 2000000
set_option linter.unusedVariables false
set_option linter.unusedSimpArgs false
namespace Go.Proofs
open Go Go.Ab
inductive TValue where
 | mk (FKind : Int) (FInt : Int) (FText : Bs) (FItems_nl : Bool) (FItems_l : List TValue) (FKeys : (Sl Bs))
def TValue.FKind : TValue → Int | .mk x _ _ _ _ _ => x
def TValue.FInt : TValue → Int | .mk _ x _ _ _ _ => x
def TValue.FText : TValue → Bs | .mk _ _ x _ _ _ => x
def TValue.FItems : TValue → (Sl TValue) | .mk _ _ _ nl l _ => ⟨nl, l⟩
def TValue.FKeys : TValue → (Sl Bs) | .mk _ _ _ _ _ x => x
noncomputable def TValue.FItemsD : TValue → D := @TValue.rec (fun _ => D) (fun _ => List (List D)) (fun _ _ _ nl _ _ ih => .slice 5 none nl ih) [] (fun v _ ih ihl => ((intE .i64) v.FKind ++ (intE .i64) v.FInt ++ strE v.FText ++ [ih] ++ (fun s => [Sl.d 1 strE none s]) v.FKeys) :: ihl)
noncomputable def TValue.c (v : TValue) : List D := (intE .i64) v.FKind ++ (intE .i64) v.FInt ++ strE v.FText ++ [v.FItemsD] ++ (fun s => [Sl.d 1 strE none s]) v.FKeys
theorem TValue.FItemsD_eq (v : TValue) : v.FItemsD = Sl.d 5 TValue.c none v.FItems := by
 cases v with
 | mk y_Kind y_Int y_Text nl l y_Keys =>
  show D.slice 5 none nl _ = D.slice 5 none nl (l.map TValue.c)
  congr 1
  induction l with
  | nil => rfl
  | cons a r ih => exact congrArg (TValue.c a :: ·) ih
noncomputable def TValue.cu (v : TValue) : List D := (intE .i64) v.FKind ++ (intE .i64) v.FInt ++ strE v.FText ++ [Sl.d 5 TValue.c none v.FItems] ++ (fun s => [Sl.d 1 strE none s]) v.FKeys
theorem TValue.cu_eq (v : TValue) : v.c = v.cu := by unfold TValue.c TValue.cu; rw [TValue.FItemsD_eq]
def TValue.zero : TValue := .mk (0 : Int) (0 : Int) ([] : Bs) true [] (Sl.nil : Sl Bs)
structure TArg where
 FName : Bs
 FValue : TValue
noncomputable def TArg.c (x : TArg) : List D := strE x.FName ++ TValue.c x.FValue
def TArg.zero : TArg := ⟨([] : Bs), TValue.zero⟩
structure TDir where
 FName : Bs
 FArgs : (Sl TArg)
noncomputable def TDir.c (x : TDir) : List D := [.str x.FName, Sl.d 6 TArg.c none x.FArgs]
def TDir.zero : TDir := ⟨([] : Bs), (Sl.nil : Sl TArg)⟩
structure TRef where
 FName : Bs
 FWraps : (Sl Int)
noncomputable def TRef.c (x : TRef) : List D := [.str x.FName, Sl.d 1 (intE .i64) none x.FWraps]
def TRef.zero : TRef := ⟨([] : Bs), (Sl.nil : Sl Int)⟩
structure TInput where
 FName : Bs
 FType : TRef
 FHas : Bool
 FDefault : TValue
 FDirs : (Sl TDir)
noncomputable def TInput.c (x : TInput) : List D := strE x.FName ++ TRef.c x.FType ++ boolE x.FHas ++ TValue.c x.FDefault ++ (fun s => [Sl.d 2 TDir.c none s]) x.FDirs
def TInput.zero : TInput := ⟨([] : Bs), TRef.zero, false, TValue.zero, (Sl.nil : Sl TDir)⟩
structure TField where
 FName : Bs
 FArgs : (Sl TInput)
 FType : TRef
 FDirs : (Sl TDir)
noncomputable def TField.c (x : TField) : List D := strE x.FName ++ (fun s => [Sl.d 10 TInput.c none s]) x.FArgs ++ TRef.c x.FType ++ (fun s => [Sl.d 2 TDir.c none s]) x.FDirs
def TField.zero : TField := ⟨([] : Bs), (Sl.nil : Sl TInput), TRef.zero, (Sl.nil : Sl TDir)⟩
structure TMember where
 FName : Bs
 FDirs : (Sl TDir)
noncomputable def TMember.c (x : TMember) : List D := [.str x.FName, Sl.d 2 TDir.c none x.FDirs]
def TMember.zero : TMember := ⟨([] : Bs), (Sl.nil : Sl TDir)⟩
structure TDef where
 FKind : Int
 FName : Bs
 FImplements : (Sl Bs)
 FDirs : (Sl TDir)
 FFields : (Sl TField)
 FMembers : (Sl TMember)
 FInputs : (Sl TInput)
noncomputable def TDef.c (x : TDef) : List D := [.int .i64 x.FKind, .str x.FName, Sl.d 1 strE none x.FImplements, Sl.d 2 TDir.c none x.FDirs, Sl.d 5 TField.c none x.FFields, Sl.d 2 TMember.c none x.FMembers, Sl.d 10 TInput.c none x.FInputs]
def TDef.zero : TDef := ⟨(0 : Int), ([] : Bs), (Sl.nil : Sl Bs), (Sl.nil : Sl TDir), (Sl.nil : Sl TField), (Sl.nil : Sl TMember), (Sl.nil : Sl TInput)⟩
structure TDoc where
 FDefs : (Sl TDef)
noncomputable def TDoc.c (x : TDoc) : List D := [Sl.d 7 TDef.c none x.FDefs]
def TDoc.zero : TDoc := ⟨(Sl.nil : Sl TDef)⟩
structure TVar where
 FName : Bs
 FType : TRef
 FHas : Bool
 FDefault : TValue
noncomputable def TVar.c (x : TVar) : List D := strE x.FName ++ TRef.c x.FType ++ boolE x.FHas ++ TValue.c x.FDefault
def TVar.zero : TVar := ⟨([] : Bs), TRef.zero, false, TValue.zero⟩
structure TFault where
 FErr : Int
 FAt : Bs
def TFault.c (x : TFault) : List D := [.int .i64 x.FErr, .str x.FAt]
def TFault.zero : TFault := ⟨(0 : Int), ([] : Bs)⟩
structure Coerce_coercer where
 Fd : TDoc
 Fvars : TValue
 Fliteral : Bool
 Fnodes : Int
noncomputable def Coerce_coercer.c (x : Coerce_coercer) : List D := TDoc.c x.Fd ++ TValue.c x.Fvars ++ boolE x.Fliteral ++ (intE .i64) x.Fnodes
def Coerce_coercer.zero : Coerce_coercer := ⟨TDoc.zero, TValue.zero, false, (0 : Int)⟩
structure R12_work where
 Fd : TDoc
 Fvars : TValue
 Flit : Bool
 Fcount : Int
 Ferr : Int
noncomputable def R12_work.c (x : R12_work) : List D := TDoc.c x.Fd ++ TValue.c x.Fvars ++ boolE x.Flit ++ (intE .i64) x.Fcount ++ (intE .i64) x.Ferr
def R12_work.zero : R12_work := ⟨TDoc.zero, TValue.zero, false, (0 : Int), (0 : Int)⟩
end Go.Proofs

namespace Go.Proofs
open Go Go.Ab Go.RowKit
section
variable {H : Type} {B : DataW H → Nat} (hB : Bulk B)
noncomputable def TValue.sz : TValue → Nat := @TValue.rec (fun _ => Nat) (fun _ => Nat) (fun y_Kind y_Int y_Text nl l y_Keys ih => (fun _ => 1) y_Kind + ((fun _ => 1) y_Int + (Bs.sz y_Text + ((1 + ih) + ((Sl.sz Bs.sz) y_Keys + (0)))))) 0 (fun _ _ ih ihl => ih + ihl)
noncomputable def TValue.szL : List TValue → Nat := @TValue.rec_1 (fun _ => Nat) (fun _ => Nat) (fun y_Kind y_Int y_Text nl l y_Keys ih => (fun _ => 1) y_Kind + ((fun _ => 1) y_Int + (Bs.sz y_Text + ((1 + ih) + ((Sl.sz Bs.sz) y_Keys + (0)))))) 0 (fun _ _ ih ihl => ih + ihl)
theorem TValue.szL_eq (l : List TValue) : TValue.szL l = (l.map TValue.sz).sum := by
 induction l with
 | nil => rfl
 | cons a r ih => exact congrArg (TValue.sz a + ·) ih
theorem TValue.sz_eq (x : TValue) : x.sz = (fun _ => 1) x.FKind + ((fun _ => 1) x.FInt + (Bs.sz x.FText + ((Sl.sz TValue.sz) x.FItems + ((Sl.sz Bs.sz) x.FKeys + (0))))) := by
 cases x with
 | mk y_Kind y_Int y_Text nl l y_Keys =>
  show (fun _ => 1) y_Kind + ((fun _ => 1) y_Int + (Bs.sz y_Text + ((1 + TValue.szL l) + ((Sl.sz Bs.sz) y_Keys + (0))))) = _
  rw [TValue.szL_eq]; rfl
def TValue.wf : TValue → Prop := @TValue.rec (fun _ => Prop) (fun _ => Prop) (fun y_Kind y_Int y_Text nl l y_Keys ih => i64 y_Kind ∧ (i64 y_Int ∧ ((fun _ => True) y_Text ∧ (((nl = true → l = []) ∧ l.length ≤ maxN ∧ ih) ∧ ((Sl.wf (fun _ => True)) y_Keys ∧ (True)))))) True (fun _ _ ih ihl => ih ∧ ihl)
def TValue.wfL : List TValue → Prop := @TValue.rec_1 (fun _ => Prop) (fun _ => Prop) (fun y_Kind y_Int y_Text nl l y_Keys ih => i64 y_Kind ∧ (i64 y_Int ∧ ((fun _ => True) y_Text ∧ (((nl = true → l = []) ∧ l.length ≤ maxN ∧ ih) ∧ ((Sl.wf (fun _ => True)) y_Keys ∧ (True)))))) True (fun _ _ ih ihl => ih ∧ ihl)
theorem TValue.wfL_iff (l : List TValue) : TValue.wfL l ↔ ∀ x ∈ l, TValue.wf x := by
 induction l with
 | nil => exact ⟨fun _ _ h => (by cases h), fun _ => trivial⟩
 | cons a r ih =>
  show (TValue.wf a ∧ TValue.wfL r) ↔ _
  rw [ih]; simp
theorem TValue.wf_iff (x : TValue) : x.wf ↔ i64 x.FKind ∧ (i64 x.FInt ∧ ((fun _ => True) x.FText ∧ ((Sl.wf TValue.wf) x.FItems ∧ ((Sl.wf (fun _ => True)) x.FKeys ∧ (True))))) := by
 cases x with
 | mk y_Kind y_Int y_Text nl l y_Keys =>
  show (i64 y_Kind ∧ (i64 y_Int ∧ ((fun _ => True) y_Text ∧ (((nl = true → l = []) ∧ l.length ≤ maxN ∧ TValue.wfL l) ∧ ((Sl.wf (fun _ => True)) y_Keys ∧ (True)))))) ↔ _
  rw [TValue.wfL_iff]; exact Iff.rfl
include hB in
theorem rd_TValue_31 : ∀ N, RdN Tryz.prog B N 31 TValue.c TValue.sz TValue.wf := by
 have key : ∀ N M, M ≤ N → RdN Tryz.prog B M 31 TValue.c TValue.sz TValue.wf := by
  intro N
  induction N with
  | zero => intro M hM; rw [Nat.le_zero.1 hM]; exact .zero
  | succ N ih =>
   intro M hM
   cases M with
   | zero => exact .zero
   | succ N_ =>
    have hit : RdN Tryz.prog B N_ 28 (fun s : Sl TValue => [Sl.d 5 TValue.c none s]) (Sl.sz TValue.sz) (Sl.wf TValue.wf) := by
     cases N_ with
     | zero => exact .zero
     | succ M => exact RdS.sliceN hB (Tryz.tab_ok 28 _ rfl) rfl (Tryz.tab_ok 31 _ rfl) rfl (by decide) (fun _ => rfl) (ih M (by omega))
    refine RdN.struct hB (Tryz.tab_ok 31 _ rfl) rfl (RdP.cons (n := 5) (o := 0) (o' := 1) (Tryz.tab_ok 3 _ rfl) rfl ((RdS.int hB (Tryz.tab_ok 3 _ rfl) rfl) N_) (RdP.cons (n := 5) (o := 1) (o' := 2) (Tryz.tab_ok 3 _ rfl) rfl ((RdS.int hB (Tryz.tab_ok 3 _ rfl) rfl) N_) (RdP.cons (n := 5) (o := 2) (o' := 3) (Tryz.tab_ok 9 _ rfl) rfl ((RdS.str hB (Tryz.tab_ok 9 _ rfl) rfl) N_) (RdP.cons (n := 5) (o := 3) (o' := 4) (Tryz.tab_ok 28 _ rfl) rfl hit (RdP.cons (n := 5) (o := 4) (o' := 5) (Tryz.tab_ok 29 _ rfl) rfl ((RdS.slice hB (Tryz.tab_ok 29 _ rfl) rfl (Tryz.tab_ok 9 _ rfl) rfl (by decide) (fun _ => rfl) (RdS.str hB (Tryz.tab_ok 9 _ rfl) rfl)) N_) (RdP.nil (n := 5))))))) (fun a => TValue.mk a.1 a.2.1 a.2.2.1 a.2.2.2.1.nl a.2.2.2.1.l a.2.2.2.2.1) (fun a => ?_) (fun a => by rw [TValue.sz_eq]; exact Nat.le_refl _) (fun a h => by rw [TValue.wf_iff]; exact h)
    unfold TValue.c
    rw [TValue.FItemsD_eq]
    rfl
 exact fun N => key N N (Nat.le_refl _)
noncomputable def TArg.sz (x : TArg) : Nat := Bs.sz x.FName + (TValue.sz x.FValue + (0))
def TArg.wf (x : TArg) : Prop := (fun _ => True) x.FName ∧ (TValue.wf x.FValue ∧ (True))
include hB in
theorem rd_TArg_47 : ∀ N, RdN Tryz.prog B N 47 TArg.c TArg.sz TArg.wf := RdA.struct hB (Tryz.tab_ok 47 _ rfl) rfl (fun N_ => (RdP.cons (n := 6) (o := 0) (o' := 1) (Tryz.tab_ok 9 _ rfl) rfl ((RdS.str hB (Tryz.tab_ok 9 _ rfl) rfl) N_) (RdP.cons (n := 6) (o := 1) (o' := 6) (Tryz.tab_ok 31 _ rfl) rfl ((rd_TValue_31 hB) N_) (RdP.nil (n := 6))))) (fun a => (⟨a.1, a.2.1⟩ : TArg)) (fun _ => rfl) (fun _ => Nat.le_refl _) (fun _ h => h)
noncomputable def TDir.sz (x : TDir) : Nat := Bs.sz x.FName + ((Sl.sz TArg.sz) x.FArgs + (0))
def TDir.wf (x : TDir) : Prop := (fun _ => True) x.FName ∧ ((Sl.wf TArg.wf) x.FArgs ∧ (True))
include hB in
theorem rd_TDir_121 : ∀ N, RdN Tryz.prog B N 121 TDir.c TDir.sz TDir.wf := RdA.struct hB (Tryz.tab_ok 121 _ rfl) rfl (fun N_ => (RdP.cons (n := 2) (o := 0) (o' := 1) (Tryz.tab_ok 9 _ rfl) rfl ((RdS.str hB (Tryz.tab_ok 9 _ rfl) rfl) N_) (RdP.cons (n := 2) (o := 1) (o' := 2) (Tryz.tab_ok 43 _ rfl) rfl ((RdS.slice hB (Tryz.tab_ok 43 _ rfl) rfl (Tryz.tab_ok 47 _ rfl) rfl (by decide) (fun _ => rfl) (rd_TArg_47 hB)) N_) (RdP.nil (n := 2))))) (fun a => (⟨a.1, a.2.1⟩ : TDir)) (fun _ => rfl) (fun _ => Nat.le_refl _) (fun _ h => h)
noncomputable def TRef.sz (x : TRef) : Nat := Bs.sz x.FName + ((Sl.sz (fun _ => 1)) x.FWraps + (0))
def TRef.wf (x : TRef) : Prop := (fun _ => True) x.FName ∧ ((Sl.wf i64) x.FWraps ∧ (True))
include hB in
theorem rd_TRef_27 : ∀ N, RdN Tryz.prog B N 27 TRef.c TRef.sz TRef.wf := RdA.struct hB (Tryz.tab_ok 27 _ rfl) rfl (fun N_ => (RdP.cons (n := 2) (o := 0) (o' := 1) (Tryz.tab_ok 9 _ rfl) rfl ((RdS.str hB (Tryz.tab_ok 9 _ rfl) rfl) N_) (RdP.cons (n := 2) (o := 1) (o' := 2) (Tryz.tab_ok 25 _ rfl) rfl ((RdS.slice hB (Tryz.tab_ok 25 _ rfl) rfl (Tryz.tab_ok 3 _ rfl) rfl (by decide) (fun _ => rfl) (RdS.int hB (Tryz.tab_ok 3 _ rfl) rfl)) N_) (RdP.nil (n := 2))))) (fun a => (⟨a.1, a.2.1⟩ : TRef)) (fun _ => rfl) (fun _ => Nat.le_refl _) (fun _ h => h)
noncomputable def TInput.sz (x : TInput) : Nat := Bs.sz x.FName + (TRef.sz x.FType + ((fun _ => 1) x.FHas + (TValue.sz x.FDefault + ((Sl.sz TDir.sz) x.FDirs + (0)))))
def TInput.wf (x : TInput) : Prop := (fun _ => True) x.FName ∧ (TRef.wf x.FType ∧ ((fun _ => True) x.FHas ∧ (TValue.wf x.FDefault ∧ ((Sl.wf TDir.wf) x.FDirs ∧ (True)))))
include hB in
theorem rd_TInput_55 : ∀ N, RdN Tryz.prog B N 55 TInput.c TInput.sz TInput.wf := RdA.struct hB (Tryz.tab_ok 55 _ rfl) rfl (fun N_ => (RdP.cons (n := 10) (o := 0) (o' := 1) (Tryz.tab_ok 9 _ rfl) rfl ((RdS.str hB (Tryz.tab_ok 9 _ rfl) rfl) N_) (RdP.cons (n := 10) (o := 1) (o' := 3) (Tryz.tab_ok 27 _ rfl) rfl ((rd_TRef_27 hB) N_) (RdP.cons (n := 10) (o := 3) (o' := 4) (Tryz.tab_ok 4 _ rfl) rfl ((RdS.bool hB (Tryz.tab_ok 4 _ rfl) rfl) N_) (RdP.cons (n := 10) (o := 4) (o' := 9) (Tryz.tab_ok 31 _ rfl) rfl ((rd_TValue_31 hB) N_) (RdP.cons (n := 10) (o := 9) (o' := 10) (Tryz.tab_ok 53 _ rfl) rfl ((RdS.slice hB (Tryz.tab_ok 53 _ rfl) rfl (Tryz.tab_ok 121 _ rfl) rfl (by decide) (fun _ => rfl) (rd_TDir_121 hB)) N_) (RdP.nil (n := 10)))))))) (fun a => (⟨a.1, a.2.1, a.2.2.1, a.2.2.2.1, a.2.2.2.2.1⟩ : TInput)) (fun _ => rfl) (fun _ => Nat.le_refl _) (fun _ h => h)
noncomputable def TField.sz (x : TField) : Nat := Bs.sz x.FName + ((Sl.sz TInput.sz) x.FArgs + (TRef.sz x.FType + ((Sl.sz TDir.sz) x.FDirs + (0))))
def TField.wf (x : TField) : Prop := (fun _ => True) x.FName ∧ ((Sl.wf TInput.wf) x.FArgs ∧ (TRef.wf x.FType ∧ ((Sl.wf TDir.wf) x.FDirs ∧ (True))))
include hB in
theorem rd_TField_69 : ∀ N, RdN Tryz.prog B N 69 TField.c TField.sz TField.wf := RdA.struct hB (Tryz.tab_ok 69 _ rfl) rfl (fun N_ => (RdP.cons (n := 5) (o := 0) (o' := 1) (Tryz.tab_ok 9 _ rfl) rfl ((RdS.str hB (Tryz.tab_ok 9 _ rfl) rfl) N_) (RdP.cons (n := 5) (o := 1) (o' := 2) (Tryz.tab_ok 42 _ rfl) rfl ((RdS.slice hB (Tryz.tab_ok 42 _ rfl) rfl (Tryz.tab_ok 55 _ rfl) rfl (by decide) (fun _ => rfl) (rd_TInput_55 hB)) N_) (RdP.cons (n := 5) (o := 2) (o' := 4) (Tryz.tab_ok 27 _ rfl) rfl ((rd_TRef_27 hB) N_) (RdP.cons (n := 5) (o := 4) (o' := 5) (Tryz.tab_ok 53 _ rfl) rfl ((RdS.slice hB (Tryz.tab_ok 53 _ rfl) rfl (Tryz.tab_ok 121 _ rfl) rfl (by decide) (fun _ => rfl) (rd_TDir_121 hB)) N_) (RdP.nil (n := 5))))))) (fun a => (⟨a.1, a.2.1, a.2.2.1, a.2.2.2.1⟩ : TField)) (fun _ => rfl) (fun _ => Nat.le_refl _) (fun _ h => h)
noncomputable def TMember.sz (x : TMember) : Nat := Bs.sz x.FName + ((Sl.sz TDir.sz) x.FDirs + (0))
def TMember.wf (x : TMember) : Prop := (fun _ => True) x.FName ∧ ((Sl.wf TDir.wf) x.FDirs ∧ (True))
include hB in
theorem rd_TMember_100 : ∀ N, RdN Tryz.prog B N 100 TMember.c TMember.sz TMember.wf := RdA.struct hB (Tryz.tab_ok 100 _ rfl) rfl (fun N_ => (RdP.cons (n := 2) (o := 0) (o' := 1) (Tryz.tab_ok 9 _ rfl) rfl ((RdS.str hB (Tryz.tab_ok 9 _ rfl) rfl) N_) (RdP.cons (n := 2) (o := 1) (o' := 2) (Tryz.tab_ok 53 _ rfl) rfl ((RdS.slice hB (Tryz.tab_ok 53 _ rfl) rfl (Tryz.tab_ok 121 _ rfl) rfl (by decide) (fun _ => rfl) (rd_TDir_121 hB)) N_) (RdP.nil (n := 2))))) (fun a => (⟨a.1, a.2.1⟩ : TMember)) (fun _ => rfl) (fun _ => Nat.le_refl _) (fun _ h => h)
noncomputable def TDef.sz (x : TDef) : Nat := (fun _ => 1) x.FKind + (Bs.sz x.FName + ((Sl.sz Bs.sz) x.FImplements + ((Sl.sz TDir.sz) x.FDirs + ((Sl.sz TField.sz) x.FFields + ((Sl.sz TMember.sz) x.FMembers + ((Sl.sz TInput.sz) x.FInputs + (0)))))))
def TDef.wf (x : TDef) : Prop := i64 x.FKind ∧ ((fun _ => True) x.FName ∧ ((Sl.wf (fun _ => True)) x.FImplements ∧ ((Sl.wf TDir.wf) x.FDirs ∧ ((Sl.wf TField.wf) x.FFields ∧ ((Sl.wf TMember.wf) x.FMembers ∧ ((Sl.wf TInput.wf) x.FInputs ∧ (True)))))))
include hB in
theorem rd_TDef_73 : ∀ N, RdN Tryz.prog B N 73 TDef.c TDef.sz TDef.wf := RdA.struct hB (Tryz.tab_ok 73 _ rfl) rfl (fun N_ => (RdP.cons (n := 7) (o := 0) (o' := 1) (Tryz.tab_ok 3 _ rfl) rfl ((RdS.int hB (Tryz.tab_ok 3 _ rfl) rfl) N_) (RdP.cons (n := 7) (o := 1) (o' := 2) (Tryz.tab_ok 9 _ rfl) rfl ((RdS.str hB (Tryz.tab_ok 9 _ rfl) rfl) N_) (RdP.cons (n := 7) (o := 2) (o' := 3) (Tryz.tab_ok 29 _ rfl) rfl ((RdS.slice hB (Tryz.tab_ok 29 _ rfl) rfl (Tryz.tab_ok 9 _ rfl) rfl (by decide) (fun _ => rfl) (RdS.str hB (Tryz.tab_ok 9 _ rfl) rfl)) N_) (RdP.cons (n := 7) (o := 3) (o' := 4) (Tryz.tab_ok 53 _ rfl) rfl ((RdS.slice hB (Tryz.tab_ok 53 _ rfl) rfl (Tryz.tab_ok 121 _ rfl) rfl (by decide) (fun _ => rfl) (rd_TDir_121 hB)) N_) (RdP.cons (n := 7) (o := 4) (o' := 5) (Tryz.tab_ok 70 _ rfl) rfl ((RdS.slice hB (Tryz.tab_ok 70 _ rfl) rfl (Tryz.tab_ok 69 _ rfl) rfl (by decide) (fun _ => rfl) (rd_TField_69 hB)) N_) (RdP.cons (n := 7) (o := 5) (o' := 6) (Tryz.tab_ok 71 _ rfl) rfl ((RdS.slice hB (Tryz.tab_ok 71 _ rfl) rfl (Tryz.tab_ok 100 _ rfl) rfl (by decide) (fun _ => rfl) (rd_TMember_100 hB)) N_) (RdP.cons (n := 7) (o := 6) (o' := 7) (Tryz.tab_ok 42 _ rfl) rfl ((RdS.slice hB (Tryz.tab_ok 42 _ rfl) rfl (Tryz.tab_ok 55 _ rfl) rfl (by decide) (fun _ => rfl) (rd_TInput_55 hB)) N_) (RdP.nil (n := 7)))))))))) (fun a => (⟨a.1, a.2.1, a.2.2.1, a.2.2.2.1, a.2.2.2.2.1, a.2.2.2.2.2.1, a.2.2.2.2.2.2.1⟩ : TDef)) (fun _ => rfl) (fun _ => Nat.le_refl _) (fun _ h => h)
noncomputable def TDoc.sz (x : TDoc) : Nat := (Sl.sz TDef.sz) x.FDefs + (0)
def TDoc.wf (x : TDoc) : Prop := (Sl.wf TDef.wf) x.FDefs ∧ (True)
include hB in
theorem rd_TDoc_24 : ∀ N, RdN Tryz.prog B N 24 TDoc.c TDoc.sz TDoc.wf := RdA.struct hB (Tryz.tab_ok 24 _ rfl) rfl (fun N_ => (RdP.cons (n := 1) (o := 0) (o' := 1) (Tryz.tab_ok 22 _ rfl) rfl ((RdS.slice hB (Tryz.tab_ok 22 _ rfl) rfl (Tryz.tab_ok 73 _ rfl) rfl (by decide) (fun _ => rfl) (rd_TDef_73 hB)) N_) (RdP.nil (n := 1)))) (fun a => (⟨a.1⟩ : TDoc)) (fun _ => rfl) (fun _ => Nat.le_refl _) (fun _ h => h)
end
theorem TValue.sz_def (x : TValue) : x.sz = 0 + 1 + 1 + Bs.sz x.FText + (Sl.sz TValue.sz) x.FItems + (Sl.sz Bs.sz) x.FKeys := by
 rw [TValue.sz_eq]; try dsimp only
 omega
theorem TValue.pos (x : TValue) : 1 ≤ x.sz := by
 rw [TValue.sz_def]; have := Bs.sz_pos x.FText; omega
theorem TArg.sz_def (x : TArg) : x.sz = 0 + Bs.sz x.FName + TValue.sz x.FValue := by
 unfold TArg.sz; try dsimp only
 omega
theorem TArg.pos (x : TArg) : 1 ≤ x.sz := by
 rw [TArg.sz_def]; have := Bs.sz_pos x.FName; omega
theorem TDir.sz_def (x : TDir) : x.sz = 0 + Bs.sz x.FName + (Sl.sz TArg.sz) x.FArgs := by
 unfold TDir.sz; try dsimp only
 omega
theorem TDir.pos (x : TDir) : 1 ≤ x.sz := by
 rw [TDir.sz_def]; have := Bs.sz_pos x.FName; omega
theorem TRef.sz_def (x : TRef) : x.sz = 0 + Bs.sz x.FName + (Sl.sz (fun _ => 1)) x.FWraps := by
 unfold TRef.sz; try dsimp only
 omega
theorem TRef.pos (x : TRef) : 1 ≤ x.sz := by
 rw [TRef.sz_def]; have := Bs.sz_pos x.FName; omega
theorem TInput.sz_def (x : TInput) : x.sz = 0 + Bs.sz x.FName + TRef.sz x.FType + 1 + TValue.sz x.FDefault + (Sl.sz TDir.sz) x.FDirs := by
 unfold TInput.sz; try dsimp only
 omega
theorem TInput.pos (x : TInput) : 1 ≤ x.sz := by
 rw [TInput.sz_def]; have := Bs.sz_pos x.FName; omega
theorem TField.sz_def (x : TField) : x.sz = 0 + Bs.sz x.FName + (Sl.sz TInput.sz) x.FArgs + TRef.sz x.FType + (Sl.sz TDir.sz) x.FDirs := by
 unfold TField.sz; try dsimp only
 omega
theorem TField.pos (x : TField) : 1 ≤ x.sz := by
 rw [TField.sz_def]; have := Bs.sz_pos x.FName; omega
theorem TMember.sz_def (x : TMember) : x.sz = 0 + Bs.sz x.FName + (Sl.sz TDir.sz) x.FDirs := by
 unfold TMember.sz; try dsimp only
 omega
theorem TMember.pos (x : TMember) : 1 ≤ x.sz := by
 rw [TMember.sz_def]; have := Bs.sz_pos x.FName; omega
theorem TDef.sz_def (x : TDef) : x.sz = 0 + 1 + Bs.sz x.FName + (Sl.sz Bs.sz) x.FImplements + (Sl.sz TDir.sz) x.FDirs + (Sl.sz TField.sz) x.FFields + (Sl.sz TMember.sz) x.FMembers + (Sl.sz TInput.sz) x.FInputs := by
 unfold TDef.sz; try dsimp only
 omega
theorem TDef.pos (x : TDef) : 1 ≤ x.sz := by
 rw [TDef.sz_def]; have := Bs.sz_pos x.FName; omega
theorem TDoc.sz_def (x : TDoc) : x.sz = 0 + (Sl.sz TDef.sz) x.FDefs := by
 unfold TDoc.sz; try dsimp only
 omega
theorem TDoc.pos (x : TDoc) : 1 ≤ x.sz := by
 rw [TDoc.sz_def]; have := Sl.sz_pos TDef.sz x.FDefs; omega
end Go.Proofs

namespace Go.Proofs
open Go Go.Ab
open AOps Cert AWp
variable {lou : Lou}
def Z75 (a0 : (Sl Bs)) : Option (Sl Bs) := bif a0.nl then (some (Sl.nil : Sl Bs)) else ((appC 16 (⟨false, []⟩ : Sl Bs) a0).bind fun x7 => some x7)
theorem Z75_walk {a0 : (Sl Bs)} {w0 : Option Nat}  {r : (Sl Bs)} (hE : Z75 a0 = some r) (H : Heap)  : ACalls Tryz.prog 88 [.d (Sl.d 1 strE w0 a0)] H fun v h' => v = .a (.d (Sl.d 1 strE none r)) ∧ h' = H := by
 unfold Z75 at hE
 refine ACalls.of_wp (fn := Tryz.f88) (c := _) Tryz.tab_ok (fun _ _ => Tryz.call88 _ _) Tryz.func88 rfl (n := 8) rfl (rs := [.tmp 2]) rfl rfl ?_
 refine seqK fun K1 hK1 => ?_
 refine region ?_
 refine s0 (assignNil (k' := 1) rfl) rfl ?_
 refine nil ?_
 refine hK1 _ ?_
 clear hK1 K1
 refine seqK fun K2 hK2 => ?_
 refine seqK fun K3 hK3 => ?_
 refine region ?_
 refine s0 moveA rfl ?_
 refine s0 (eqNil (TK rfl) rfl rfl) rfl ?_
 refine nil ?_
 refine hK3 _ ?_
 clear hK3 K3
 refine condE hE rfl (fun hc4 hE => ?_) (fun hc4 hE => ?_)
 ·refine seqK fun K5 hK5 => ?_
  refine region ?_
  refine s0 (assignNil (k' := 1) rfl) rfl ?_
  refine nil ?_
  refine hK5 _ ?_
  clear hK5 K5
  refine AWp.ret ?_
  repeat (first | refine xBlock_ret ?_ | refine xThen_ret ?_)
  obtain rfl := Option.some.inj hE
  refine retQ.retF H rfl ⟨rfl, rfl⟩ ?_
  exact (fun _ _ h => h)
 refine AWp.skip ?_
 refine hK2 _ ?_
 clear hK2 K2
 refine seqK fun K6 hK6 => ?_
 refine region ?_
 refine s0 (buildSliceF (TK rfl) rfl (TK rfl) rfl rfl rfl rfl rfl rfl) rfl ?_
 refine s0 moveA rfl ?_
 obtain ⟨x7, gx7, hE⟩ := bindO_some hE
 refine s0 (appFM (f := strE) (TK rfl) rfl (TK rfl) (TK rfl) ⟨_, rfl⟩ rfl rfl (by decide) rfl rfl rfl (by intro q h; cases h <;> decide) rfl rfl gx7) rfl ?_
 refine s0 assignA rfl ?_
 refine nil ?_
 refine hK6 _ ?_
 clear hK6 K6
 refine AWp.ret ?_
 repeat (first | refine xBlock_ret ?_ | refine xThen_ret ?_)
 obtain rfl := Option.some.inj hE
 refine retQ.retF H rfl ⟨rfl, rfl⟩ ?_
 exact (fun _ _ h => h)
def Z91_j3  (s3_4 : (Sl TValue)) : Option (Sl TValue) := some s3_4
def Z91_l8 (a0 : (Sl TValue)) (k_rec_60 : TValue → Option TValue) : Nat → (Sl TValue) → Nat → Option (Sl TValue)
 | 0, _, _ => none
 | n8 + 1, s3_9, s8_10 => bif (decide (((s8_10 : Nat) : Int) < ((a0.l.length : Nat) : Int))) then ((a0.l[s8_10]?).bind fun x16 => (k_rec_60 x16).bind fun x17 => (appC 80 s3_9 (⟨false, [x17]⟩ : Sl TValue)).bind fun x18 => (Z91_l8 a0 k_rec_60 n8) x18 (s8_10 + 1)) else (Z91_j3   s3_9)
mutual
def value_Copy_n : Nat → TValue → Option TValue
 | 0, _ => none
 | n + 1, a0 => ((Z91_n n) a0.FItems).bind fun x3 => (Z75 a0.FKeys).bind fun x5 => some (TValue.mk a0.FKind a0.FInt a0.FText x3.nl x3.l x5)
def Z91_n : Nat → (Sl TValue) → Option (Sl TValue)
 | 0, _ => none
 | n + 1, a0 => Z91_l8 a0 (value_Copy_n n) (a0.l.length + 1) (Sl.nil : Sl TValue) 0
end
theorem value_Copy_step (n : Nat) (ih_60 : ∀ {a0 : TValue}   {r : TValue}, value_Copy_n n a0 = some r → ∀ (H : Heap), ACalls Tryz.prog 60 [.agg (TValue.c a0)] H fun v h' => v = .a (.agg (TValue.c r)) ∧ h' = H) (ih_87 : ∀ {a0 : (Sl TValue)} {w0 : Option Nat}  {r : (Sl TValue)}, Z91_n n a0 = some r → ∀ (H : Heap), ACalls Tryz.prog 87 [.d (Sl.d 5 TValue.c w0 a0)] H fun v h' => v = .a (.d (Sl.d 5 TValue.c none r)) ∧ h' = H) : ∀ {a0 : TValue}   {r : TValue}, value_Copy_n (n + 1) a0 = some r → ∀ (H : Heap), ACalls Tryz.prog 60 [.agg (TValue.c a0)] H fun v h' => v = .a (.agg (TValue.c r)) ∧ h' = H := by
 intro a0   r hE H 
 rw [value_Copy_n] at hE
 refine ACalls.of_wp (fn := Tryz.f60) (c := _) Tryz.tab_ok (fun _ _ => Tryz.call60 _ _) Tryz.func60 rfl (n := 12) rfl (rs := [.cell 2 31]) rfl rfl ?_
 refine seqK fun K1 hK1 => ?_
 refine region ?_
 refine sL (boxL rfl (by repeat (first | exact Snoc.nil | apply Snoc.cons))) rfl ?_
 refine sL (allocLA (TK rfl) rfl) rfl ?_
 refine nil ?_
 refine hK1 _ ?_
 clear hK1 K1
 refine seqK fun K2 hK2 => ?_
 refine region ?_
 refine s0 (fieldL (TK rfl) rfl rfl (TK rfl) rfl rfl) rfl ?_
 refine AOps.relocal 0 (TValue.cu a0) rfl (fun j w cs hh hx => by rw [← TValue.cu_eq]; exact hx) ?_
 refine s0 (loadL (TK rfl) rfl rfl rfl rfl) rfl ?_
 obtain ⟨x3, gx3, hE⟩ := bindO_some hE
 refine s0 (callP rfl rfl (fun H => ih_87 gx3 H)) rfl ?_
 refine s0 (fieldL (TK rfl) rfl rfl (TK rfl) rfl rfl) rfl ?_
 refine sLn (storeL1 (TK rfl) rfl rfl rfl rfl (by repeat (first | exact SetAt.zero | apply SetAt.succ)) (by repeat (first | exact SetAt.zero | apply SetAt.succ))) ?_
 refine AOps.relocal 0 (TValue.c (TValue.mk a0.FKind a0.FInt a0.FText x3.nl x3.l a0.FKeys)) rfl (fun j w cs hh hx => by rw [TValue.cu_eq]; exact hx) ?_
 refine nil ?_
 refine hK2 _ ?_
 clear hK2 K2
 refine seqK fun K4 hK4 => ?_
 refine region ?_
 refine s0 (fieldL (TK rfl) rfl rfl (TK rfl) rfl rfl) rfl ?_
 refine s0 (loadL (TK rfl) rfl rfl rfl rfl) rfl ?_
 obtain ⟨x5, gx5, hE⟩ := bindO_some hE
 refine s0 (callP rfl rfl (fun H => Z75_walk gx5 H)) rfl ?_
 refine s0 (fieldL (TK rfl) rfl rfl (TK rfl) rfl rfl) rfl ?_
 refine AOps.relocal 0 (TValue.cu (TValue.mk a0.FKind a0.FInt a0.FText x3.nl x3.l a0.FKeys)) rfl (fun j w cs hh hx => by rw [← TValue.cu_eq]; exact hx) ?_
 refine sLn (storeL1 (TK rfl) rfl rfl rfl rfl (by repeat (first | exact SetAt.zero | apply SetAt.succ)) (by repeat (first | exact SetAt.zero | apply SetAt.succ))) ?_
 refine AOps.relocal 0 (TValue.c (TValue.mk a0.FKind a0.FInt a0.FText x3.nl x3.l x5)) rfl (fun j w cs hh hx => by rw [TValue.cu_eq]; exact hx) ?_
 refine nil ?_
 refine hK4 _ ?_
 clear hK4 K4
 refine seqK fun K6 hK6 => ?_
 refine region ?_
 refine s0 (loadL (TK rfl) rfl rfl rfl rfl) rfl ?_
 refine sLn (storeLFA (TK rfl) rfl rfl rfl rfl rfl) ?_
 refine nil ?_
 refine hK6 _ ?_
 clear hK6 K6
 refine AWp.ret ?_
 repeat (first | refine xBlock_ret ?_ | refine xThen_ret ?_)
 obtain rfl := Option.some.inj hE
 refine retQ.retF H rfl ⟨rfl, rfl⟩ ?_
 exact (fun _ _ h => h)
theorem Z91_step (n : Nat) (ih_60 : ∀ {a0 : TValue}   {r : TValue}, value_Copy_n n a0 = some r → ∀ (H : Heap), ACalls Tryz.prog 60 [.agg (TValue.c a0)] H fun v h' => v = .a (.agg (TValue.c r)) ∧ h' = H) (ih_87 : ∀ {a0 : (Sl TValue)} {w0 : Option Nat}  {r : (Sl TValue)}, Z91_n n a0 = some r → ∀ (H : Heap), ACalls Tryz.prog 87 [.d (Sl.d 5 TValue.c w0 a0)] H fun v h' => v = .a (.d (Sl.d 5 TValue.c none r)) ∧ h' = H) : ∀ {a0 : (Sl TValue)} {w0 : Option Nat}  {r : (Sl TValue)}, Z91_n (n + 1) a0 = some r → ∀ (H : Heap), ACalls Tryz.prog 87 [.d (Sl.d 5 TValue.c w0 a0)] H fun v h' => v = .a (.d (Sl.d 5 TValue.c none r)) ∧ h' = H := by
 intro a0 w0  r hE H 
 rw [Z91_n] at hE
 refine ACalls.of_wp (fn := Tryz.f87) (c := _) Tryz.tab_ok (fun _ _ => Tryz.call87 _ _) Tryz.func87 rfl (n := 19) rfl (rs := [.tmp 2]) rfl rfl ?_
 refine AWp.tok 5 fun tk1 htk1 => ?_
 refine seqK fun K1 hK1 => ?_
 refine region ?_
 refine s0 (assignNil (k' := 5) rfl) rfl ?_
 refine nil ?_
 refine hK1 _ ?_
 clear hK1 K1
 refine seqK fun K2 hK2 => ?_
 refine region ?_
 refine s0 assignA rfl ?_
 refine nil ?_
 refine hK2 _ ?_
 clear hK2 K2
 refine AWp.nilTok 3 5 tk1 rfl hpG ?_
 refine seqJH KeepsT.nil (fun (z : (Sl TValue)) => [(3, .a (.d (Sl.d 5 TValue.c (some tk1) z)))]) (fun z => (H.set tk1 (some (.tok 5 z.l.length)))) (fun z => Z91_j3 z = some r) ?_ ?_
 ·intro K3 hK3
  refine seqK fun K6 hK6 => ?_
  refine region ?_
  refine s0 moveA rfl ?_
  refine sLen (f := TValue.c) (s := a0) (TK rfl) rfl rfl rfl rfl fun hL7 => ?_
  refine s0 moveA rfl ?_
  refine nil ?_
  refine hK6 _ ?_
  clear hK6 K6
  refine block ?_
  refine loopH (KeepsT.A (k := 6) (KeepsT.A (k := 7) KeepsT.nil)) (fun (z : Nat × (Sl TValue) × Nat) => [(3, .a (.d (Sl.d 5 TValue.c (some tk1) z.2.1))), (8, .a (.d (.int .i64 ((z.2.2 : Nat) : Int))))]) (fun z => (H.set tk1 (some (.tok 5 z.2.1.l.length)))) (fun z => z.1) (fun z => Z91_l8 a0 (value_Copy_n n) z.1 z.2.1 z.2.2 = some r) ((a0.l.length + 1), (Sl.nil : Sl TValue), 0) hE Weak.toA ?_
  rintro ⟨n8, s3_9, s8_10⟩ hE K8 hK8
  try dsimp only at hE
  cases n8 with
  | zero => cases hE
  | succ n8 =>
    rw [Z91_l8] at hE
    refine seqK fun K11 hK11 => ?_
    refine region ?_
    refine s0 (binI rfl rfl rfl) rfl ?_
    refine nil ?_
    refine hK11 _ ?_
    clear hK11 K11
    refine seqK fun K12 hK12 => ?_
    refine condE hE rfl (fun hc13 hE => ?_) (fun hc13 hE => ?_)
    ·try dsimp only at hc13
     have hf13 := of_decide_eq_true hc13
     refine AWp.skip ?_
     refine hK12 _ ?_
     clear hK12 K12
     refine seqK fun K14 hK14 => ?_
     refine block ?_
     refine seqK fun K15 hK15 => ?_
     refine region ?_
     obtain ⟨x16, gx16, hE⟩ := bindO_some hE
     refine s0 (idxMn (f := TValue.c) (n := s8_10) (TK rfl) rfl (TK rfl) rfl rfl rfl gx16) rfl ?_
     refine s0 (loadV (TK rfl) rfl rfl rfl) rfl ?_
     refine sL (allocLA (TK rfl) rfl) rfl ?_
     refine sLn (storeLFA (TK rfl) rfl rfl rfl rfl rfl) ?_
     refine nil ?_
     refine hK15 _ ?_
     clear hK15 K15
     refine freezeA 5 _ rfl (Keeps.c (k := 3) (by conv => lhs; whnf) (by rfl) (Keeps.c (k := 6) (by conv => lhs; whnf) (by rfl) (Keeps.c (k := 7) (by conv => lhs; whnf) (by rfl) (Keeps.c (k := 8) (by conv => lhs; whnf) (by rfl) Keeps.nil)))) ?_
     refine region ?_
     refine s0 moveA rfl ?_
     refine s0 (loadV (TK rfl) rfl rfl rfl) rfl ?_
     obtain ⟨x17, gx17, hE⟩ := bindO_some hE
     refine s0 (callP rfl rfl (fun H => ih_60 gx17 H)) rfl ?_
     refine s0 (buildSlice (TK rfl) rfl (TK rfl) rfl rfl rfl rfl rfl rfl) rfl ?_
     obtain ⟨x18, gx18, hE⟩ := bindO_some hE
     refine sH (appM (f := TValue.c) (TK rfl) rfl (TK rfl) (TK rfl) ⟨_, rfl⟩ rfl rfl (by decide) rfl rfl rfl rfl hpG rfl gx18) rfl ?_
     refine AOps.heq (h' := (H.set tk1 (some (.tok 5 x18.l.length)))) (by first | rfl | (rw [Heap.set_set]; rfl) | (funext n_; simp only [Heap.set]; (repeat' split) <;> first | rfl | (exfalso; simp_all; done) | (simp_all; done))) ?_
     refine s0 assignA rfl ?_
     refine nil ?_
     refine hK14 _ ?_
     clear hK14 K14
     refine region ?_
     refine s0 (addIA rfl rfl) rfl ?_
     refine s0 moveA rfl ?_
     refine nil ?_
     exact hK8 _ (n8, x18, (s8_10 + 1)) Weak.toA hE (Nat.lt_succ_self _)
    refine AWp.exit ?_
    exact hK3 _ s3_9 Weak.toA hE
 rintro s3_4 hE
 try dsimp only at hE
 unfold Z91_j3 at hE
 refine seqK fun K5 hK5 => ?_
 refine region ?_
 refine s0 moveA rfl ?_
 refine s0 assignA rfl ?_
 refine nil ?_
 refine hK5 _ ?_
 clear hK5 K5
 refine AWp.dropTok 2 rfl ?_
 refine AWp.ret ?_
 repeat (first | refine xBlock_ret ?_ | refine xThen_ret ?_)
 obtain rfl := Option.some.inj hE
 refine retQ.retF H rfl ⟨rfl, rfl⟩ ?_
 first | exact Heap.sub_set htk1 | (simp only [Heap.set_set]; exact Heap.sub_set htk1)
theorem value_Copy_all : ∀ (n : Nat), (∀ {a0 : TValue}   {r : TValue}, value_Copy_n n a0 = some r → ∀ (H : Heap), ACalls Tryz.prog 60 [.agg (TValue.c a0)] H fun v h' => v = .a (.agg (TValue.c r)) ∧ h' = H) ∧ (∀ {a0 : (Sl TValue)} {w0 : Option Nat}  {r : (Sl TValue)}, Z91_n n a0 = some r → ∀ (H : Heap), ACalls Tryz.prog 87 [.d (Sl.d 5 TValue.c w0 a0)] H fun v h' => v = .a (.d (Sl.d 5 TValue.c none r)) ∧ h' = H)
 | 0 => ⟨fun hE => by first | cases hE | (rw [value_Copy_n] at hE; cases hE), fun hE => by first | cases hE | (rw [Z91_n] at hE; cases hE)⟩
 | n + 1 => ⟨value_Copy_step n (value_Copy_all n).1 (value_Copy_all n).2, Z91_step n (value_Copy_all n).1 (value_Copy_all n).2⟩
def value_Copy (a0 : TValue) : Option TValue := value_Copy_n F0 a0
theorem value_Copy_walk {a0 : TValue}   {r : TValue} (hE : value_Copy a0 = some r) (H : Heap)  : ACalls Tryz.prog 60 [.agg (TValue.c a0)] H fun v h' => v = .a (.agg (TValue.c r)) ∧ h' = H := (value_Copy_all F0).1 hE H 
def Z80_j2   : Option Int := some (-1 : Int)
def Z80_l6 (a0 : (Sl Bs)) (a1 : Bs)  : Nat → Nat → Option Int
 | 0, _ => none
 | n6 + 1, s8_7 => bif (decide (((s8_7 : Nat) : Int) < ((a0.l.length : Nat) : Int))) then ((a0.l[s8_7]?).bind fun x14 => bif ((a1 == x14)) then (some ((s8_7 : Nat) : Int)) else ((Z80_l6 a0 a1 n6) (s8_7 + 1))) else (Z80_j2   )
def Z80 (a0 : (Sl Bs)) (a1 : Bs) : Option Int := Z80_l6 a0 a1 (a0.l.length + 1) 0
theorem Z80_walk {a0 : (Sl Bs)} {a1 : Bs} {w0 : Option Nat}  {r : Int} (hE : Z80 a0 a1 = some r) (H : Heap)  : ACalls Tryz.prog 74 [.d (Sl.d 1 strE w0 a0), .d (.str a1)] H fun v h' => v = .a (.d (.int .i64 r)) ∧ h' = H := by
 unfold Z80 at hE
 refine ACalls.of_wp (fn := Tryz.f74) (c := _) Tryz.tab_ok (fun _ _ => Tryz.call74 _ _) Tryz.func74 rfl (n := 19) rfl (rs := [.tmp 4]) rfl rfl ?_
 refine seqK fun K1 hK1 => ?_
 refine region ?_
 refine s0 assignA rfl ?_
 refine nil ?_
 refine hK1 _ ?_
 clear hK1 K1
 refine seqJH KeepsT.nil (fun (z : Unit) => []) (fun z => H) (fun z => Z80_j2  = some r) ?_ ?_
 ·intro K2 hK2
  refine seqK fun K4 hK4 => ?_
  refine region ?_
  refine s0 moveA rfl ?_
  refine sLen (f := strE) (s := a0) (TK rfl) rfl rfl rfl rfl fun hL5 => ?_
  refine s0 moveA rfl ?_
  refine nil ?_
  refine hK4 _ ?_
  clear hK4 K4
  refine block ?_
  refine loopH (KeepsT.A (k := 0) (KeepsT.A (k := 1) (KeepsT.A (k := 7) KeepsT.nil))) (fun (z : Nat × Nat) => [(8, .a (.d (.int .i64 ((z.2 : Nat) : Int))))]) (fun z => H) (fun z => z.1) (fun z => Z80_l6 a0 a1 z.1 z.2 = some r) ((a0.l.length + 1), 0) hE Weak.toA ?_
  rintro ⟨n6, s8_7⟩ hE K6 hK6
  try dsimp only at hE
  cases n6 with
  | zero => cases hE
  | succ n6 =>
    rw [Z80_l6] at hE
    refine seqK fun K8 hK8 => ?_
    refine region ?_
    refine s0 (binI rfl rfl rfl) rfl ?_
    refine nil ?_
    refine hK8 _ ?_
    clear hK8 K8
    refine seqK fun K9 hK9 => ?_
    refine condE hE rfl (fun hc10 hE => ?_) (fun hc10 hE => ?_)
    ·try dsimp only at hc10
     have hf10 := of_decide_eq_true hc10
     refine AWp.skip ?_
     refine hK9 _ ?_
     clear hK9 K9
     refine seqK fun K11 hK11 => ?_
     refine block ?_
     refine seqK fun K12 hK12 => ?_
     refine region ?_
     refine s0 moveA rfl ?_
     refine s0 assignA rfl ?_
     refine nil ?_
     refine hK12 _ ?_
     clear hK12 K12
     refine seqK fun K13 hK13 => ?_
     refine region ?_
     refine s0 moveA rfl ?_
     refine s0 moveA rfl ?_
     refine s0 moveA rfl ?_
     obtain ⟨x14, gx14, hE⟩ := bindO_some hE
     refine s0 (idxMn (f := strE) (n := s8_7) (TK rfl) rfl (TK rfl) rfl rfl rfl gx14) rfl ?_
     refine s0 (loadV (TK rfl) rfl rfl rfl) rfl ?_
     refine s0 (binS rfl rfl rfl) rfl ?_
     refine nil ?_
     refine hK13 _ ?_
     clear hK13 K13
     refine condE hE rfl (fun hc15 hE => ?_) (fun hc15 hE => ?_)
     ·refine seqK fun K16 hK16 => ?_
      refine region ?_
      refine s0 moveA rfl ?_
      refine s0 assignA rfl ?_
      refine nil ?_
      refine hK16 _ ?_
      clear hK16 K16
      refine AWp.ret ?_
      repeat (first | refine xBlock_ret ?_ | refine xThen_ret ?_)
      obtain rfl := Option.some.inj hE
      refine retQ.retF H rfl ⟨rfl, rfl⟩ ?_
      exact (fun _ _ h => h)
     refine AWp.skip ?_
     refine hK11 _ ?_
     clear hK11 K11
     refine region ?_
     refine s0 (addIA rfl rfl) rfl ?_
     refine s0 moveA rfl ?_
     refine nil ?_
     exact hK6 _ (n6, (s8_7 + 1)) Weak.toA hE (Nat.lt_succ_self _)
    refine AWp.exit ?_
    exact hK2 _ () Weak.toA hE
 rintro _ hE
 try dsimp only at hE
 unfold Z80_j2 at hE
 refine seqK fun K3 hK3 => ?_
 refine region ?_
 refine s0 assignA rfl ?_
 refine nil ?_
 refine hK3 _ ?_
 clear hK3 K3
 refine AWp.ret ?_
 repeat (first | refine xBlock_ret ?_ | refine xThen_ret ?_)
 obtain rfl := Option.some.inj hE
 refine retQ.retF H rfl ⟨rfl, rfl⟩ ?_
 exact (fun _ _ h => h)
def Z89 (a0 : TValue) (a1 : Bs) : Option (TValue × Bool) := (Z80 a0.FKeys a1).bind fun x3 => bif (((!decide (a0.FKind = (6 : Int))) || (decide (x3 < (0 : Int)))) || (decide (((a0.FItems.l.length : Nat) : Int) ≤ x3))) then (some ((TValue.mk (0 : Int) (0 : Int) ([] : Bs) true ([]) (Sl.nil : Sl Bs)), false)) else ((idxC a0.FItems.l x3).bind fun x9 => (value_Copy x9).bind fun x10 => some (x10, true))
theorem Z89_walk {a0 : TValue} {a1 : Bs}   {r : (TValue × Bool)} (hE : Z89 a0 a1 = some r) (H : Heap)  : ACalls Tryz.prog 48 [.agg (TValue.c a0), .d (.str a1)] H fun v h' => v = .tup [.agg (TValue.c r.1), .d (.bool r.2)] ∧ h' = H := by
 unfold Z89 at hE
 refine ACalls.of_wp (fn := Tryz.f48) (c := _) Tryz.tab_ok (fun _ _ => Tryz.call48 _ _) Tryz.func48 rfl (n := 32) rfl (rs := [.cell 4 31, .tmp 5]) rfl rfl ?_
 refine seqK fun K1 hK1 => ?_
 refine region ?_
 refine s0 (boxV rfl) rfl ?_
 refine sL (allocLA (TK rfl) rfl) rfl ?_
 refine s0 assignA rfl ?_
 refine nil ?_
 refine hK1 _ ?_
 clear hK1 K1
 refine seqK fun K2 hK2 => ?_
 refine region ?_
 refine s0 (fieldVA (TK rfl) rfl rfl (TK rfl) rfl rfl) rfl ?_
 refine s0 (loadV (TK rfl) rfl rfl rfl) rfl ?_
 refine s0 moveA rfl ?_
 obtain ⟨x3, gx3, hE⟩ := bindO_some hE
 refine s0 (callP rfl rfl (fun H => Z80_walk gx3 H)) rfl ?_
 refine s0 assignA rfl ?_
 refine nil ?_
 refine hK2 _ ?_
 clear hK2 K2
 refine seqK fun K4 hK4 => ?_
 refine seqK fun K5 hK5 => ?_
 refine region ?_
 refine s0 (fieldVA (TK rfl) rfl rfl (TK rfl) rfl rfl) rfl ?_
 refine s0 (loadV (TK rfl) rfl rfl rfl) rfl ?_
 refine s0 (binI rfl rfl rfl) rfl ?_
 refine s0 moveA rfl ?_
 refine gC rfl rfl (fun hC => moveA) rfl ?_
 refine gC rfl rfl (fun hC => ungdA (k := 15) rfl (binI rfl rfl rfl)) rfl ?_
 refine s0 (pickOrA rfl rfl rfl) rfl ?_
 refine s0 moveA rfl ?_
 refine gC rfl rfl (fun hC => moveA) rfl ?_
 refine gC rfl rfl (fun hC => fieldVA (TK rfl) rfl rfl (TK rfl) rfl rfl) rfl ?_
 refine gC rfl rfl (fun hC => ungdA (k := 20) rfl (loadV (TK rfl) rfl rfl (congrArg (fun x => some (A.d x)) (TValue.FItemsD_eq _)))) rfl ?_
 refine gC rfl rfl (fun hC => ungdA (k := 21) rfl (lenM' (f := TValue.c) (s := a0.FItems) (TK rfl) rfl rfl rfl)) rfl ?_
 refine gC rfl rfl (fun hC => ungdA (k := 19) rfl (ungdA (k := 22) rfl (binI rfl rfl rfl))) rfl ?_
 refine s0 (pickOrA rfl rfl rfl) rfl ?_
 refine nil ?_
 refine hK5 _ ?_
 clear hK5 K5
 refine condE hE rfl (fun hc6 hE => ?_) (fun hc6 hE => ?_)
 ·refine seqK fun K7 hK7 => ?_
  refine region ?_
  refine s0 (build Tryz.tab_ok rfl rfl rfl rfl rfl rfl) rfl ?_
  refine sLn (storeLFA (TK rfl) rfl rfl rfl rfl rfl) ?_
  refine s0 assignA rfl ?_
  refine nil ?_
  refine hK7 _ ?_
  clear hK7 K7
  refine AWp.ret ?_
  repeat (first | refine xBlock_ret ?_ | refine xThen_ret ?_)
  obtain rfl := Option.some.inj hE
  refine retQ.retF H rfl ⟨rfl, rfl⟩ ?_
  exact (fun _ _ h => h)
 refine AWp.skip ?_
 refine hK4 _ ?_
 clear hK4 K4
 refine seqK fun K8 hK8 => ?_
 refine region ?_
 refine s0 (fieldVA (TK rfl) rfl rfl (TK rfl) rfl rfl) rfl ?_
 refine s0 (loadV (TK rfl) rfl rfl (congrArg (fun x => some (A.d x)) (TValue.FItemsD_eq _))) rfl ?_
 refine s0 moveA rfl ?_
 obtain ⟨x9, gx9, hE⟩ := bindO_some hE
 refine s0 (idxM (f := TValue.c) (TK rfl) rfl (TK rfl) rfl rfl rfl gx9) rfl ?_
 refine s0 (loadV (TK rfl) rfl rfl rfl) rfl ?_
 obtain ⟨x10, gx10, hE⟩ := bindO_some hE
 refine s0 (callP rfl rfl (fun H => value_Copy_walk gx10 H)) rfl ?_
 refine sLn (storeLFA (TK rfl) rfl rfl rfl rfl rfl) ?_
 refine s0 assignA rfl ?_
 refine nil ?_
 refine hK8 _ ?_
 clear hK8 K8
 refine AWp.ret ?_
 repeat (first | refine xBlock_ret ?_ | refine xThen_ret ?_)
 obtain rfl := Option.some.inj hE
 refine retQ.retF H rfl ⟨rfl, rfl⟩ ?_
 exact (fun _ _ h => h)
def Z12 (a0 : Coerce_coercer) (a1 : TValue) : Option Bool := bif ((!decide (a1.FKind = (7 : Int))) || (!a0.Fliteral)) then (some false) else ((Z89 a0.Fvars a1.FText).bind fun x7 => some (!x7.2))
theorem Z12_walk {a0 : Coerce_coercer} {a1 : TValue}  {c0 : Nat} {r : Bool} (hE : Z12 a0 a1 = some r) (H : Heap) (hc0 : H c0 = some (.cells (Coerce_coercer.c a0))) : ACalls Tryz.prog 29 [.d (.ptr c0 0), .agg (TValue.c a1)] H fun v h' => v = .a (.d (.bool r)) ∧ h' = H := by
 unfold Z12 at hE
 refine ACalls.of_wp (fn := Tryz.f29) (c := _) Tryz.tab_ok (fun _ _ => Tryz.call29 _ _) Tryz.func29 rfl (n := 29) rfl (rs := [.tmp 4]) rfl rfl ?_
 refine seqK fun K1 hK1 => ?_
 refine region ?_
 refine s0 (boxV rfl) rfl ?_
 refine s0 assignA rfl ?_
 refine nil ?_
 refine hK1 _ ?_
 clear hK1 K1
 refine seqK fun K2 hK2 => ?_
 refine seqK fun K3 hK3 => ?_
 refine region ?_
 refine s0 (fieldVA (TK rfl) rfl rfl (TK rfl) rfl rfl) rfl ?_
 refine s0 (loadV (TK rfl) rfl rfl rfl) rfl ?_
 refine s0 (binI rfl rfl rfl) rfl ?_
 refine s0 moveA rfl ?_
 refine gC rfl rfl (fun hC => moveA) rfl ?_
 refine gC rfl rfl (fun hC => ungdA (k := 11) rfl (nilP rfl)) rfl ?_
 refine gC rfl rfl (fun hC => ungdA (k := 12) rfl (fieldP (TK rfl) rfl rfl (TK rfl) rfl rfl)) rfl ?_
 refine gC rfl rfl (fun hC => ungdA (k := 13) rfl (loadP (TK rfl) rfl rfl hpG rfl)) rfl ?_
 refine gC rfl rfl (fun hC => ungdA (k := 14) rfl (notB rfl)) rfl ?_
 refine s0 (pickOrA rfl rfl rfl) rfl ?_
 refine nil ?_
 refine hK3 _ ?_
 clear hK3 K3
 refine condE hE rfl (fun hc4 hE => ?_) (fun hc4 hE => ?_)
 ·refine seqK fun K5 hK5 => ?_
  refine region ?_
  refine s0 assignA rfl ?_
  refine nil ?_
  refine hK5 _ ?_
  clear hK5 K5
  refine AWp.ret ?_
  repeat (first | refine xBlock_ret ?_ | refine xThen_ret ?_)
  obtain rfl := Option.some.inj hE
  refine retQ.retF H rfl ⟨rfl, rfl⟩ ?_
  exact (fun _ _ h => h)
 refine AWp.skip ?_
 refine hK2 _ ?_
 clear hK2 K2
 refine seqK fun K6 hK6 => ?_
 refine AWp.draw rfl ?_
 refine DOps.s0 moveA rfl ?_
 refine DOps.s0 (nilP rfl) rfl ?_
 refine DOps.s0 (fieldP (TK rfl) rfl rfl (TK rfl) rfl rfl) rfl ?_
 refine DOps.s0 (loadP (TK rfl) rfl rfl hpG rfl) rfl ?_
 refine DOps.s0 (fieldVA (TK rfl) rfl rfl (TK rfl) rfl rfl) rfl ?_
 refine DOps.s0 (loadV (TK rfl) rfl rfl rfl) rfl ?_
 obtain ⟨x7, gx7, hE⟩ := bindO_some hE
 refine DOps.s0 (callP rfl rfl (fun H => Z89_walk gx7 H)) rfl ?_
 refine DOps.s0 moveA rfl ?_
 refine DOps.s0 (extract rfl rfl) rfl ?_
 refine DOps.s0 (extract rfl rfl) rfl ?_
 refine DOps.sB (TK rfl) rfl rfl ?_ (by repeat (first | exact Snoc.nil | apply Snoc.cons))
 refine DOps.sLn (storeLFA (TK rfl) rfl rfl rfl rfl rfl) ?_
 refine DOps.s0 assignA rfl ?_
 refine DOps.nil (by decide +kernel) ?_
 refine hK6 _ ?_
 clear hK6 K6
 refine freezeA 5 _ rfl (Keeps.c (k := 6) (by conv => lhs; whnf) (by rfl) Keeps.nil) ?_
 refine seqK fun K8 hK8 => ?_
 refine region ?_
 refine s0 moveA rfl ?_
 refine s0 (notB rfl) rfl ?_
 refine s0 assignA rfl ?_
 refine nil ?_
 refine hK8 _ ?_
 clear hK8 K8
 refine AWp.ret ?_
 repeat (first | refine xBlock_ret ?_ | refine xThen_ret ?_)
 obtain rfl := Option.some.inj hE
 refine retQ.retF H rfl ⟨rfl, rfl⟩ ?_
 exact (fun _ _ h => h)
def Z68_j2  (y3_l0 : TDef) : Option (TDef × Bool) := some ((TDef.mk (0 : Int) ([] : Bs) (Sl.nil : Sl Bs) (Sl.nil : Sl TDir) (Sl.nil : Sl TField) (Sl.nil : Sl TMember) (Sl.nil : Sl TInput)), false)
def Z68_l7 (a0 : TDoc) (a1 : Bs)  : Nat → Nat → TDef → Option (TDef × Bool)
 | 0, _, _ => none
 | n7 + 1, s11_8, y9_l0 => bif (decide (((s11_8 : Nat) : Int) < ((a0.FDefs.l.length : Nat) : Int))) then ((a0.FDefs.l[s11_8]?).bind fun x15 => bif ((x15.FName == a1)) then (some (x15, true)) else ((Z68_l7 a0 a1 n7) (s11_8 + 1) y9_l0)) else (Z68_j2   y9_l0)
def Z68 (a0 : TDoc) (a1 : Bs) : Option (TDef × Bool) := Z68_l7 a0 a1 (a0.FDefs.l.length + 1) 0 TDef.zero
theorem Z68_walk {a0 : TDoc} {a1 : Bs}   {r : (TDef × Bool)} (hE : Z68 a0 a1 = some r) (H : Heap)  : ACalls Tryz.prog 65 [.agg (TDoc.c a0), .d (.str a1)] H fun v h' => v = .tup [.agg (TDef.c r.1), .d (.bool r.2)] ∧ h' = H := by
 unfold Z68 at hE
 refine ACalls.of_wp (fn := Tryz.f65) (c := _) Tryz.tab_ok (fun _ _ => Tryz.call65 _ _) Tryz.func65 rfl (n := 22) rfl (rs := [.cell 4 73, .tmp 5]) rfl rfl ?_
 refine seqK fun K1 hK1 => ?_
 refine region ?_
 refine s0 (boxV rfl) rfl ?_
 refine sL (allocLA (TK rfl) rfl) rfl ?_
 refine s0 assignA rfl ?_
 refine nil ?_
 refine hK1 _ ?_
 clear hK1 K1
 refine seqJ (KeepsT.A (k := 4) KeepsT.nil) (fun (z : TDef) => []) (fun z => [TDef.c z]) (fun z => H) (fun z => Z68_j2 z = some r) ?_ ?_
 ·intro K2 hK2
  refine seqK fun K5 hK5 => ?_
  refine region ?_
  refine s0 (fieldVA (TK rfl) rfl rfl (TK rfl) rfl rfl) rfl ?_
  refine s0 (loadV (TK rfl) rfl rfl rfl) rfl ?_
  refine sLen (f := TDef.c) (s := a0.FDefs) (TK rfl) rfl rfl rfl rfl fun hL6 => ?_
  refine s0 moveA rfl ?_
  refine nil ?_
  refine hK5 _ ?_
  clear hK5 K5
  refine block ?_
  refine loopO (KeepsT.A (k := 1) (KeepsT.A (k := 4) (KeepsT.A (k := 9) (KeepsT.A (k := 10) KeepsT.nil)))) (fun (z : Nat × Nat × TDef) => [(11, .a (.d (.int .i64 ((z.2.1 : Nat) : Int))))]) (fun z => [TDef.c z.2.2]) (fun z => H) (fun z => z.1) (fun z => Z68_l7 a0 a1 z.1 z.2.1 z.2.2 = some r) ((a0.FDefs.l.length + 1), 0, TDef.zero) hE Weak.toA ?_
  rintro ⟨n7, s11_8, y9_l0⟩ hE K7 hK7
  try dsimp only at hE
  cases n7 with
  | zero => cases hE
  | succ n7 =>
    rw [Z68_l7] at hE
    refine seqK fun K10 hK10 => ?_
    refine region ?_
    refine s0 (binI rfl rfl rfl) rfl ?_
    refine nil ?_
    refine hK10 _ ?_
    clear hK10 K10
    refine seqK fun K11 hK11 => ?_
    refine condE hE rfl (fun hc12 hE => ?_) (fun hc12 hE => ?_)
    ·try dsimp only at hc12
     have hf12 := of_decide_eq_true hc12
     refine AWp.skip ?_
     refine hK11 _ ?_
     clear hK11 K11
     refine seqK fun K13 hK13 => ?_
     refine block ?_
     refine seqK fun K14 hK14 => ?_
     refine region ?_
     obtain ⟨x15, gx15, hE⟩ := bindO_some hE
     refine s0 (idxMn (f := TDef.c) (n := s11_8) (TK rfl) rfl (TK rfl) rfl rfl rfl gx15) rfl ?_
     refine s0 (loadV (TK rfl) rfl rfl rfl) rfl ?_
     refine sL (allocLA (TK rfl) rfl) rfl ?_
     refine sLn (storeLFA (TK rfl) rfl rfl rfl rfl rfl) ?_
     refine nil ?_
     refine hK14 _ ?_
     clear hK14 K14
     refine freezeA 7 _ rfl (Keeps.c (k := 1) (by conv => lhs; whnf) (by rfl) (Keeps.c (k := 4) (by conv => lhs; whnf) (by rfl) (Keeps.c (k := 9) (by conv => lhs; whnf) (by rfl) (Keeps.c (k := 10) (by conv => lhs; whnf) (by rfl) (Keeps.c (k := 11) (by conv => lhs; whnf) (by rfl) Keeps.nil))))) ?_
     refine seqK fun K16 hK16 => ?_
     refine region ?_
     refine s0 (fieldVA (TK rfl) rfl rfl (TK rfl) rfl rfl) rfl ?_
     refine s0 (loadV (TK rfl) rfl rfl rfl) rfl ?_
     refine s0 moveA rfl ?_
     refine s0 (binS rfl rfl rfl) rfl ?_
     refine nil ?_
     refine hK16 _ ?_
     clear hK16 K16
     refine condE hE rfl (fun hc17 hE => ?_) (fun hc17 hE => ?_)
     ·refine seqK fun K18 hK18 => ?_
      refine region ?_
      refine s0 (loadV (TK rfl) rfl rfl rfl) rfl ?_
      refine sLn (storeLFA (TK rfl) rfl rfl rfl rfl rfl) ?_
      refine s0 assignA rfl ?_
      refine nil ?_
      refine hK18 _ ?_
      clear hK18 K18
      refine AWp.ret ?_
      repeat (first | refine xBlock_ret ?_ | refine xThen_ret ?_)
      obtain rfl := Option.some.inj hE
      refine retQ.retF H rfl ⟨rfl, rfl⟩ ?_
      exact (fun _ _ h => h)
     refine AWp.skip ?_
     refine hK13 _ ?_
     clear hK13 K13
     refine region ?_
     refine s0 (addIA rfl rfl) rfl ?_
     refine s0 moveA rfl ?_
     refine nil ?_
     exact hK7 _ (n7, (s11_8 + 1), y9_l0) Weak.toA hE (Nat.lt_succ_self _)
    refine AWp.exit ?_
    exact hK2 _ y9_l0 Weak.toA hE
 rintro y3_l0 hE
 try dsimp only at hE
 unfold Z68_j2 at hE
 refine seqK fun K4 hK4 => ?_
 refine region ?_
 refine s0 (build Tryz.tab_ok rfl rfl rfl rfl rfl rfl) rfl ?_
 refine sLn (storeLFA (TK rfl) rfl rfl rfl rfl rfl) ?_
 refine s0 assignA rfl ?_
 refine nil ?_
 refine hK4 _ ?_
 clear hK4 K4
 refine AWp.ret ?_
 repeat (first | refine xBlock_ret ?_ | refine xThen_ret ?_)
 obtain rfl := Option.some.inj hE
 refine retQ.retF H rfl ⟨rfl, rfl⟩ ?_
 exact (fun _ _ h => h)
def Z73 (a0 : TDoc) (a1 : Bs) : Option Int := (Z68 a0 a1).bind fun x3 => some x3.1.FKind
theorem Z73_walk {a0 : TDoc} {a1 : Bs}   {r : Int} (hE : Z73 a0 a1 = some r) (H : Heap)  : ACalls Tryz.prog 59 [.agg (TDoc.c a0), .d (.str a1)] H fun v h' => v = .a (.d (.int .i64 r)) ∧ h' = H := by
 unfold Z73 at hE
 refine ACalls.of_wp (fn := Tryz.f59) (c := _) Tryz.tab_ok (fun _ _ => Tryz.call59 _ _) Tryz.func59 rfl (n := 15) rfl (rs := [.tmp 4]) rfl rfl ?_
 refine seqK fun K1 hK1 => ?_
 refine region ?_
 refine s0 (boxV rfl) rfl ?_
 refine s0 assignA rfl ?_
 refine nil ?_
 refine hK1 _ ?_
 clear hK1 K1
 refine seqK fun K2 hK2 => ?_
 refine region ?_
 refine s0 (loadV (TK rfl) rfl rfl rfl) rfl ?_
 refine s0 moveA rfl ?_
 obtain ⟨x3, gx3, hE⟩ := bindO_some hE
 refine s0 (callP rfl rfl (fun H => Z68_walk gx3 H)) rfl ?_
 refine s0 moveA rfl ?_
 refine s0 (extract rfl rfl) rfl ?_
 refine s0 (extract rfl rfl) rfl ?_
 refine sL (allocLA (TK rfl) rfl) rfl ?_
 refine sLn (storeLFA (TK rfl) rfl rfl rfl rfl rfl) ?_
 refine s0 assignA rfl ?_
 refine nil ?_
 refine hK2 _ ?_
 clear hK2 K2
 refine freezeA 5 _ rfl Keeps.nil ?_
 refine seqK fun K4 hK4 => ?_
 refine region ?_
 refine s0 (fieldVA (TK rfl) rfl rfl (TK rfl) rfl rfl) rfl ?_
 refine s0 (loadV (TK rfl) rfl rfl rfl) rfl ?_
 refine s0 assignA rfl ?_
 refine nil ?_
 refine hK4 _ ?_
 clear hK4 K4
 refine AWp.ret ?_
 repeat (first | refine xBlock_ret ?_ | refine xThen_ret ?_)
 obtain rfl := Option.some.inj hE
 refine retQ.retF H rfl ⟨rfl, rfl⟩ ?_
 exact (fun _ _ h => h)
def Z72 (a0 : Bs) : Option Bool := some (((((a0 == ([73, 110, 116] : Bs))) || ((a0 == ([83, 116, 114, 105, 110, 103] : Bs)))) || ((a0 == ([66, 111, 111, 108, 101, 97, 110] : Bs)))) || ((a0 == ([73, 68] : Bs))))
theorem Z72_walk {a0 : Bs}   {r : Bool} (hE : Z72 a0 = some r) (H : Heap)  : ACalls Tryz.prog 66 [.d (.str a0)] H fun v h' => v = .a (.d (.bool r)) ∧ h' = H := by
 unfold Z72 at hE
 refine ACalls.of_wp (fn := Tryz.f66) (c := _) Tryz.tab_ok (fun _ _ => Tryz.call66 _ _) Tryz.func66 rfl (n := 17) rfl (rs := [.tmp 2]) rfl rfl ?_
 refine seqK fun K1 hK1 => ?_
 refine region ?_
 refine s0 assignA rfl ?_
 refine nil ?_
 refine hK1 _ ?_
 clear hK1 K1
 refine seqK fun K2 hK2 => ?_
 refine region ?_
 refine s0 moveA rfl ?_
 refine s0 (binS rfl rfl rfl) rfl ?_
 refine s0 moveA rfl ?_
 refine gC rfl rfl (fun hC => moveA) rfl ?_
 refine gC rfl rfl (fun hC => ungdA (k := 6) rfl (binS rfl rfl rfl)) rfl ?_
 refine s0 (pickOrA rfl rfl rfl) rfl ?_
 refine s0 moveA rfl ?_
 refine gC rfl rfl (fun hC => moveA) rfl ?_
 refine gC rfl rfl (fun hC => ungdA (k := 10) rfl (binS rfl rfl rfl)) rfl ?_
 refine s0 (pickOrA rfl rfl rfl) rfl ?_
 refine s0 moveA rfl ?_
 refine gC rfl rfl (fun hC => moveA) rfl ?_
 refine gC rfl rfl (fun hC => ungdA (k := 14) rfl (binS rfl rfl rfl)) rfl ?_
 refine s0 (pickOrA rfl rfl rfl) rfl ?_
 refine s0 assignA rfl ?_
 refine nil ?_
 refine hK2 _ ?_
 clear hK2 K2
 refine AWp.ret ?_
 repeat (first | refine xBlock_ret ?_ | refine xThen_ret ?_)
 obtain rfl := Option.some.inj hE
 refine retQ.retF H rfl ⟨rfl, rfl⟩ ?_
 exact (fun _ _ h => h)
def Z71 (a0 : TDoc) (a1 : Bs) : Option Bool := (Z72 a1).bind fun x3 => guardO (!x3) (Z73 a0 a1) (0 : Int) fun x4 => some (x3 || (decide (x4 = (4 : Int))))
theorem Z71_walk {a0 : TDoc} {a1 : Bs}   {r : Bool} (hE : Z71 a0 a1 = some r) (H : Heap)  : ACalls Tryz.prog 58 [.agg (TDoc.c a0), .d (.str a1)] H fun v h' => v = .a (.d (.bool r)) ∧ h' = H := by
 unfold Z71 at hE
 refine ACalls.of_wp (fn := Tryz.f58) (c := _) Tryz.tab_ok (fun _ _ => Tryz.call58 _ _) Tryz.func58 rfl (n := 13) rfl (rs := [.tmp 4]) rfl rfl ?_
 refine seqK fun K1 hK1 => ?_
 refine region ?_
 refine s0 (boxV rfl) rfl ?_
 refine s0 assignA rfl ?_
 refine nil ?_
 refine hK1 _ ?_
 clear hK1 K1
 refine seqK fun K2 hK2 => ?_
 refine region ?_
 refine s0 moveA rfl ?_
 obtain ⟨x3, gx3, hE⟩ := bindO_some hE
 refine s0 (callP rfl rfl (fun H => Z72_walk gx3 H)) rfl ?_
 refine s0 moveA rfl ?_
 refine gC rfl rfl (fun hC => loadV (TK rfl) rfl rfl rfl) rfl ?_
 refine gC rfl rfl (fun hC => moveA) rfl ?_
 obtain ⟨x4, gx4, hE⟩ := guardO_some hE
 refine gC rfl rfl (fun hC => ungdA (k := 8) rfl (ungdA (k := 9) rfl (callP rfl rfl (fun H => Z73_walk (gx4 hC) H)))) rfl ?_
 refine gC rfl rfl (fun hC => ungdA (k := 10) rfl (binI rfl rfl rfl)) rfl ?_
 refine s0 (pickOrA rfl rfl rfl) rfl ?_
 refine s0 assignA rfl ?_
 refine nil ?_
 refine hK2 _ ?_
 clear hK2 K2
 refine AWp.ret ?_
 repeat (first | refine xBlock_ret ?_ | refine xThen_ret ?_)
 obtain rfl := Option.some.inj hE
 refine retQ.retF H rfl ⟨rfl, rfl⟩ ?_
 exact (fun _ _ h => h)
def Z70 (a0 : TDoc) (a1 : Bs) : Option Bool := (Z71 a0 a1).bind fun x3 => guardO (!x3) (Z73 a0 a1) (0 : Int) fun x4 => some (x3 || (decide (x4 = (5 : Int))))
theorem Z70_walk {a0 : TDoc} {a1 : Bs}   {r : Bool} (hE : Z70 a0 a1 = some r) (H : Heap)  : ACalls Tryz.prog 30 [.agg (TDoc.c a0), .d (.str a1)] H fun v h' => v = .a (.d (.bool r)) ∧ h' = H := by
 unfold Z70 at hE
 refine ACalls.of_wp (fn := Tryz.f30) (c := _) Tryz.tab_ok (fun _ _ => Tryz.call30 _ _) Tryz.func30 rfl (n := 14) rfl (rs := [.tmp 4]) rfl rfl ?_
 refine seqK fun K1 hK1 => ?_
 refine region ?_
 refine s0 (boxV rfl) rfl ?_
 refine s0 assignA rfl ?_
 refine nil ?_
 refine hK1 _ ?_
 clear hK1 K1
 refine seqK fun K2 hK2 => ?_
 refine region ?_
 refine s0 (loadV (TK rfl) rfl rfl rfl) rfl ?_
 refine s0 moveA rfl ?_
 obtain ⟨x3, gx3, hE⟩ := bindO_some hE
 refine s0 (callP rfl rfl (fun H => Z71_walk gx3 H)) rfl ?_
 refine s0 moveA rfl ?_
 refine gC rfl rfl (fun hC => loadV (TK rfl) rfl rfl rfl) rfl ?_
 refine gC rfl rfl (fun hC => moveA) rfl ?_
 obtain ⟨x4, gx4, hE⟩ := guardO_some hE
 refine gC rfl rfl (fun hC => ungdA (k := 9) rfl (ungdA (k := 10) rfl (callP rfl rfl (fun H => Z73_walk (gx4 hC) H)))) rfl ?_
 refine gC rfl rfl (fun hC => ungdA (k := 11) rfl (binI rfl rfl rfl)) rfl ?_
 refine s0 (pickOrA rfl rfl rfl) rfl ?_
 refine s0 assignA rfl ?_
 refine nil ?_
 refine hK2 _ ?_
 clear hK2 K2
 refine AWp.ret ?_
 repeat (first | refine xBlock_ret ?_ | refine xThen_ret ?_)
 obtain rfl := Option.some.inj hE
 refine retQ.retF H rfl ⟨rfl, rfl⟩ ?_
 exact (fun _ _ h => h)
def Z16 (a0 : TValue) (a1 : Int) : Option (TValue × Int) := bif (!decide (a1 = (0 : Int))) then (some ((TValue.mk (0 : Int) (0 : Int) ([] : Bs) true ([]) (Sl.nil : Sl Bs)), a1)) else ((value_Copy a0).bind fun x7 => some (x7, (0 : Int)))
theorem Z16_walk {a0 : TValue} {a1 : Int}   {r : (TValue × Int)} (hE : Z16 a0 a1 = some r) (H : Heap)  : ACalls Tryz.prog 31 [.agg (TValue.c a0), .d (.int .i64 a1)] H fun v h' => v = .tup [.agg (TValue.c r.1), .d (.int .i64 r.2)] ∧ h' = H := by
 unfold Z16 at hE
 refine ACalls.of_wp (fn := Tryz.f31) (c := _) Tryz.tab_ok (fun _ _ => Tryz.call31 _ _) Tryz.func31 rfl (n := 12) rfl (rs := [.cell 4 31, .tmp 5]) rfl rfl ?_
 refine seqK fun K1 hK1 => ?_
 refine region ?_
 refine s0 (boxV rfl) rfl ?_
 refine sL (allocLA (TK rfl) rfl) rfl ?_
 refine s0 assignA rfl ?_
 refine nil ?_
 refine hK1 _ ?_
 clear hK1 K1
 refine seqK fun K2 hK2 => ?_
 refine seqK fun K3 hK3 => ?_
 refine region ?_
 refine s0 moveA rfl ?_
 refine s0 (binI rfl rfl rfl) rfl ?_
 refine nil ?_
 refine hK3 _ ?_
 clear hK3 K3
 refine condE hE rfl (fun hc4 hE => ?_) (fun hc4 hE => ?_)
 ·refine seqK fun K5 hK5 => ?_
  refine region ?_
  refine s0 (build Tryz.tab_ok rfl rfl rfl rfl rfl rfl) rfl ?_
  refine s0 moveA rfl ?_
  refine sLn (storeLFA (TK rfl) rfl rfl rfl rfl rfl) ?_
  refine s0 assignA rfl ?_
  refine nil ?_
  refine hK5 _ ?_
  clear hK5 K5
  refine AWp.ret ?_
  repeat (first | refine xBlock_ret ?_ | refine xThen_ret ?_)
  obtain rfl := Option.some.inj hE
  refine retQ.retF H rfl ⟨rfl, rfl⟩ ?_
  exact (fun _ _ h => h)
 refine AWp.skip ?_
 refine hK2 _ ?_
 clear hK2 K2
 refine seqK fun K6 hK6 => ?_
 refine region ?_
 refine s0 (loadV (TK rfl) rfl rfl rfl) rfl ?_
 obtain ⟨x7, gx7, hE⟩ := bindO_some hE
 refine s0 (callP rfl rfl (fun H => value_Copy_walk gx7 H)) rfl ?_
 refine sLn (storeLFA (TK rfl) rfl rfl rfl rfl rfl) ?_
 refine s0 assignA rfl ?_
 refine nil ?_
 refine hK6 _ ?_
 clear hK6 K6
 refine AWp.ret ?_
 repeat (first | refine xBlock_ret ?_ | refine xThen_ret ?_)
 obtain rfl := Option.some.inj hE
 refine retQ.retF H rfl ⟨rfl, rfl⟩ ?_
 exact (fun _ _ h => h)
def Z87 (a0 : TRef) : Option Bool := guardO ((decide ((0 : Int) < ((a0.FWraps.l.length : Nat) : Int)))) (a0.FWraps.l[0]?) (0 : Int) fun x4 => some ((decide ((0 : Int) < ((a0.FWraps.l.length : Nat) : Int))) && (decide (x4 = (1 : Int))))
theorem Z87_walk {a0 : TRef}   {r : Bool} (hE : Z87 a0 = some r) (H : Heap)  : ACalls Tryz.prog 41 [.agg (TRef.c a0)] H fun v h' => v = .a (.d (.bool r)) ∧ h' = H := by
 unfold Z87 at hE
 refine ACalls.of_wp (fn := Tryz.f41) (c := _) Tryz.tab_ok (fun _ _ => Tryz.call41 _ _) Tryz.func41 rfl (n := 14) rfl (rs := [.tmp 2]) rfl rfl ?_
 refine seqK fun K1 hK1 => ?_
 refine region ?_
 refine s0 (boxV rfl) rfl ?_
 refine s0 assignA rfl ?_
 refine nil ?_
 refine hK1 _ ?_
 clear hK1 K1
 refine seqK fun K2 hK2 => ?_
 refine region ?_
 refine s0 (fieldVA (TK rfl) rfl rfl (TK rfl) rfl rfl) rfl ?_
 refine s0 (loadV (TK rfl) rfl rfl rfl) rfl ?_
 refine sLen (f := (intE .i64)) (s := a0.FWraps) (TK rfl) rfl rfl rfl rfl fun hL3 => ?_
 refine s0 (binI rfl rfl rfl) rfl ?_
 refine s0 moveA rfl ?_
 refine gC rfl rfl (fun hC => fieldVA (TK rfl) rfl rfl (TK rfl) rfl rfl) rfl ?_
 refine gC rfl rfl (fun hC => ungdA (k := 8) rfl (loadV (TK rfl) rfl rfl rfl)) rfl ?_
 obtain ⟨x4, gx4, hE⟩ := guardO_some hE
 refine gC rfl rfl (fun hC => ungdA (k := 9) rfl (idxMn (f := (intE .i64)) (n := 0) (TK rfl) rfl (TK rfl) rfl rfl rfl (gx4 hC))) rfl ?_
 refine gC rfl rfl (fun hC => ungdA (k := 10) rfl (loadV (TK rfl) rfl rfl rfl)) rfl ?_
 refine gC rfl rfl (fun hC => ungdA (k := 11) rfl (binI rfl rfl rfl)) rfl ?_
 refine s0 (pickAndA rfl rfl rfl) rfl ?_
 refine s0 assignA rfl ?_
 refine nil ?_
 refine hK2 _ ?_
 clear hK2 K2
 refine AWp.ret ?_
 repeat (first | refine xBlock_ret ?_ | refine xThen_ret ?_)
 obtain rfl := Option.some.inj hE
 refine retQ.retF H rfl ⟨rfl, rfl⟩ ?_
 exact (fun _ _ h => h)
end Go.Proofs

namespace Go.Proofs
open Go Go.Ab
open AOps Cert AWp
variable {lou : Lou}
def Z9 (a0 : Coerce_coercer) (a1 : Int) : Option (Int × Coerce_coercer) := bif (decide ((24 : Int) < a1)) then (some ((5 : Int), a0)) else ((addC a0.Fnodes (1 : Int)).bind fun x7 => bif (decide ((4096 : Int) < x7)) then (some ((4 : Int), (Coerce_coercer.mk a0.Fd a0.Fvars a0.Fliteral x7))) else (some ((0 : Int), (Coerce_coercer.mk a0.Fd a0.Fvars a0.Fliteral x7))))
theorem Z9_walk {a0 : Coerce_coercer} {a1 : Int}  {c0 : Nat} {r : (Int × Coerce_coercer)} (hE : Z9 a0 a1 = some r) (H : Heap) (hc0 : H c0 = some (.cells (Coerce_coercer.c a0))) : ACalls Tryz.prog 62 [.d (.ptr c0 0), .d (.int .i64 a1)] H fun v h' => v = .a (.d (.int .i64 r.1)) ∧ h' = (H.set c0 (some (.cells (Coerce_coercer.c r.2)))) := by
 unfold Z9 at hE
 refine ACalls.of_wp (fn := Tryz.f62) (c := _) Tryz.tab_ok (fun _ _ => Tryz.call62 _ _) Tryz.func62 rfl (n := 19) rfl (rs := [.tmp 4]) rfl rfl ?_
 refine AWp.heqA (h' := (H.set c0 (some (.cells (Coerce_coercer.c a0))))) (by funext n_; simp only [Heap.set]; (repeat' split) <;> simp_all) ?_
 refine seqK fun K1 hK1 => ?_
 refine region ?_
 refine s0 assignA rfl ?_
 refine nil ?_
 refine hK1 _ ?_
 clear hK1 K1
 refine seqK fun K2 hK2 => ?_
 refine seqK fun K3 hK3 => ?_
 refine region ?_
 refine s0 moveA rfl ?_
 refine s0 (binI rfl rfl rfl) rfl ?_
 refine nil ?_
 refine hK3 _ ?_
 clear hK3 K3
 refine condE hE rfl (fun hc4 hE => ?_) (fun hc4 hE => ?_)
 ·refine seqK fun K5 hK5 => ?_
  refine region ?_
  refine s0 assignA rfl ?_
  refine nil ?_
  refine hK5 _ ?_
  clear hK5 K5
  refine AWp.ret ?_
  repeat (first | refine xBlock_ret ?_ | refine xThen_ret ?_)
  obtain rfl := Option.some.inj hE
  refine retQ.retF (H.set c0 (some (.cells (Coerce_coercer.c a0)))) rfl ⟨rfl, rfl⟩ ?_
  exact (fun _ _ h => h)
 refine AWp.skip ?_
 refine hK2 _ ?_
 clear hK2 K2
 refine seqK fun K6 hK6 => ?_
 refine region ?_
 refine s0 moveA rfl ?_
 refine s0 (nilP rfl) rfl ?_
 refine s0 (fieldP (TK rfl) rfl rfl (TK rfl) rfl rfl) rfl ?_
 refine s0 (loadP (TK rfl) rfl rfl hpG rfl) rfl ?_
 obtain ⟨x7, gx7, hE⟩ := bindO_some hE
 refine s0 (addM rfl rfl gx7) rfl ?_
 refine s0 (nilP rfl) rfl ?_
 refine s0 (fieldP (TK rfl) rfl rfl (TK rfl) rfl rfl) rfl ?_
 refine sHn (storeP1 (TK rfl) rfl rfl hpG rfl (by repeat (first | exact SetAt.zero | apply SetAt.succ))) rfl rfl ?_
 refine AOps.heq (h' := (H.set c0 (some (.cells (Coerce_coercer.c (Coerce_coercer.mk a0.Fd a0.Fvars a0.Fliteral x7)))))) (by first | rfl | (rw [Heap.set_set]; rfl) | (funext n_; simp only [Heap.set]; (repeat' split) <;> first | rfl | (exfalso; simp_all; done) | (simp_all; done))) ?_
 refine nil ?_
 refine hK6 _ ?_
 clear hK6 K6
 refine seqK fun K8 hK8 => ?_
 refine seqK fun K9 hK9 => ?_
 refine region ?_
 refine s0 moveA rfl ?_
 refine s0 (nilP rfl) rfl ?_
 refine s0 (fieldP (TK rfl) rfl rfl (TK rfl) rfl rfl) rfl ?_
 refine s0 (loadP (TK rfl) rfl rfl hpG rfl) rfl ?_
 refine s0 (binI rfl rfl rfl) rfl ?_
 refine nil ?_
 refine hK9 _ ?_
 clear hK9 K9
 refine condE hE rfl (fun hc10 hE => ?_) (fun hc10 hE => ?_)
 ·refine seqK fun K11 hK11 => ?_
  refine region ?_
  refine s0 assignA rfl ?_
  refine nil ?_
  refine hK11 _ ?_
  clear hK11 K11
  refine AWp.ret ?_
  repeat (first | refine xBlock_ret ?_ | refine xThen_ret ?_)
  obtain rfl := Option.some.inj hE
  refine retQ.retF (H.set c0 (some (.cells (Coerce_coercer.c (Coerce_coercer.mk a0.Fd a0.Fvars a0.Fliteral x7))))) rfl ⟨rfl, rfl⟩ ?_
  exact (fun _ _ h => h)
 refine AWp.skip ?_
 refine hK8 _ ?_
 clear hK8 K8
 refine seqK fun K12 hK12 => ?_
 refine region ?_
 refine s0 assignA rfl ?_
 refine nil ?_
 refine hK12 _ ?_
 clear hK12 K12
 refine AWp.ret ?_
 repeat (first | refine xBlock_ret ?_ | refine xThen_ret ?_)
 obtain rfl := Option.some.inj hE
 refine retQ.retF (H.set c0 (some (.cells (Coerce_coercer.c (Coerce_coercer.mk a0.Fd a0.Fvars a0.Fliteral x7))))) rfl ⟨rfl, rfl⟩ ?_
 exact (fun _ _ h => h)
def Z15_j8  (y9_c0 : Coerce_coercer) : Option (Int × Coerce_coercer) := some ((0 : Int), y9_c0)
def Z15_l13 (a1 : TValue) (a2 : Int) (k_rec_61 : Coerce_coercer → TValue → Int → Option (Int × Coerce_coercer)) : Nat → Nat → Coerce_coercer → Option (Int × Coerce_coercer)
 | 0, _, _ => none
 | n13 + 1, s20_14, y15_c0 => bif (decide (((s20_14 : Nat) : Int) < ((a1.FItems.l.length : Nat) : Int))) then ((a1.FItems.l[s20_14]?).bind fun x21 => (addC a2 (1 : Int)).bind fun x23 => (k_rec_61 y15_c0 x21 x23).bind fun x24 => bif (!decide (x24.1 = (0 : Int))) then (some (x24.1, x24.2)) else ((Z15_l13 a1 a2 k_rec_61 n13) (s20_14 + 1) x24.2)) else (Z15_j8   y15_c0)
def Z15_n : Nat → Coerce_coercer → TValue → Int → Option (Int × Coerce_coercer)
 | 0, _, _, _ => none
 | n + 1, a0, a1, a2 => (Z9 a0 a2).bind fun x4 => bif (!decide (x4.1 = (0 : Int))) then (some (x4.1, x4.2)) else (Z15_l13 a1 a2 (Z15_n n) (a1.FItems.l.length + 1) 0 x4.2)
theorem Z15_step (n : Nat) (ih_61 : ∀ {a0 : Coerce_coercer} {a1 : TValue} {a2 : Int}  {c0 : Nat} {r : (Int × Coerce_coercer)}, Z15_n n a0 a1 a2 = some r → ∀ (H : Heap) (hc0 : H c0 = some (.cells (Coerce_coercer.c a0))), ACalls Tryz.prog 61 [.d (.ptr c0 0), .agg (TValue.c a1), .d (.int .i64 a2)] H fun v h' => v = .a (.d (.int .i64 r.1)) ∧ h' = (H.set c0 (some (.cells (Coerce_coercer.c r.2))))) : ∀ {a0 : Coerce_coercer} {a1 : TValue} {a2 : Int}  {c0 : Nat} {r : (Int × Coerce_coercer)}, Z15_n (n + 1) a0 a1 a2 = some r → ∀ (H : Heap) (hc0 : H c0 = some (.cells (Coerce_coercer.c a0))), ACalls Tryz.prog 61 [.d (.ptr c0 0), .agg (TValue.c a1), .d (.int .i64 a2)] H fun v h' => v = .a (.d (.int .i64 r.1)) ∧ h' = (H.set c0 (some (.cells (Coerce_coercer.c r.2)))) := by
 intro a0 a1 a2  c0 r hE H hc0
 rw [Z15_n] at hE
 refine ACalls.of_wp (fn := Tryz.f61) (c := _) Tryz.tab_ok (fun _ _ => Tryz.call61 _ _) Tryz.func61 rfl (n := 33) rfl (rs := [.tmp 6]) rfl rfl ?_
 refine AWp.heqA (h' := (H.set c0 (some (.cells (Coerce_coercer.c a0))))) (by funext n_; simp only [Heap.set]; (repeat' split) <;> simp_all) ?_
 refine seqK fun K1 hK1 => ?_
 refine region ?_
 refine s0 (boxV rfl) rfl ?_
 refine s0 assignA rfl ?_
 refine nil ?_
 refine hK1 _ ?_
 clear hK1 K1
 refine seqK fun K2 hK2 => ?_
 refine seqK fun K3 hK3 => ?_
 refine region ?_
 refine s0 moveA rfl ?_
 refine s0 moveA rfl ?_
 obtain ⟨x4, gx4, hE⟩ := bindO_some hE
 refine sH (callH rfl rfl (Z9_walk gx4 _ hpG)) rfl ?_
 refine AOps.heq (h' := (H.set c0 (some (.cells (Coerce_coercer.c x4.2))))) (by first | rfl | (rw [Heap.set_set]; rfl) | (funext n_; simp only [Heap.set]; (repeat' split) <;> first | rfl | (exfalso; simp_all; done) | (simp_all; done))) ?_
 refine s0 assignA rfl ?_
 refine nil ?_
 refine hK3 _ ?_
 clear hK3 K3
 refine seqK fun K5 hK5 => ?_
 refine region ?_
 refine s0 moveA rfl ?_
 refine s0 (binI rfl rfl rfl) rfl ?_
 refine nil ?_
 refine hK5 _ ?_
 clear hK5 K5
 refine condE hE rfl (fun hc6 hE => ?_) (fun hc6 hE => ?_)
 ·refine seqK fun K7 hK7 => ?_
  refine region ?_
  refine s0 moveA rfl ?_
  refine s0 assignA rfl ?_
  refine nil ?_
  refine hK7 _ ?_
  clear hK7 K7
  refine AWp.ret ?_
  repeat (first | refine xBlock_ret ?_ | refine xThen_ret ?_)
  obtain rfl := Option.some.inj hE
  refine retQ.retF (H.set c0 (some (.cells (Coerce_coercer.c x4.2)))) rfl ⟨rfl, rfl⟩ ?_
  exact (fun _ _ h => h)
 refine AWp.skip ?_
 refine hK2 _ ?_
 clear hK2 K2
 refine seqJH KeepsT.nil (fun (z : Coerce_coercer) => []) (fun z => (H.set c0 (some (.cells (Coerce_coercer.c z))))) (fun z => Z15_j8 z = some r) ?_ ?_
 ·intro K8 hK8
  refine seqK fun K11 hK11 => ?_
  refine region ?_
  refine s0 (fieldVA (TK rfl) rfl rfl (TK rfl) rfl rfl) rfl ?_
  refine s0 (loadV (TK rfl) rfl rfl (congrArg (fun x => some (A.d x)) (TValue.FItemsD_eq _))) rfl ?_
  refine sLen (f := TValue.c) (s := a1.FItems) (TK rfl) rfl rfl rfl rfl fun hL12 => ?_
  refine s0 moveA rfl ?_
  refine nil ?_
  refine hK11 _ ?_
  clear hK11 K11
  refine block ?_
  refine loopH (KeepsT.A (k := 0) (KeepsT.A (k := 2) (KeepsT.A (k := 18) (KeepsT.A (k := 19) KeepsT.nil)))) (fun (z : Nat × Nat × Coerce_coercer) => [(20, .a (.d (.int .i64 ((z.2.1 : Nat) : Int))))]) (fun z => (H.set c0 (some (.cells (Coerce_coercer.c z.2.2))))) (fun z => z.1) (fun z => Z15_l13 a1 a2 (Z15_n n) z.1 z.2.1 z.2.2 = some r) ((a1.FItems.l.length + 1), 0, x4.2) hE Weak.toA ?_
  rintro ⟨n13, s20_14, y15_c0⟩ hE K13 hK13
  try dsimp only at hE
  cases n13 with
  | zero => cases hE
  | succ n13 =>
    rw [Z15_l13] at hE
    refine seqK fun K16 hK16 => ?_
    refine region ?_
    refine s0 (binI rfl rfl rfl) rfl ?_
    refine nil ?_
    refine hK16 _ ?_
    clear hK16 K16
    refine seqK fun K17 hK17 => ?_
    refine condE hE rfl (fun hc18 hE => ?_) (fun hc18 hE => ?_)
    ·try dsimp only at hc18
     have hf18 := of_decide_eq_true hc18
     refine AWp.skip ?_
     refine hK17 _ ?_
     clear hK17 K17
     refine seqK fun K19 hK19 => ?_
     refine block ?_
     refine seqK fun K20 hK20 => ?_
     refine region ?_
     obtain ⟨x21, gx21, hE⟩ := bindO_some hE
     refine s0 (idxMn (f := TValue.c) (n := s20_14) (TK rfl) rfl (TK rfl) rfl rfl rfl gx21) rfl ?_
     refine s0 (loadV (TK rfl) rfl rfl rfl) rfl ?_
     refine sL (allocLA (TK rfl) rfl) rfl ?_
     refine sLn (storeLFA (TK rfl) rfl rfl rfl rfl rfl) ?_
     refine nil ?_
     refine hK20 _ ?_
     clear hK20 K20
     refine freezeA 9 _ rfl (Keeps.c (k := 0) (by conv => lhs; whnf) (by rfl) (Keeps.c (k := 2) (by conv => lhs; whnf) (by rfl) (Keeps.c (k := 18) (by conv => lhs; whnf) (by rfl) (Keeps.c (k := 19) (by conv => lhs; whnf) (by rfl) (Keeps.c (k := 20) (by conv => lhs; whnf) (by rfl) Keeps.nil))))) ?_
     refine seqK fun K22 hK22 => ?_
     refine region ?_
     refine s0 moveA rfl ?_
     refine s0 (loadV (TK rfl) rfl rfl rfl) rfl ?_
     refine s0 moveA rfl ?_
     obtain ⟨x23, gx23, hE⟩ := bindO_some hE
     refine s0 (addM rfl rfl gx23) rfl ?_
     obtain ⟨x24, gx24, hE⟩ := bindO_some hE
     refine sH (callH rfl rfl (ih_61 gx24 _ hpG)) rfl ?_
     refine AOps.heq (h' := (H.set c0 (some (.cells (Coerce_coercer.c x24.2))))) (by first | rfl | (rw [Heap.set_set]; rfl) | (funext n_; simp only [Heap.set]; (repeat' split) <;> first | rfl | (exfalso; simp_all; done) | (simp_all; done))) ?_
     refine s0 assignA rfl ?_
     refine nil ?_
     refine hK22 _ ?_
     clear hK22 K22
     refine seqK fun K25 hK25 => ?_
     refine region ?_
     refine s0 moveA rfl ?_
     refine s0 (binI rfl rfl rfl) rfl ?_
     refine nil ?_
     refine hK25 _ ?_
     clear hK25 K25
     refine condE hE rfl (fun hc26 hE => ?_) (fun hc26 hE => ?_)
     ·refine seqK fun K27 hK27 => ?_
      refine region ?_
      refine s0 moveA rfl ?_
      refine s0 assignA rfl ?_
      refine nil ?_
      refine hK27 _ ?_
      clear hK27 K27
      refine AWp.ret ?_
      repeat (first | refine xBlock_ret ?_ | refine xThen_ret ?_)
      obtain rfl := Option.some.inj hE
      refine retQ.retF (H.set c0 (some (.cells (Coerce_coercer.c x24.2)))) rfl ⟨rfl, rfl⟩ ?_
      exact (fun _ _ h => h)
     refine AWp.skip ?_
     refine hK19 _ ?_
     clear hK19 K19
     refine region ?_
     refine s0 (addIA rfl rfl) rfl ?_
     refine s0 moveA rfl ?_
     refine nil ?_
     exact hK13 _ (n13, (s20_14 + 1), x24.2) Weak.toA hE (Nat.lt_succ_self _)
    refine AWp.exit ?_
    exact hK8 _ y15_c0 Weak.toA hE
 rintro y9_c0 hE
 try dsimp only at hE
 unfold Z15_j8 at hE
 refine seqK fun K10 hK10 => ?_
 refine region ?_
 refine s0 assignA rfl ?_
 refine nil ?_
 refine hK10 _ ?_
 clear hK10 K10
 refine AWp.ret ?_
 repeat (first | refine xBlock_ret ?_ | refine xThen_ret ?_)
 obtain rfl := Option.some.inj hE
 refine retQ.retF (H.set c0 (some (.cells (Coerce_coercer.c y9_c0)))) rfl ⟨rfl, rfl⟩ ?_
 exact (fun _ _ h => h)
theorem Z15_all : ∀ (n : Nat), (∀ {a0 : Coerce_coercer} {a1 : TValue} {a2 : Int}  {c0 : Nat} {r : (Int × Coerce_coercer)}, Z15_n n a0 a1 a2 = some r → ∀ (H : Heap) (hc0 : H c0 = some (.cells (Coerce_coercer.c a0))), ACalls Tryz.prog 61 [.d (.ptr c0 0), .agg (TValue.c a1), .d (.int .i64 a2)] H fun v h' => v = .a (.d (.int .i64 r.1)) ∧ h' = (H.set c0 (some (.cells (Coerce_coercer.c r.2)))))
 | 0 => fun hE => by first | cases hE | (rw [Z15_n] at hE; cases hE)
 | n + 1 => Z15_step n (Z15_all n)
def Z15 (a0 : Coerce_coercer) (a1 : TValue) (a2 : Int) : Option (Int × Coerce_coercer) := Z15_n F0 a0 a1 a2
theorem Z15_walk {a0 : Coerce_coercer} {a1 : TValue} {a2 : Int}  {c0 : Nat} {r : (Int × Coerce_coercer)} (hE : Z15 a0 a1 a2 = some r) (H : Heap) (hc0 : H c0 = some (.cells (Coerce_coercer.c a0))) : ACalls Tryz.prog 61 [.d (.ptr c0 0), .agg (TValue.c a1), .d (.int .i64 a2)] H fun v h' => v = .a (.d (.int .i64 r.1)) ∧ h' = (H.set c0 (some (.cells (Coerce_coercer.c r.2)))) := (Z15_all F0) hE H hc0
def Z74 (a0 : (Sl Int)) : Option (Sl Int) := bif a0.nl then (some (Sl.nil : Sl Int)) else ((appC 8 (⟨false, []⟩ : Sl Int) a0).bind fun x7 => some x7)
theorem Z74_walk {a0 : (Sl Int)} {w0 : Option Nat}  {r : (Sl Int)} (hE : Z74 a0 = some r) (H : Heap)  : ACalls Tryz.prog 112 [.d (Sl.d 1 (intE .i64) w0 a0)] H fun v h' => v = .a (.d (Sl.d 1 (intE .i64) none r)) ∧ h' = H := by
 unfold Z74 at hE
 refine ACalls.of_wp (fn := Tryz.f112) (c := _) Tryz.tab_ok (fun _ _ => Tryz.call112 _ _) Tryz.func112 rfl (n := 8) rfl (rs := [.tmp 2]) rfl rfl ?_
 refine seqK fun K1 hK1 => ?_
 refine region ?_
 refine s0 (assignNil (k' := 1) rfl) rfl ?_
 refine nil ?_
 refine hK1 _ ?_
 clear hK1 K1
 refine seqK fun K2 hK2 => ?_
 refine seqK fun K3 hK3 => ?_
 refine region ?_
 refine s0 moveA rfl ?_
 refine s0 (eqNil (TK rfl) rfl rfl) rfl ?_
 refine nil ?_
 refine hK3 _ ?_
 clear hK3 K3
 refine condE hE rfl (fun hc4 hE => ?_) (fun hc4 hE => ?_)
 ·refine seqK fun K5 hK5 => ?_
  refine region ?_
  refine s0 (assignNil (k' := 1) rfl) rfl ?_
  refine nil ?_
  refine hK5 _ ?_
  clear hK5 K5
  refine AWp.ret ?_
  repeat (first | refine xBlock_ret ?_ | refine xThen_ret ?_)
  obtain rfl := Option.some.inj hE
  refine retQ.retF H rfl ⟨rfl, rfl⟩ ?_
  exact (fun _ _ h => h)
 refine AWp.skip ?_
 refine hK2 _ ?_
 clear hK2 K2
 refine seqK fun K6 hK6 => ?_
 refine region ?_
 refine s0 (buildSliceF (TK rfl) rfl (TK rfl) rfl rfl rfl rfl rfl rfl) rfl ?_
 refine s0 moveA rfl ?_
 obtain ⟨x7, gx7, hE⟩ := bindO_some hE
 refine s0 (appFM (f := (intE .i64)) (TK rfl) rfl (TK rfl) (TK rfl) ⟨_, rfl⟩ rfl rfl (by decide) rfl rfl rfl (by intro q h; cases h <;> decide) rfl rfl gx7) rfl ?_
 refine s0 assignA rfl ?_
 refine nil ?_
 refine hK6 _ ?_
 clear hK6 K6
 refine AWp.ret ?_
 repeat (first | refine xBlock_ret ?_ | refine xThen_ret ?_)
 obtain rfl := Option.some.inj hE
 refine retQ.retF H rfl ⟨rfl, rfl⟩ ?_
 exact (fun _ _ h => h)
def Z88_j3 (a0 : TRef)  (s3_4 : (Sl Int)) : Option TRef := (Z74 s3_4).bind fun x6 => some (TRef.mk a0.FName x6)
def Z88 (a0 : TRef) : Option TRef := (Z87 a0).bind fun x8 => bif x8 then ((partC a0.FWraps (some (1 : Int)) none).bind fun x10 => Z88_j3 a0  x10) else (Z88_j3 a0  a0.FWraps)
theorem Z88_walk {a0 : TRef}   {r : TRef} (hE : Z88 a0 = some r) (H : Heap)  : ACalls Tryz.prog 90 [.agg (TRef.c a0)] H fun v h' => v = .a (.agg (TRef.c r)) ∧ h' = H := by
 unfold Z88 at hE
 refine ACalls.of_wp (fn := Tryz.f90) (c := _) Tryz.tab_ok (fun _ _ => Tryz.call90 _ _) Tryz.func90 rfl (n := 15) rfl (rs := [.cell 2 27]) rfl rfl ?_
 refine seqK fun K1 hK1 => ?_
 refine region ?_
 refine s0 (boxV rfl) rfl ?_
 refine sL (allocLA (TK rfl) rfl) rfl ?_
 refine nil ?_
 refine hK1 _ ?_
 clear hK1 K1
 refine seqK fun K2 hK2 => ?_
 refine region ?_
 refine s0 (fieldVA (TK rfl) rfl rfl (TK rfl) rfl rfl) rfl ?_
 refine s0 (loadV (TK rfl) rfl rfl rfl) rfl ?_
 refine s0 assignA rfl ?_
 refine nil ?_
 refine hK2 _ ?_
 clear hK2 K2
 refine seqJH (KeepsT.A (k := 1) (KeepsT.A (k := 2) KeepsT.nil)) (fun (z : (Sl Int)) => [(3, .a (.d (Sl.d 1 (intE .i64) none z)))]) (fun z => H) (fun z => Z88_j3 a0 z = some r) ?_ ?_
 ·intro K3 hK3
  refine seqK fun K7 hK7 => ?_
  refine region ?_
  refine s0 (loadV (TK rfl) rfl rfl rfl) rfl ?_
  obtain ⟨x8, gx8, hE⟩ := bindO_some hE
  refine s0 (callP rfl rfl (fun H => Z87_walk gx8 H)) rfl ?_
  refine nil ?_
  refine hK7 _ ?_
  clear hK7 K7
  refine condE hE rfl (fun hc9 hE => ?_) (fun hc9 hE => ?_)
  ·refine region ?_
   refine s0 moveA rfl ?_
   obtain ⟨x10, gx10, hE⟩ := bindO_some hE
   refine s0 (partM (f := (intE .i64)) (l := (some (1 : Int))) (r := none) (TK rfl) rfl (TK rfl) rfl rfl rfl trivial gx10) rfl ?_
   refine s0 assignA rfl ?_
   refine nil ?_
   exact hK3 _ x10 Weak.toA hE
  refine AWp.skip ?_
  exact hK3 _ a0.FWraps Weak.toA hE
 rintro s3_4 hE
 try dsimp only at hE
 unfold Z88_j3 at hE
 refine seqK fun K5 hK5 => ?_
 refine AWp.draw rfl ?_
 refine DOps.s0 (fieldVA (TK rfl) rfl rfl (TK rfl) rfl rfl) rfl ?_
 refine DOps.s0 (loadV (TK rfl) rfl rfl rfl) rfl ?_
 refine DOps.s0 moveA rfl ?_
 obtain ⟨x6, gx6, hE⟩ := bindO_some hE
 refine DOps.s0 (callP rfl rfl (fun H => Z74_walk gx6 H)) rfl ?_
 refine DOps.s0 (build Tryz.tab_ok rfl rfl rfl rfl rfl rfl) rfl ?_
 refine DOps.sLn (storeLFA (TK rfl) rfl rfl rfl rfl rfl) ?_
 refine DOps.nil (by decide +kernel) ?_
 refine hK5 _ ?_
 clear hK5 K5
 refine AWp.ret ?_
 repeat (first | refine xBlock_ret ?_ | refine xThen_ret ?_)
 obtain rfl := Option.some.inj hE
 refine retQ.retF H rfl ⟨rfl, rfl⟩ ?_
 exact (fun _ _ h => h)
def Z86 (a0 : TRef) : Option Bool := (Z88 a0).bind fun x3 => guardO ((decide ((0 : Int) < ((x3.FWraps.l.length : Nat) : Int)))) (x3.FWraps.l[0]?) (0 : Int) fun x6 => some ((decide ((0 : Int) < ((x3.FWraps.l.length : Nat) : Int))) && (decide (x6 = (2 : Int))))
theorem Z86_walk {a0 : TRef}   {r : Bool} (hE : Z86 a0 = some r) (H : Heap)  : ACalls Tryz.prog 89 [.agg (TRef.c a0)] H fun v h' => v = .a (.d (.bool r)) ∧ h' = H := by
 unfold Z86 at hE
 refine ACalls.of_wp (fn := Tryz.f89) (c := _) Tryz.tab_ok (fun _ _ => Tryz.call89 _ _) Tryz.func89 rfl (n := 16) rfl (rs := [.tmp 2]) rfl rfl ?_
 refine seqK fun K1 hK1 => ?_
 refine region ?_
 refine sL (boxL rfl (by repeat (first | exact Snoc.nil | apply Snoc.cons))) rfl ?_
 refine s0 assignA rfl ?_
 refine nil ?_
 refine hK1 _ ?_
 clear hK1 K1
 refine seqK fun K2 hK2 => ?_
 refine region ?_
 refine s0 (loadL (TK rfl) rfl rfl rfl rfl) rfl ?_
 obtain ⟨x3, gx3, hE⟩ := bindO_some hE
 refine s0 (callP rfl rfl (fun H => Z88_walk gx3 H)) rfl ?_
 refine sLn (storeLFA (TK rfl) rfl rfl rfl rfl rfl) ?_
 refine nil ?_
 refine hK2 _ ?_
 clear hK2 K2
 refine seqK fun K4 hK4 => ?_
 refine region ?_
 refine s0 (fieldL (TK rfl) rfl rfl (TK rfl) rfl rfl) rfl ?_
 refine s0 (loadL (TK rfl) rfl rfl rfl rfl) rfl ?_
 refine sLen (f := (intE .i64)) (s := x3.FWraps) (TK rfl) rfl rfl rfl rfl fun hL5 => ?_
 refine s0 (binI rfl rfl rfl) rfl ?_
 refine s0 moveA rfl ?_
 refine gC rfl rfl (fun hC => fieldL (TK rfl) rfl rfl (TK rfl) rfl rfl) rfl ?_
 refine gC rfl rfl (fun hC => ungdLA (k := 10) rfl (loadL (TK rfl) rfl rfl rfl rfl)) rfl ?_
 obtain ⟨x6, gx6, hE⟩ := guardO_some hE
 refine gC rfl rfl (fun hC => ungdA (k := 11) rfl (idxMn (f := (intE .i64)) (n := 0) (TK rfl) rfl (TK rfl) rfl rfl rfl (gx6 hC))) rfl ?_
 refine gC rfl rfl (fun hC => ungdA (k := 12) rfl (loadV (TK rfl) rfl rfl rfl)) rfl ?_
 refine gC rfl rfl (fun hC => ungdA (k := 13) rfl (binI rfl rfl rfl)) rfl ?_
 refine s0 (pickAndA rfl rfl rfl) rfl ?_
 refine s0 assignA rfl ?_
 refine nil ?_
 refine hK4 _ ?_
 clear hK4 K4
 refine AWp.ret ?_
 repeat (first | refine xBlock_ret ?_ | refine xThen_ret ?_)
 obtain rfl := Option.some.inj hE
 refine retQ.retF H rfl ⟨rfl, rfl⟩ ?_
 exact (fun _ _ h => h)
def Z85 (a0 : TRef) : Option (TRef × Bool) := (Z86 a0).bind fun x4 => bif (!x4) then (some ((TRef.mk ([] : Bs) (Sl.nil : Sl Int)), false)) else ((Z88 a0).bind fun x8 => (partC x8.FWraps (some (1 : Int)) none).bind fun x10 => some ((TRef.mk x8.FName x10), true))
theorem Z85_walk {a0 : TRef}   {r : (TRef × Bool)} (hE : Z85 a0 = some r) (H : Heap)  : ACalls Tryz.prog 63 [.agg (TRef.c a0)] H fun v h' => v = .tup [.agg (TRef.c r.1), .d (.bool r.2)] ∧ h' = H := by
 unfold Z85 at hE
 refine ACalls.of_wp (fn := Tryz.f63) (c := _) Tryz.tab_ok (fun _ _ => Tryz.call63 _ _) Tryz.func63 rfl (n := 15) rfl (rs := [.cell 2 27, .tmp 3]) rfl rfl ?_
 refine seqK fun K1 hK1 => ?_
 refine region ?_
 refine sL (boxL rfl (by repeat (first | exact Snoc.nil | apply Snoc.cons))) rfl ?_
 refine sL (allocLA (TK rfl) rfl) rfl ?_
 refine s0 assignA rfl ?_
 refine nil ?_
 refine hK1 _ ?_
 clear hK1 K1
 refine seqK fun K2 hK2 => ?_
 refine seqK fun K3 hK3 => ?_
 refine region ?_
 refine s0 (loadL (TK rfl) rfl rfl rfl rfl) rfl ?_
 obtain ⟨x4, gx4, hE⟩ := bindO_some hE
 refine s0 (callP rfl rfl (fun H => Z86_walk gx4 H)) rfl ?_
 refine s0 (notB rfl) rfl ?_
 refine nil ?_
 refine hK3 _ ?_
 clear hK3 K3
 refine condE hE rfl (fun hc5 hE => ?_) (fun hc5 hE => ?_)
 ·refine seqK fun K6 hK6 => ?_
  refine region ?_
  refine s0 (build Tryz.tab_ok rfl rfl rfl rfl rfl rfl) rfl ?_
  refine sLn (storeLFA (TK rfl) rfl rfl rfl rfl rfl) ?_
  refine s0 assignA rfl ?_
  refine nil ?_
  refine hK6 _ ?_
  clear hK6 K6
  refine AWp.ret ?_
  repeat (first | refine xBlock_ret ?_ | refine xThen_ret ?_)
  obtain rfl := Option.some.inj hE
  refine retQ.retF H rfl ⟨rfl, rfl⟩ ?_
  exact (fun _ _ h => h)
 refine AWp.skip ?_
 refine hK2 _ ?_
 clear hK2 K2
 refine seqK fun K7 hK7 => ?_
 refine region ?_
 refine s0 (loadL (TK rfl) rfl rfl rfl rfl) rfl ?_
 obtain ⟨x8, gx8, hE⟩ := bindO_some hE
 refine s0 (callP rfl rfl (fun H => Z88_walk gx8 H)) rfl ?_
 refine sLn (storeLFA (TK rfl) rfl rfl rfl rfl rfl) ?_
 refine nil ?_
 refine hK7 _ ?_
 clear hK7 K7
 refine seqK fun K9 hK9 => ?_
 refine region ?_
 refine s0 (fieldL (TK rfl) rfl rfl (TK rfl) rfl rfl) rfl ?_
 refine s0 (loadL (TK rfl) rfl rfl rfl rfl) rfl ?_
 obtain ⟨x10, gx10, hE⟩ := bindO_some hE
 refine s0 (partM (f := (intE .i64)) (l := (some (1 : Int))) (r := none) (TK rfl) rfl (TK rfl) rfl rfl rfl trivial gx10) rfl ?_
 refine s0 (fieldL (TK rfl) rfl rfl (TK rfl) rfl rfl) rfl ?_
 refine sLn (storeL1 (TK rfl) rfl rfl rfl rfl (by repeat (first | exact SetAt.zero | apply SetAt.succ)) (by repeat (first | exact SetAt.zero | apply SetAt.succ))) ?_
 refine nil ?_
 refine hK9 _ ?_
 clear hK9 K9
 refine seqK fun K11 hK11 => ?_
 refine region ?_
 refine s0 (loadL (TK rfl) rfl rfl rfl rfl) rfl ?_
 refine sLn (storeLFA (TK rfl) rfl rfl rfl rfl rfl) ?_
 refine s0 assignA rfl ?_
 refine nil ?_
 refine hK11 _ ?_
 clear hK11 K11
 refine AWp.ret ?_
 repeat (first | refine xBlock_ret ?_ | refine xThen_ret ?_)
 obtain rfl := Option.some.inj hE
 refine retQ.retF H rfl ⟨rfl, rfl⟩ ?_
 exact (fun _ _ h => h)
def Z69_j2  (y3_l0 : TInput) : Option (TInput × Bool) := some ((TInput.mk ([] : Bs) TRef.zero false TValue.zero (Sl.nil : Sl TDir)), false)
def Z69_l7 (a0 : (Sl TInput)) (a1 : Bs)  : Nat → Nat → TInput → Option (TInput × Bool)
 | 0, _, _ => none
 | n7 + 1, s10_8, y9_l0 => bif (decide (((s10_8 : Nat) : Int) < ((a0.l.length : Nat) : Int))) then ((a0.l[s10_8]?).bind fun x15 => bif ((x15.FName == a1)) then (some (x15, true)) else ((Z69_l7 a0 a1 n7) (s10_8 + 1) y9_l0)) else (Z69_j2   y9_l0)
def Z69 (a0 : (Sl TInput)) (a1 : Bs) : Option (TInput × Bool) := Z69_l7 a0 a1 (a0.l.length + 1) 0 TInput.zero
theorem Z69_walk {a0 : (Sl TInput)} {a1 : Bs} {w0 : Option Nat}  {r : (TInput × Bool)} (hE : Z69 a0 a1 = some r) (H : Heap)  : ACalls Tryz.prog 39 [.d (Sl.d 10 TInput.c w0 a0), .d (.str a1)] H fun v h' => v = .tup [.agg (TInput.c r.1), .d (.bool r.2)] ∧ h' = H := by
 unfold Z69 at hE
 refine ACalls.of_wp (fn := Tryz.f39) (c := _) Tryz.tab_ok (fun _ _ => Tryz.call39 _ _) Tryz.func39 rfl (n := 21) rfl (rs := [.cell 4 55, .tmp 5]) rfl rfl ?_
 refine seqK fun K1 hK1 => ?_
 refine region ?_
 refine sL (allocLA (TK rfl) rfl) rfl ?_
 refine s0 assignA rfl ?_
 refine nil ?_
 refine hK1 _ ?_
 clear hK1 K1
 refine seqJ (KeepsT.A (k := 4) KeepsT.nil) (fun (z : TInput) => []) (fun z => [TInput.c z]) (fun z => H) (fun z => Z69_j2 z = some r) ?_ ?_
 ·intro K2 hK2
  refine seqK fun K5 hK5 => ?_
  refine region ?_
  refine s0 moveA rfl ?_
  refine sLen (f := TInput.c) (s := a0) (TK rfl) rfl rfl rfl rfl fun hL6 => ?_
  refine s0 moveA rfl ?_
  refine nil ?_
  refine hK5 _ ?_
  clear hK5 K5
  refine block ?_
  refine loopO (KeepsT.A (k := 1) (KeepsT.A (k := 4) (KeepsT.A (k := 8) (KeepsT.A (k := 9) KeepsT.nil)))) (fun (z : Nat × Nat × TInput) => [(10, .a (.d (.int .i64 ((z.2.1 : Nat) : Int))))]) (fun z => [TInput.c z.2.2]) (fun z => H) (fun z => z.1) (fun z => Z69_l7 a0 a1 z.1 z.2.1 z.2.2 = some r) ((a0.l.length + 1), 0, TInput.zero) hE Weak.toA ?_
  rintro ⟨n7, s10_8, y9_l0⟩ hE K7 hK7
  try dsimp only at hE
  cases n7 with
  | zero => cases hE
  | succ n7 =>
    rw [Z69_l7] at hE
    refine seqK fun K10 hK10 => ?_
    refine region ?_
    refine s0 (binI rfl rfl rfl) rfl ?_
    refine nil ?_
    refine hK10 _ ?_
    clear hK10 K10
    refine seqK fun K11 hK11 => ?_
    refine condE hE rfl (fun hc12 hE => ?_) (fun hc12 hE => ?_)
    ·try dsimp only at hc12
     have hf12 := of_decide_eq_true hc12
     refine AWp.skip ?_
     refine hK11 _ ?_
     clear hK11 K11
     refine seqK fun K13 hK13 => ?_
     refine block ?_
     refine seqK fun K14 hK14 => ?_
     refine region ?_
     obtain ⟨x15, gx15, hE⟩ := bindO_some hE
     refine s0 (idxMn (f := TInput.c) (n := s10_8) (TK rfl) rfl (TK rfl) rfl rfl rfl gx15) rfl ?_
     refine s0 (loadV (TK rfl) rfl rfl rfl) rfl ?_
     refine sL (allocLA (TK rfl) rfl) rfl ?_
     refine sLn (storeLFA (TK rfl) rfl rfl rfl rfl rfl) ?_
     refine nil ?_
     refine hK14 _ ?_
     clear hK14 K14
     refine freezeA 7 _ rfl (Keeps.c (k := 1) (by conv => lhs; whnf) (by rfl) (Keeps.c (k := 4) (by conv => lhs; whnf) (by rfl) (Keeps.c (k := 8) (by conv => lhs; whnf) (by rfl) (Keeps.c (k := 9) (by conv => lhs; whnf) (by rfl) (Keeps.c (k := 10) (by conv => lhs; whnf) (by rfl) Keeps.nil))))) ?_
     refine seqK fun K16 hK16 => ?_
     refine region ?_
     refine s0 (fieldVA (TK rfl) rfl rfl (TK rfl) rfl rfl) rfl ?_
     refine s0 (loadV (TK rfl) rfl rfl rfl) rfl ?_
     refine s0 moveA rfl ?_
     refine s0 (binS rfl rfl rfl) rfl ?_
     refine nil ?_
     refine hK16 _ ?_
     clear hK16 K16
     refine condE hE rfl (fun hc17 hE => ?_) (fun hc17 hE => ?_)
     ·refine seqK fun K18 hK18 => ?_
      refine region ?_
      refine s0 (loadV (TK rfl) rfl rfl rfl) rfl ?_
      refine sLn (storeLFA (TK rfl) rfl rfl rfl rfl rfl) ?_
      refine s0 assignA rfl ?_
      refine nil ?_
      refine hK18 _ ?_
      clear hK18 K18
      refine AWp.ret ?_
      repeat (first | refine xBlock_ret ?_ | refine xThen_ret ?_)
      obtain rfl := Option.some.inj hE
      refine retQ.retF H rfl ⟨rfl, rfl⟩ ?_
      exact (fun _ _ h => h)
     refine AWp.skip ?_
     refine hK13 _ ?_
     clear hK13 K13
     refine region ?_
     refine s0 (addIA rfl rfl) rfl ?_
     refine s0 moveA rfl ?_
     refine nil ?_
     exact hK7 _ (n7, (s10_8 + 1), y9_l0) Weak.toA hE (Nat.lt_succ_self _)
    refine AWp.exit ?_
    exact hK2 _ y9_l0 Weak.toA hE
 rintro y3_l0 hE
 try dsimp only at hE
 unfold Z69_j2 at hE
 refine seqK fun K4 hK4 => ?_
 refine region ?_
 refine s0 (build Tryz.tab_ok rfl rfl rfl rfl rfl rfl) rfl ?_
 refine sLn (storeLFA (TK rfl) rfl rfl rfl rfl rfl) ?_
 refine s0 assignA rfl ?_
 refine nil ?_
 refine hK4 _ ?_
 clear hK4 K4
 refine AWp.ret ?_
 repeat (first | refine xBlock_ret ?_ | refine xThen_ret ?_)
 obtain rfl := Option.some.inj hE
 refine retQ.retF H rfl ⟨rfl, rfl⟩ ?_
 exact (fun _ _ h => h)
def Z14 (a0 : TValue) (a1 : Bool) (a2 : Coerce_coercer) : Option Coerce_coercer := some (Coerce_coercer.mk a2.Fd a0 a1 a2.Fnodes)
theorem Z14_walk {a0 : TValue} {a1 : Bool} {a2 : Coerce_coercer}  {c2 : Nat} {r : Coerce_coercer} (hE : Z14 a0 a1 a2 = some r) (H : Heap) (hc2 : H c2 = some (.cells (Coerce_coercer.c a2))) : ACallsD Tryz.prog 113 [.d (.view (TValue.c a0)), .d (.view (boolE a1)), .d (.view [.ptr c2 0])] H fun v h' => v = .tup [] ∧ h' = (H.set c2 (some (.cells (Coerce_coercer.c r)))) := by
 unfold Z14 at hE
 refine ACallsD.of_wp (fn := Tryz.f113) (c := _) Tryz.tab_ok (fun _ _ => Tryz.call113 _ _) Tryz.func113 rfl (n := 11) rfl (rs := []) rfl rfl ?_
 refine AWp.heqA (h' := (H.set c2 (some (.cells (Coerce_coercer.c a2))))) (by funext n_; simp only [Heap.set]; (repeat' split) <;> simp_all) ?_
 refine region ?_
 refine s0 (loadV (TK rfl) rfl rfl rfl) rfl ?_
 refine s0 (loadV (TK rfl) rfl rfl rfl) rfl ?_
 refine s0 (loadV (TK rfl) rfl rfl rfl) rfl ?_
 refine s0 (loadV (TK rfl) rfl rfl rfl) rfl ?_
 refine s0 (nilP rfl) rfl ?_
 refine s0 (fieldP (TK rfl) rfl rfl (TK rfl) rfl rfl) rfl ?_
 refine sHn (storeP' (TK rfl) rfl rfl hpG rfl (Nat.le_of_ble_eq_true rfl) rfl rfl) rfl rfl ?_
 refine AOps.heq (h' := (H.set c2 (some (.cells (Coerce_coercer.c (Coerce_coercer.mk a2.Fd a0 a2.Fliteral a2.Fnodes)))))) (by first | rfl | (rw [Heap.set_set]; rfl) | (funext n_; simp only [Heap.set]; (repeat' split) <;> first | rfl | (exfalso; simp_all; done) | (simp_all; done))) ?_
 refine s0 (nilP rfl) rfl ?_
 refine s0 (fieldP (TK rfl) rfl rfl (TK rfl) rfl rfl) rfl ?_
 refine sHn (storeP1 (TK rfl) rfl rfl hpG rfl (by repeat (first | exact SetAt.zero | apply SetAt.succ))) rfl rfl ?_
 refine AOps.heq (h' := (H.set c2 (some (.cells (Coerce_coercer.c (Coerce_coercer.mk a2.Fd a0 a1 a2.Fnodes)))))) (by first | rfl | (rw [Heap.set_set]; rfl) | (funext n_; simp only [Heap.set]; (repeat' split) <;> first | rfl | (exfalso; simp_all; done) | (simp_all; done))) ?_
 refine nil ?_
 repeat (first | refine xBlock_normal ?_ | refine xThen_exit ?_ | refine xBlock_exit ?_)
 obtain rfl := Option.some.inj hE
 refine retQ.normalF (H.set c2 (some (.cells (Coerce_coercer.c (Coerce_coercer.mk a2.Fd a0 a1 a2.Fnodes))))) (xs := []) rfl ⟨rfl, rfl⟩ ?_
 exact (fun _ _ h => h)
def Tryz.lay108_ren : Go.Shelf.Ren := ⟨fun | 171 => 108 | 243 => 120 | 246 => 124 | 283 => 125 | 284 => 126 | 285 => 127 | 286 => 128 | 129 => 130 | 317 => 129 | 318 => 131 | 319 => 132 | 320 => 133 | 337 => 134 | 338 => 135 | n => n, fun | 3 => 3 | 9 => 9 | 2 => 2 | 4 => 4 | 171 => 160 | 0 => 0 | 53 => 161 | 37 => 129 | 5 => 5 | 173 => 164 | 212 => 168 | 51 => 169 | 20 => 20 | 213 => 170 | 46 => 152 | 232 => 174 | 233 => 175 | n => n, fun | 17 => 1 | 18 => 2 | 19 => 3 | n => n⟩
theorem Tryz.lay108 : Go.Proofs.LaysM.n171 Tryz.prog Tryz.lay108_ren := {
 mixed := by kernel_rfl
 f129 := Tryz.func130.trans (congrArg some (by kernel_rfl))
 f171 := Tryz.func108.trans (congrArg some (by kernel_rfl))
 f243 := Tryz.func120.trans (congrArg some (by kernel_rfl))
 f246 := Tryz.func124.trans (congrArg some (by kernel_rfl))
 f283 := Tryz.func125.trans (congrArg some (by kernel_rfl))
 f284 := Tryz.func126.trans (congrArg some (by kernel_rfl))
 f285 := Tryz.func127.trans (congrArg some (by kernel_rfl))
 f286 := Tryz.func128.trans (congrArg some (by kernel_rfl))
 f317 := Tryz.func129.trans (congrArg some (by kernel_rfl))
 f318 := Tryz.func131.trans (congrArg some (by kernel_rfl))
 f319 := Tryz.func132.trans (congrArg some (by kernel_rfl))
 f320 := Tryz.func133.trans (congrArg some (by kernel_rfl))
 f337 := Tryz.func134.trans (congrArg some (by kernel_rfl))
 f338 := Tryz.func135.trans (congrArg some (by kernel_rfl))
 t0 := Tryz.underlying0
 a0 := Tryz.isAgg0
 z0 := Tryz.sizeOf0
 v0 := Tryz.zeroValue0
 t2 := Tryz.underlying2
 a2 := Tryz.isAgg2
 z2 := Tryz.sizeOf2
 v2 := Tryz.zeroValue2
 t3 := Tryz.underlying3
 a3 := Tryz.isAgg3
 z3 := Tryz.sizeOf3
 v3 := Tryz.zeroValue3
 t4 := Tryz.underlying4
 a4 := Tryz.isAgg4
 z4 := Tryz.sizeOf4
 v4 := Tryz.zeroValue4
 t5 := Tryz.underlying5
 a5 := Tryz.isAgg5
 z5 := Tryz.sizeOf5
 v5 := Tryz.zeroValue5
 t9 := Tryz.underlying9
 a9 := Tryz.isAgg9
 z9 := Tryz.sizeOf9
 v9 := Tryz.zeroValue9
 t20 := Tryz.underlying20
 a20 := Tryz.isAgg20
 z20 := Tryz.sizeOf20
 v20 := Tryz.zeroValue20
 t37 := Tryz.underlying129
 a37 := Tryz.isAgg129
 z37 := Tryz.sizeOf129
 v37 := Tryz.zeroValue129
 t46 := Tryz.underlying152
 a46 := Tryz.isAgg152
 z46 := Tryz.sizeOf152
 v46 := Tryz.zeroValue152
 t51 := Tryz.underlying169
 a51 := Tryz.isAgg169
 z51 := Tryz.sizeOf169
 v51 := Tryz.zeroValue169
 t53 := Tryz.underlying161
 a53 := Tryz.isAgg161
 z53 := Tryz.sizeOf161
 v53 := Tryz.zeroValue161
 t171 := Tryz.underlying160
 a171 := Tryz.isAgg160
 z171 := Tryz.sizeOf160
 v171 := Tryz.zeroValue160
 t173 := Tryz.underlying164
 a173 := Tryz.isAgg164
 z173 := Tryz.sizeOf164
 v173 := Tryz.zeroValue164
 t212 := Tryz.underlying168
 a212 := Tryz.isAgg168
 z212 := Tryz.sizeOf168
 v212 := Tryz.zeroValue168
 t213 := Tryz.underlying170
 a213 := Tryz.isAgg170
 z213 := Tryz.sizeOf170
 t232 := Tryz.underlying174
 a232 := Tryz.isAgg174
 z232 := Tryz.sizeOf174
 v232 := Tryz.zeroValue174
 t233 := Tryz.underlying175
 a233 := Tryz.isAgg175
 z233 := Tryz.sizeOf175
 v233 := Tryz.zeroValue175
 g17 := by kernel_rfl
 g18 := by kernel_rfl
 g19 := by kernel_rfl
 i0 := by kernel_rfl
 i2 := by kernel_rfl
 i3 := by kernel_rfl
 i4 := by kernel_rfl
 i5 := by kernel_rfl
 i9 := by kernel_rfl
 i20 := by kernel_rfl
 i37 := by kernel_rfl
 i46 := by kernel_rfl
 i51 := by kernel_rfl
 i53 := by kernel_rfl
 i171 := by kernel_rfl
 i173 := by kernel_rfl
 i212 := by kernel_rfl
 i232 := by kernel_rfl
 i233 := by kernel_rfl
 m17 := by kernel_rfl
 m18 := by kernel_rfl
 m19 := by kernel_rfl }
def Z81 (n : Int) : Option Bs := if -9223372036854775808 ≤ n ∧ n ≤ 9223372036854775807 ∧ (Lib.itoa n).length ≤ maxS then some (Lib.itoa n) else none
def Z81_q (n : Int) : Option Bs := Z81 n
theorem Z81_eq (n : Int) : Z81 n = Z81_q n := rfl
theorem Z81_walk {a0 : Int} {oT : Ab.Obj} {gT : Nat} {r : Bs} (hE : Z81 a0 = some r) (H : Heap) (hgT : H gT = some oT) (hoT : IsTab Tryz.prog oT) : ACalls Tryz.prog 108 [.d (.int .i64 a0)] H fun v h' => v = .a (.d (.str r)) ∧ h' = H := by
 unfold Z81 at hE
 split at hE
 ·rename_i h
  obtain rfl := Option.some.inj hE
  exact itoa_calls Tryz.lay108 h.1 h.2.1 rfl hgT hoT h.2.2
 cases hE
def Z83 (a0 : Int) : Option Bs := (Z81 a0).bind fun x3 => some x3
theorem Z83_walk {a0 : Int} {oT : Ab.Obj} {gT : Nat} {r : Bs} (hE : Z83 a0 = some r) (H : Heap) (hgT : H gT = some oT) (hoT : IsTab Tryz.prog oT) : ACalls Tryz.prog 82 [.d (.int .i64 a0)] H fun v h' => v = .a (.d (.str r)) ∧ h' = H := by
 unfold Z83 at hE
 refine ACalls.of_wp (fn := Tryz.f82) (c := _) Tryz.tab_ok (fun _ _ => Tryz.call82 _ _) Tryz.func82 rfl (n := 5) rfl (rs := [.tmp 2]) rfl rfl ?_
 refine seqK fun K1 hK1 => ?_
 refine region ?_
 refine s0 assignA rfl ?_
 refine nil ?_
 refine hK1 _ ?_
 clear hK1 K1
 refine seqK fun K2 hK2 => ?_
 refine region ?_
 refine s0 moveA rfl ?_
 obtain ⟨x3, gx3, hE⟩ := bindO_some hE
 refine s0 (callR rfl rfl (Z81_walk (gT := gT) (oT := oT) gx3 _ hpG (by assumption))) rfl ?_
 refine s0 assignA rfl ?_
 refine nil ?_
 refine hK2 _ ?_
 clear hK2 K2
 refine AWp.ret ?_
 repeat (first | refine xBlock_ret ?_ | refine xThen_ret ?_)
 obtain rfl := Option.some.inj hE
 refine retQ.retF H rfl ⟨rfl, rfl⟩ ?_
 exact (fun _ _ h => h)
def Z90 (a0 : Bs) : Option TValue := some (TValue.mk (3 : Int) (0 : Int) a0 true ([]) (Sl.nil : Sl Bs))
theorem Z90_walk {a0 : Bs}   {r : TValue} (hE : Z90 a0 = some r) (H : Heap)  : ACalls Tryz.prog 92 [.d (.str a0)] H fun v h' => v = .a (.agg (TValue.c r)) ∧ h' = H := by
 unfold Z90 at hE
 refine ACalls.of_wp (fn := Tryz.f92) (c := _) Tryz.tab_ok (fun _ _ => Tryz.call92 _ _) Tryz.func92 rfl (n := 5) rfl (rs := [.cell 2 31]) rfl rfl ?_
 refine seqK fun K1 hK1 => ?_
 refine region ?_
 refine sL (allocLA (TK rfl) rfl) rfl ?_
 refine nil ?_
 refine hK1 _ ?_
 clear hK1 K1
 refine seqK fun K2 hK2 => ?_
 refine region ?_
 refine s0 moveA rfl ?_
 refine s0 (build Tryz.tab_ok rfl rfl rfl rfl rfl rfl) rfl ?_
 refine sLn (storeLFA (TK rfl) rfl rfl rfl rfl rfl) ?_
 refine nil ?_
 refine hK2 _ ?_
 clear hK2 K2
 refine AWp.ret ?_
 repeat (first | refine xBlock_ret ?_ | refine xThen_ret ?_)
 obtain rfl := Option.some.inj hE
 refine retQ.retF H rfl ⟨rfl, rfl⟩ ?_
 exact (fun _ _ h => h)
def Z79_j2   : Option Int := some (-1 : Int)
def Z79_l6 (a0 : (Sl TMember)) (a1 : (TMember → Option Bool))  : Nat → Nat → Option Int
 | 0, _ => none
 | n6 + 1, s8_7 => bif (decide (((s8_7 : Nat) : Int) < ((a0.l.length : Nat) : Int))) then ((a0.l[s8_7]?).bind fun x14 => (a1 x14).bind fun x15 => bif x15 then (some ((s8_7 : Nat) : Int)) else ((Z79_l6 a0 a1 n6) (s8_7 + 1))) else (Z79_j2   )
def Z79 (a0 : (Sl TMember)) (a1 : (TMember → Option Bool)) : Option Int := Z79_l6 a0 a1 (a0.l.length + 1) 0
theorem Z79_walk {a0 : (Sl TMember)} {a1 : (TMember → Option Bool)} {w0 : Option Nat} {cl1 : List D} {k1 : Nat} {r : Int} (hE : Z79 a0 a1 = some r) (H : Heap) (hf1 : ∀ x0 r, a1 x0 = some r → ∀ H, ACalls Tryz.prog k1 ([.agg (TMember.c x0)] ++ cl1.map A.d) H fun v h' => v = .a (.d (.bool r)) ∧ h' = H) : ACalls Tryz.prog 114 [.d (Sl.d 2 TMember.c w0 a0), .d (.func k1 cl1)] H fun v h' => v = .a (.d (.int .i64 r)) ∧ h' = H := by
 unfold Z79 at hE
 refine ACalls.of_wp (fn := Tryz.f114) (c := _) Tryz.tab_ok (fun _ _ => Tryz.call114 _ _) Tryz.func114 rfl (n := 19) rfl (rs := [.tmp 4]) rfl rfl ?_
 refine seqK fun K1 hK1 => ?_
 refine region ?_
 refine s0 assignA rfl ?_
 refine nil ?_
 refine hK1 _ ?_
 clear hK1 K1
 refine seqJH KeepsT.nil (fun (z : Unit) => []) (fun z => H) (fun z => Z79_j2  = some r) ?_ ?_
 ·intro K2 hK2
  refine seqK fun K4 hK4 => ?_
  refine region ?_
  refine s0 moveA rfl ?_
  refine sLen (f := TMember.c) (s := a0) (TK rfl) rfl rfl rfl rfl fun hL5 => ?_
  refine s0 moveA rfl ?_
  refine nil ?_
  refine hK4 _ ?_
  clear hK4 K4
  refine block ?_
  refine loopH (KeepsT.A (k := 0) (KeepsT.A (k := 1) (KeepsT.A (k := 7) KeepsT.nil))) (fun (z : Nat × Nat) => [(8, .a (.d (.int .i64 ((z.2 : Nat) : Int))))]) (fun z => H) (fun z => z.1) (fun z => Z79_l6 a0 a1 z.1 z.2 = some r) ((a0.l.length + 1), 0) hE Weak.toA ?_
  rintro ⟨n6, s8_7⟩ hE K6 hK6
  try dsimp only at hE
  cases n6 with
  | zero => cases hE
  | succ n6 =>
    rw [Z79_l6] at hE
    refine seqK fun K8 hK8 => ?_
    refine region ?_
    refine s0 (binI rfl rfl rfl) rfl ?_
    refine nil ?_
    refine hK8 _ ?_
    clear hK8 K8
    refine seqK fun K9 hK9 => ?_
    refine condE hE rfl (fun hc10 hE => ?_) (fun hc10 hE => ?_)
    ·try dsimp only at hc10
     have hf10 := of_decide_eq_true hc10
     refine AWp.skip ?_
     refine hK9 _ ?_
     clear hK9 K9
     refine seqK fun K11 hK11 => ?_
     refine block ?_
     refine seqK fun K12 hK12 => ?_
     refine region ?_
     refine s0 moveA rfl ?_
     refine s0 assignA rfl ?_
     refine nil ?_
     refine hK12 _ ?_
     clear hK12 K12
     refine seqK fun K13 hK13 => ?_
     refine region ?_
     refine s0 moveA rfl ?_
     refine s0 moveA rfl ?_
     refine s0 moveA rfl ?_
     obtain ⟨x14, gx14, hE⟩ := bindO_some hE
     refine s0 (idxMn (f := TMember.c) (n := s8_7) (TK rfl) rfl (TK rfl) rfl rfl rfl gx14) rfl ?_
     refine s0 (loadV (TK rfl) rfl rfl rfl) rfl ?_
     obtain ⟨x15, gx15, hE⟩ := bindO_some hE
     refine s0 (callP rfl rfl (hf1 _ _ gx15)) rfl ?_
     refine nil ?_
     refine hK13 _ ?_
     clear hK13 K13
     refine condE hE rfl (fun hc16 hE => ?_) (fun hc16 hE => ?_)
     ·refine seqK fun K17 hK17 => ?_
      refine region ?_
      refine s0 moveA rfl ?_
      refine s0 assignA rfl ?_
      refine nil ?_
      refine hK17 _ ?_
      clear hK17 K17
      refine AWp.ret ?_
      repeat (first | refine xBlock_ret ?_ | refine xThen_ret ?_)
      obtain rfl := Option.some.inj hE
      refine retQ.retF H rfl ⟨rfl, rfl⟩ ?_
      exact (fun _ _ h => h)
     refine AWp.skip ?_
     refine hK11 _ ?_
     clear hK11 K11
     refine region ?_
     refine s0 (addIA rfl rfl) rfl ?_
     refine s0 moveA rfl ?_
     refine nil ?_
     exact hK6 _ (n6, (s8_7 + 1)) Weak.toA hE (Nat.lt_succ_self _)
    refine AWp.exit ?_
    exact hK2 _ () Weak.toA hE
 rintro _ hE
 try dsimp only at hE
 unfold Z79_j2 at hE
 refine seqK fun K3 hK3 => ?_
 refine region ?_
 refine s0 assignA rfl ?_
 refine nil ?_
 refine hK3 _ ?_
 clear hK3 K3
 refine AWp.ret ?_
 repeat (first | refine xBlock_ret ?_ | refine xThen_ret ?_)
 obtain rfl := Option.some.inj hE
 refine retQ.retF H rfl ⟨rfl, rfl⟩ ?_
 exact (fun _ _ h => h)
end Go.Proofs
