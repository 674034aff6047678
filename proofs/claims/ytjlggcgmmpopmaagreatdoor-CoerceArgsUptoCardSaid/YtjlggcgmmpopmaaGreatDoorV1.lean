import Derived.Test.YtjlggcgmmpopmaaGreatDoorE3
import Derived.Test.YtjlggcgmmpopmaaGreatDoorTab
set_option maxRecDepth 100000
set_option maxHeartbeats 2000000
set_option linter.unusedVariables false
set_option linter.unusedSimpArgs false
namespace Go.Proofs
open Go Go.Ab
inductive TValue where
 | mk (FKind : Int) (FInt : Int) (FText : Bs) (FItems_nl : Bool) (FItems_l : List TValue) (FKeys : (Sl Bs))
def TValue.FKind : TValue → Int | .mk x _ _ _ _ _ => x
def TValue.FInt : TValue → Int | .mk _ x _ _ _ _ => x
def TValue.FText : TValue → Bs | .mk _ _ x _ _ _ => x
def TValue.FItems : TValue → (Sl TValue) | .mk _ _ _ nl l _ => ⟨nl, l⟩
def TValue.FKeys : TValue → (Sl Bs) | .mk _ _ _ _ _ x => x
noncomputable def TValue.FItemsD : TValue → D := @TValue.rec (fun _ => D) (fun _ => List (List D)) (fun _ _ _ nl _ _ ih => .slice 5 none nl ih) [] (fun v _ ih ihl => ((intE .i64) v.FKind ++ (intE .i64) v.FInt ++ strE v.FText ++ [ih] ++ (fun s => [Sl.d 1 strE none s]) v.FKeys) :: ihl)
noncomputable def TValue.c (v : TValue) : List D := (intE .i64) v.FKind ++ (intE .i64) v.FInt ++ strE v.FText ++ [v.FItemsD] ++ (fun s => [Sl.d 1 strE none s]) v.FKeys
theorem TValue.FItemsD_eq (v : TValue) : v.FItemsD = Sl.d 5 TValue.c none v.FItems := by
 cases v with
 | mk y_Kind y_Int y_Text nl l y_Keys =>
  show D.slice 5 none nl _ = D.slice 5 none nl (l.map TValue.c)
  congr 1
  induction l with
  | nil => rfl
  | cons a r ih => exact congrArg (TValue.c a :: ·) ih
noncomputable def TValue.cu (v : TValue) : List D := (intE .i64) v.FKind ++ (intE .i64) v.FInt ++ strE v.FText ++ [Sl.d 5 TValue.c none v.FItems] ++ (fun s => [Sl.d 1 strE none s]) v.FKeys
theorem TValue.cu_eq (v : TValue) : v.c = v.cu := by unfold TValue.c TValue.cu; rw [TValue.FItemsD_eq]
def TValue.zero : TValue := .mk (0 : Int) (0 : Int) ([] : Bs) true [] (Sl.nil : Sl Bs)
structure TArg where
 FName : Bs
 FValue : TValue
noncomputable def TArg.c (x : TArg) : List D := strE x.FName ++ TValue.c x.FValue
def TArg.zero : TArg := ⟨([] : Bs), TValue.zero⟩
structure TDir where
 FName : Bs
 FArgs : (Sl TArg)
noncomputable def TDir.c (x : TDir) : List D := [.str x.FName, Sl.d 6 TArg.c none x.FArgs]
def TDir.zero : TDir := ⟨([] : Bs), (Sl.nil : Sl TArg)⟩
structure TRef where
 FName : Bs
 FWraps : (Sl Int)
noncomputable def TRef.c (x : TRef) : List D := [.str x.FName, Sl.d 1 (intE .i64) none x.FWraps]
def TRef.zero : TRef := ⟨([] : Bs), (Sl.nil : Sl Int)⟩
structure TInput where
 FName : Bs
 FType : TRef
 FHas : Bool
 FDefault : TValue
 FDirs : (Sl TDir)
noncomputable def TInput.c (x : TInput) : List D := strE x.FName ++ TRef.c x.FType ++ boolE x.FHas ++ TValue.c x.FDefault ++ (fun s => [Sl.d 2 TDir.c none s]) x.FDirs
def TInput.zero : TInput := ⟨([] : Bs), TRef.zero, false, TValue.zero, (Sl.nil : Sl TDir)⟩
structure TField where
 FName : Bs
 FArgs : (Sl TInput)
 FType : TRef
 FDirs : (Sl TDir)
noncomputable def TField.c (x : TField) : List D := strE x.FName ++ (fun s => [Sl.d 10 TInput.c none s]) x.FArgs ++ TRef.c x.FType ++ (fun s => [Sl.d 2 TDir.c none s]) x.FDirs
def TField.zero : TField := ⟨([] : Bs), (Sl.nil : Sl TInput), TRef.zero, (Sl.nil : Sl TDir)⟩
structure TMember where
 FName : Bs
 FDirs : (Sl TDir)
noncomputable def TMember.c (x : TMember) : List D := [.str x.FName, Sl.d 2 TDir.c none x.FDirs]
def TMember.zero : TMember := ⟨([] : Bs), (Sl.nil : Sl TDir)⟩
structure TDef where
 FKind : Int
 FName : Bs
 FImplements : (Sl Bs)
 FDirs : (Sl TDir)
 FFields : (Sl TField)
 FMembers : (Sl TMember)
 FInputs : (Sl TInput)
noncomputable def TDef.c (x : TDef) : List D := [.int .i64 x.FKind, .str x.FName, Sl.d 1 strE none x.FImplements, Sl.d 2 TDir.c none x.FDirs, Sl.d 5 TField.c none x.FFields, Sl.d 2 TMember.c none x.FMembers, Sl.d 10 TInput.c none x.FInputs]
def TDef.zero : TDef := ⟨(0 : Int), ([] : Bs), (Sl.nil : Sl Bs), (Sl.nil : Sl TDir), (Sl.nil : Sl TField), (Sl.nil : Sl TMember), (Sl.nil : Sl TInput)⟩
structure TDoc where
 FDefs : (Sl TDef)
noncomputable def TDoc.c (x : TDoc) : List D := [Sl.d 7 TDef.c none x.FDefs]
def TDoc.zero : TDoc := ⟨(Sl.nil : Sl TDef)⟩
structure Supergraphlaw12_Case where
 FD : TDoc
 FT : TRef
 FV : TValue
 FVars : TValue
noncomputable def Supergraphlaw12_Case.c (x : Supergraphlaw12_Case) : List D := TDoc.c x.FD ++ TRef.c x.FT ++ TValue.c x.FV ++ TValue.c x.FVars
def Supergraphlaw12_Case.zero : Supergraphlaw12_Case := ⟨TDoc.zero, TRef.zero, TValue.zero, TValue.zero⟩
structure TVar where
 FName : Bs
 FType : TRef
 FHas : Bool
 FDefault : TValue
noncomputable def TVar.c (x : TVar) : List D := strE x.FName ++ TRef.c x.FType ++ boolE x.FHas ++ TValue.c x.FDefault
def TVar.zero : TVar := ⟨([] : Bs), TRef.zero, false, TValue.zero⟩
structure Coerce_coercer where
 Fd : TDoc
 Fvars : TValue
 Fliteral : Bool
 Fnodes : Int
noncomputable def Coerce_coercer.c (x : Coerce_coercer) : List D := TDoc.c x.Fd ++ TValue.c x.Fvars ++ boolE x.Fliteral ++ (intE .i64) x.Fnodes
def Coerce_coercer.zero : Coerce_coercer := ⟨TDoc.zero, TValue.zero, false, (0 : Int)⟩
structure R12_work where
 Fd : TDoc
 Fvars : TValue
 Flit : Bool
 Fcount : Int
 Ferr : Int
noncomputable def R12_work.c (x : R12_work) : List D := TDoc.c x.Fd ++ TValue.c x.Fvars ++ boolE x.Flit ++ (intE .i64) x.Fcount ++ (intE .i64) x.Ferr
def R12_work.zero : R12_work := ⟨TDoc.zero, TValue.zero, false, (0 : Int), (0 : Int)⟩
end Go.Proofs

namespace Go.Proofs
open Go Go.Ab Go.RowKit
section
variable {H : Type} {B : DataW H → Nat} (hB : Bulk B)
noncomputable def TValue.sz : TValue → Nat := @TValue.rec (fun _ => Nat) (fun _ => Nat) (fun y_Kind y_Int y_Text nl l y_Keys ih => (fun _ => 1) y_Kind + ((fun _ => 1) y_Int + (Bs.sz y_Text + ((1 + ih) + ((Sl.sz Bs.sz) y_Keys + (0)))))) 0 (fun _ _ ih ihl => ih + ihl)
noncomputable def TValue.szL : List TValue → Nat := @TValue.rec_1 (fun _ => Nat) (fun _ => Nat) (fun y_Kind y_Int y_Text nl l y_Keys ih => (fun _ => 1) y_Kind + ((fun _ => 1) y_Int + (Bs.sz y_Text + ((1 + ih) + ((Sl.sz Bs.sz) y_Keys + (0)))))) 0 (fun _ _ ih ihl => ih + ihl)
theorem TValue.szL_eq (l : List TValue) : TValue.szL l = (l.map TValue.sz).sum := by
 induction l with
 | nil => rfl
 | cons a r ih => exact congrArg (TValue.sz a + ·) ih
theorem TValue.sz_eq (x : TValue) : x.sz = (fun _ => 1) x.FKind + ((fun _ => 1) x.FInt + (Bs.sz x.FText + ((Sl.sz TValue.sz) x.FItems + ((Sl.sz Bs.sz) x.FKeys + (0))))) := by
 cases x with
 | mk y_Kind y_Int y_Text nl l y_Keys =>
  show (fun _ => 1) y_Kind + ((fun _ => 1) y_Int + (Bs.sz y_Text + ((1 + TValue.szL l) + ((Sl.sz Bs.sz) y_Keys + (0))))) = _
  rw [TValue.szL_eq]; rfl
def TValue.wf : TValue → Prop := @TValue.rec (fun _ => Prop) (fun _ => Prop) (fun y_Kind y_Int y_Text nl l y_Keys ih => i64 y_Kind ∧ (i64 y_Int ∧ ((fun _ => True) y_Text ∧ (((nl = true → l = []) ∧ l.length ≤ maxN ∧ ih) ∧ ((Sl.wf (fun _ => True)) y_Keys ∧ (True)))))) True (fun _ _ ih ihl => ih ∧ ihl)
def TValue.wfL : List TValue → Prop := @TValue.rec_1 (fun _ => Prop) (fun _ => Prop) (fun y_Kind y_Int y_Text nl l y_Keys ih => i64 y_Kind ∧ (i64 y_Int ∧ ((fun _ => True) y_Text ∧ (((nl = true → l = []) ∧ l.length ≤ maxN ∧ ih) ∧ ((Sl.wf (fun _ => True)) y_Keys ∧ (True)))))) True (fun _ _ ih ihl => ih ∧ ihl)
theorem TValue.wfL_iff (l : List TValue) : TValue.wfL l ↔ ∀ x ∈ l, TValue.wf x := by
 induction l with
 | nil => exact ⟨fun _ _ h => (by cases h), fun _ => trivial⟩
 | cons a r ih =>
  show (TValue.wf a ∧ TValue.wfL r) ↔ _
  rw [ih]; simp
theorem TValue.wf_iff (x : TValue) : x.wf ↔ i64 x.FKind ∧ (i64 x.FInt ∧ ((fun _ => True) x.FText ∧ ((Sl.wf TValue.wf) x.FItems ∧ ((Sl.wf (fun _ => True)) x.FKeys ∧ (True))))) := by
 cases x with
 | mk y_Kind y_Int y_Text nl l y_Keys =>
  show (i64 y_Kind ∧ (i64 y_Int ∧ ((fun _ => True) y_Text ∧ (((nl = true → l = []) ∧ l.length ≤ maxN ∧ TValue.wfL l) ∧ ((Sl.wf (fun _ => True)) y_Keys ∧ (True)))))) ↔ _
  rw [TValue.wfL_iff]; exact Iff.rfl
include hB in
theorem rd_TValue_31 : ∀ N, RdN Tryz.prog B N 31 TValue.c TValue.sz TValue.wf := by
 have key : ∀ N M, M ≤ N → RdN Tryz.prog B M 31 TValue.c TValue.sz TValue.wf := by
  intro N
  induction N with
  | zero => intro M hM; rw [Nat.le_zero.1 hM]; exact .zero
  | succ N ih =>
   intro M hM
   cases M with
   | zero => exact .zero
   | succ N_ =>
    have hit : RdN Tryz.prog B N_ 28 (fun s : Sl TValue => [Sl.d 5 TValue.c none s]) (Sl.sz TValue.sz) (Sl.wf TValue.wf) := by
     cases N_ with
     | zero => exact .zero
     | succ M => exact RdS.sliceN hB (Tryz.tab_ok 28 _ rfl) rfl (Tryz.tab_ok 31 _ rfl) rfl (by decide) (fun _ => rfl) (ih M (by omega))
    refine RdN.struct hB (Tryz.tab_ok 31 _ rfl) rfl (RdP.cons (n := 5) (o := 0) (o' := 1) (Tryz.tab_ok 3 _ rfl) rfl ((RdS.int hB (Tryz.tab_ok 3 _ rfl) rfl) N_) (RdP.cons (n := 5) (o := 1) (o' := 2) (Tryz.tab_ok 3 _ rfl) rfl ((RdS.int hB (Tryz.tab_ok 3 _ rfl) rfl) N_) (RdP.cons (n := 5) (o := 2) (o' := 3) (Tryz.tab_ok 9 _ rfl) rfl ((RdS.str hB (Tryz.tab_ok 9 _ rfl) rfl) N_) (RdP.cons (n := 5) (o := 3) (o' := 4) (Tryz.tab_ok 28 _ rfl) rfl hit (RdP.cons (n := 5) (o := 4) (o' := 5) (Tryz.tab_ok 29 _ rfl) rfl ((RdS.slice hB (Tryz.tab_ok 29 _ rfl) rfl (Tryz.tab_ok 9 _ rfl) rfl (by decide) (fun _ => rfl) (RdS.str hB (Tryz.tab_ok 9 _ rfl) rfl)) N_) (RdP.nil (n := 5))))))) (fun a => TValue.mk a.1 a.2.1 a.2.2.1 a.2.2.2.1.nl a.2.2.2.1.l a.2.2.2.2.1) (fun a => ?_) (fun a => by rw [TValue.sz_eq]; exact Nat.le_refl _) (fun a h => by rw [TValue.wf_iff]; exact h)
    unfold TValue.c
    rw [TValue.FItemsD_eq]
    rfl
 exact fun N => key N N (Nat.le_refl _)
noncomputable def TArg.sz (x : TArg) : Nat := Bs.sz x.FName + (TValue.sz x.FValue + (0))
def TArg.wf (x : TArg) : Prop := (fun _ => True) x.FName ∧ (TValue.wf x.FValue ∧ (True))
include hB in
theorem rd_TArg_47 : ∀ N, RdN Tryz.prog B N 47 TArg.c TArg.sz TArg.wf := RdA.struct hB (Tryz.tab_ok 47 _ rfl) rfl (fun N_ => (RdP.cons (n := 6) (o := 0) (o' := 1) (Tryz.tab_ok 9 _ rfl) rfl ((RdS.str hB (Tryz.tab_ok 9 _ rfl) rfl) N_) (RdP.cons (n := 6) (o := 1) (o' := 6) (Tryz.tab_ok 31 _ rfl) rfl ((rd_TValue_31 hB) N_) (RdP.nil (n := 6))))) (fun a => (⟨a.1, a.2.1⟩ : TArg)) (fun _ => rfl) (fun _ => Nat.le_refl _) (fun _ h => h)
noncomputable def TDir.sz (x : TDir) : Nat := Bs.sz x.FName + ((Sl.sz TArg.sz) x.FArgs + (0))
def TDir.wf (x : TDir) : Prop := (fun _ => True) x.FName ∧ ((Sl.wf TArg.wf) x.FArgs ∧ (True))
include hB in
theorem rd_TDir_121 : ∀ N, RdN Tryz.prog B N 121 TDir.c TDir.sz TDir.wf := RdA.struct hB (Tryz.tab_ok 121 _ rfl) rfl (fun N_ => (RdP.cons (n := 2) (o := 0) (o' := 1) (Tryz.tab_ok 9 _ rfl) rfl ((RdS.str hB (Tryz.tab_ok 9 _ rfl) rfl) N_) (RdP.cons (n := 2) (o := 1) (o' := 2) (Tryz.tab_ok 43 _ rfl) rfl ((RdS.slice hB (Tryz.tab_ok 43 _ rfl) rfl (Tryz.tab_ok 47 _ rfl) rfl (by decide) (fun _ => rfl) (rd_TArg_47 hB)) N_) (RdP.nil (n := 2))))) (fun a => (⟨a.1, a.2.1⟩ : TDir)) (fun _ => rfl) (fun _ => Nat.le_refl _) (fun _ h => h)
noncomputable def TRef.sz (x : TRef) : Nat := Bs.sz x.FName + ((Sl.sz (fun _ => 1)) x.FWraps + (0))
def TRef.wf (x : TRef) : Prop := (fun _ => True) x.FName ∧ ((Sl.wf i64) x.FWraps ∧ (True))
include hB in
theorem rd_TRef_27 : ∀ N, RdN Tryz.prog B N 27 TRef.c TRef.sz TRef.wf := RdA.struct hB (Tryz.tab_ok 27 _ rfl) rfl (fun N_ => (RdP.cons (n := 2) (o := 0) (o' := 1) (Tryz.tab_ok 9 _ rfl) rfl ((RdS.str hB (Tryz.tab_ok 9 _ rfl) rfl) N_) (RdP.cons (n := 2) (o := 1) (o' := 2) (Tryz.tab_ok 25 _ rfl) rfl ((RdS.slice hB (Tryz.tab_ok 25 _ rfl) rfl (Tryz.tab_ok 3 _ rfl) rfl (by decide) (fun _ => rfl) (RdS.int hB (Tryz.tab_ok 3 _ rfl) rfl)) N_) (RdP.nil (n := 2))))) (fun a => (⟨a.1, a.2.1⟩ : TRef)) (fun _ => rfl) (fun _ => Nat.le_refl _) (fun _ h => h)
noncomputable def TInput.sz (x : TInput) : Nat := Bs.sz x.FName + (TRef.sz x.FType + ((fun _ => 1) x.FHas + (TValue.sz x.FDefault + ((Sl.sz TDir.sz) x.FDirs + (0)))))
def TInput.wf (x : TInput) : Prop := (fun _ => True) x.FName ∧ (TRef.wf x.FType ∧ ((fun _ => True) x.FHas ∧ (TValue.wf x.FDefault ∧ ((Sl.wf TDir.wf) x.FDirs ∧ (True)))))
include hB in
theorem rd_TInput_55 : ∀ N, RdN Tryz.prog B N 55 TInput.c TInput.sz TInput.wf := RdA.struct hB (Tryz.tab_ok 55 _ rfl) rfl (fun N_ => (RdP.cons (n := 10) (o := 0) (o' := 1) (Tryz.tab_ok 9 _ rfl) rfl ((RdS.str hB (Tryz.tab_ok 9 _ rfl) rfl) N_) (RdP.cons (n := 10) (o := 1) (o' := 3) (Tryz.tab_ok 27 _ rfl) rfl ((rd_TRef_27 hB) N_) (RdP.cons (n := 10) (o := 3) (o' := 4) (Tryz.tab_ok 4 _ rfl) rfl ((RdS.bool hB (Tryz.tab_ok 4 _ rfl) rfl) N_) (RdP.cons (n := 10) (o := 4) (o' := 9) (Tryz.tab_ok 31 _ rfl) rfl ((rd_TValue_31 hB) N_) (RdP.cons (n := 10) (o := 9) (o' := 10) (Tryz.tab_ok 53 _ rfl) rfl ((RdS.slice hB (Tryz.tab_ok 53 _ rfl) rfl (Tryz.tab_ok 121 _ rfl) rfl (by decide) (fun _ => rfl) (rd_TDir_121 hB)) N_) (RdP.nil (n := 10)))))))) (fun a => (⟨a.1, a.2.1, a.2.2.1, a.2.2.2.1, a.2.2.2.2.1⟩ : TInput)) (fun _ => rfl) (fun _ => Nat.le_refl _) (fun _ h => h)
noncomputable def TField.sz (x : TField) : Nat := Bs.sz x.FName + ((Sl.sz TInput.sz) x.FArgs + (TRef.sz x.FType + ((Sl.sz TDir.sz) x.FDirs + (0))))
def TField.wf (x : TField) : Prop := (fun _ => True) x.FName ∧ ((Sl.wf TInput.wf) x.FArgs ∧ (TRef.wf x.FType ∧ ((Sl.wf TDir.wf) x.FDirs ∧ (True))))
include hB in
theorem rd_TField_69 : ∀ N, RdN Tryz.prog B N 69 TField.c TField.sz TField.wf := RdA.struct hB (Tryz.tab_ok 69 _ rfl) rfl (fun N_ => (RdP.cons (n := 5) (o := 0) (o' := 1) (Tryz.tab_ok 9 _ rfl) rfl ((RdS.str hB (Tryz.tab_ok 9 _ rfl) rfl) N_) (RdP.cons (n := 5) (o := 1) (o' := 2) (Tryz.tab_ok 42 _ rfl) rfl ((RdS.slice hB (Tryz.tab_ok 42 _ rfl) rfl (Tryz.tab_ok 55 _ rfl) rfl (by decide) (fun _ => rfl) (rd_TInput_55 hB)) N_) (RdP.cons (n := 5) (o := 2) (o' := 4) (Tryz.tab_ok 27 _ rfl) rfl ((rd_TRef_27 hB) N_) (RdP.cons (n := 5) (o := 4) (o' := 5) (Tryz.tab_ok 53 _ rfl) rfl ((RdS.slice hB (Tryz.tab_ok 53 _ rfl) rfl (Tryz.tab_ok 121 _ rfl) rfl (by decide) (fun _ => rfl) (rd_TDir_121 hB)) N_) (RdP.nil (n := 5))))))) (fun a => (⟨a.1, a.2.1, a.2.2.1, a.2.2.2.1⟩ : TField)) (fun _ => rfl) (fun _ => Nat.le_refl _) (fun _ h => h)
noncomputable def TMember.sz (x : TMember) : Nat := Bs.sz x.FName + ((Sl.sz TDir.sz) x.FDirs + (0))
def TMember.wf (x : TMember) : Prop := (fun _ => True) x.FName ∧ ((Sl.wf TDir.wf) x.FDirs ∧ (True))
include hB in
theorem rd_TMember_100 : ∀ N, RdN Tryz.prog B N 100 TMember.c TMember.sz TMember.wf := RdA.struct hB (Tryz.tab_ok 100 _ rfl) rfl (fun N_ => (RdP.cons (n := 2) (o := 0) (o' := 1) (Tryz.tab_ok 9 _ rfl) rfl ((RdS.str hB (Tryz.tab_ok 9 _ rfl) rfl) N_) (RdP.cons (n := 2) (o := 1) (o' := 2) (Tryz.tab_ok 53 _ rfl) rfl ((RdS.slice hB (Tryz.tab_ok 53 _ rfl) rfl (Tryz.tab_ok 121 _ rfl) rfl (by decide) (fun _ => rfl) (rd_TDir_121 hB)) N_) (RdP.nil (n := 2))))) (fun a => (⟨a.1, a.2.1⟩ : TMember)) (fun _ => rfl) (fun _ => Nat.le_refl _) (fun _ h => h)
noncomputable def TDef.sz (x : TDef) : Nat := (fun _ => 1) x.FKind + (Bs.sz x.FName + ((Sl.sz Bs.sz) x.FImplements + ((Sl.sz TDir.sz) x.FDirs + ((Sl.sz TField.sz) x.FFields + ((Sl.sz TMember.sz) x.FMembers + ((Sl.sz TInput.sz) x.FInputs + (0)))))))
def TDef.wf (x : TDef) : Prop := i64 x.FKind ∧ ((fun _ => True) x.FName ∧ ((Sl.wf (fun _ => True)) x.FImplements ∧ ((Sl.wf TDir.wf) x.FDirs ∧ ((Sl.wf TField.wf) x.FFields ∧ ((Sl.wf TMember.wf) x.FMembers ∧ ((Sl.wf TInput.wf) x.FInputs ∧ (True)))))))
include hB in
theorem rd_TDef_73 : ∀ N, RdN Tryz.prog B N 73 TDef.c TDef.sz TDef.wf := RdA.struct hB (Tryz.tab_ok 73 _ rfl) rfl (fun N_ => (RdP.cons (n := 7) (o := 0) (o' := 1) (Tryz.tab_ok 3 _ rfl) rfl ((RdS.int hB (Tryz.tab_ok 3 _ rfl) rfl) N_) (RdP.cons (n := 7) (o := 1) (o' := 2) (Tryz.tab_ok 9 _ rfl) rfl ((RdS.str hB (Tryz.tab_ok 9 _ rfl) rfl) N_) (RdP.cons (n := 7) (o := 2) (o' := 3) (Tryz.tab_ok 29 _ rfl) rfl ((RdS.slice hB (Tryz.tab_ok 29 _ rfl) rfl (Tryz.tab_ok 9 _ rfl) rfl (by decide) (fun _ => rfl) (RdS.str hB (Tryz.tab_ok 9 _ rfl) rfl)) N_) (RdP.cons (n := 7) (o := 3) (o' := 4) (Tryz.tab_ok 53 _ rfl) rfl ((RdS.slice hB (Tryz.tab_ok 53 _ rfl) rfl (Tryz.tab_ok 121 _ rfl) rfl (by decide) (fun _ => rfl) (rd_TDir_121 hB)) N_) (RdP.cons (n := 7) (o := 4) (o' := 5) (Tryz.tab_ok 70 _ rfl) rfl ((RdS.slice hB (Tryz.tab_ok 70 _ rfl) rfl (Tryz.tab_ok 69 _ rfl) rfl (by decide) (fun _ => rfl) (rd_TField_69 hB)) N_) (RdP.cons (n := 7) (o := 5) (o' := 6) (Tryz.tab_ok 71 _ rfl) rfl ((RdS.slice hB (Tryz.tab_ok 71 _ rfl) rfl (Tryz.tab_ok 100 _ rfl) rfl (by decide) (fun _ => rfl) (rd_TMember_100 hB)) N_) (RdP.cons (n := 7) (o := 6) (o' := 7) (Tryz.tab_ok 42 _ rfl) rfl ((RdS.slice hB (Tryz.tab_ok 42 _ rfl) rfl (Tryz.tab_ok 55 _ rfl) rfl (by decide) (fun _ => rfl) (rd_TInput_55 hB)) N_) (RdP.nil (n := 7)))))))))) (fun a => (⟨a.1, a.2.1, a.2.2.1, a.2.2.2.1, a.2.2.2.2.1, a.2.2.2.2.2.1, a.2.2.2.2.2.2.1⟩ : TDef)) (fun _ => rfl) (fun _ => Nat.le_refl _) (fun _ h => h)
noncomputable def TDoc.sz (x : TDoc) : Nat := (Sl.sz TDef.sz) x.FDefs + (0)
def TDoc.wf (x : TDoc) : Prop := (Sl.wf TDef.wf) x.FDefs ∧ (True)
include hB in
theorem rd_TDoc_24 : ∀ N, RdN Tryz.prog B N 24 TDoc.c TDoc.sz TDoc.wf := RdA.struct hB (Tryz.tab_ok 24 _ rfl) rfl (fun N_ => (RdP.cons (n := 1) (o := 0) (o' := 1) (Tryz.tab_ok 22 _ rfl) rfl ((RdS.slice hB (Tryz.tab_ok 22 _ rfl) rfl (Tryz.tab_ok 73 _ rfl) rfl (by decide) (fun _ => rfl) (rd_TDef_73 hB)) N_) (RdP.nil (n := 1)))) (fun a => (⟨a.1⟩ : TDoc)) (fun _ => rfl) (fun _ => Nat.le_refl _) (fun _ h => h)
noncomputable def Supergraphlaw12_Case.sz (x : Supergraphlaw12_Case) : Nat := TDoc.sz x.FD + (TRef.sz x.FT + (TValue.sz x.FV + (TValue.sz x.FVars + (0))))
def Supergraphlaw12_Case.wf (x : Supergraphlaw12_Case) : Prop := TDoc.wf x.FD ∧ (TRef.wf x.FT ∧ (TValue.wf x.FV ∧ (TValue.wf x.FVars ∧ (True))))
include hB in
theorem rd_Supergraphlaw12_Case_33 : ∀ N, RdN Tryz.prog B N 33 Supergraphlaw12_Case.c Supergraphlaw12_Case.sz Supergraphlaw12_Case.wf := RdA.struct hB (Tryz.tab_ok 33 _ rfl) rfl (fun N_ => (RdP.cons (n := 13) (o := 0) (o' := 1) (Tryz.tab_ok 24 _ rfl) rfl ((rd_TDoc_24 hB) N_) (RdP.cons (n := 13) (o := 1) (o' := 3) (Tryz.tab_ok 27 _ rfl) rfl ((rd_TRef_27 hB) N_) (RdP.cons (n := 13) (o := 3) (o' := 8) (Tryz.tab_ok 31 _ rfl) rfl ((rd_TValue_31 hB) N_) (RdP.cons (n := 13) (o := 8) (o' := 13) (Tryz.tab_ok 31 _ rfl) rfl ((rd_TValue_31 hB) N_) (RdP.nil (n := 13))))))) (fun a => (⟨a.1, a.2.1, a.2.2.1, a.2.2.2.1⟩ : Supergraphlaw12_Case)) (fun _ => rfl) (fun _ => Nat.le_refl _) (fun _ h => h)
end
theorem TValue.sz_def (x : TValue) : x.sz = 0 + 1 + 1 + Bs.sz x.FText + (Sl.sz TValue.sz) x.FItems + (Sl.sz Bs.sz) x.FKeys := by
 rw [TValue.sz_eq]; try dsimp only
 omega
theorem TValue.pos (x : TValue) : 1 ≤ x.sz := by
 rw [TValue.sz_def]; have := Bs.sz_pos x.FText; omega
theorem TArg.sz_def (x : TArg) : x.sz = 0 + Bs.sz x.FName + TValue.sz x.FValue := by
 unfold TArg.sz; try dsimp only
 omega
theorem TArg.pos (x : TArg) : 1 ≤ x.sz := by
 rw [TArg.sz_def]; have := Bs.sz_pos x.FName; omega
theorem TArg.FValue_wf {x : TArg} (h : x.wf) : TValue.wf x.FValue := h.2.1
theorem TDir.sz_def (x : TDir) : x.sz = 0 + Bs.sz x.FName + (Sl.sz TArg.sz) x.FArgs := by
 unfold TDir.sz; try dsimp only
 omega
theorem TDir.pos (x : TDir) : 1 ≤ x.sz := by
 rw [TDir.sz_def]; have := Bs.sz_pos x.FName; omega
theorem TRef.sz_def (x : TRef) : x.sz = 0 + Bs.sz x.FName + (Sl.sz (fun _ => 1)) x.FWraps := by
 unfold TRef.sz; try dsimp only
 omega
theorem TRef.pos (x : TRef) : 1 ≤ x.sz := by
 rw [TRef.sz_def]; have := Bs.sz_pos x.FName; omega
theorem TInput.sz_def (x : TInput) : x.sz = 0 + Bs.sz x.FName + TRef.sz x.FType + 1 + TValue.sz x.FDefault + (Sl.sz TDir.sz) x.FDirs := by
 unfold TInput.sz; try dsimp only
 omega
theorem TInput.pos (x : TInput) : 1 ≤ x.sz := by
 rw [TInput.sz_def]; have := Bs.sz_pos x.FName; omega
theorem TField.sz_def (x : TField) : x.sz = 0 + Bs.sz x.FName + (Sl.sz TInput.sz) x.FArgs + TRef.sz x.FType + (Sl.sz TDir.sz) x.FDirs := by
 unfold TField.sz; try dsimp only
 omega
theorem TField.pos (x : TField) : 1 ≤ x.sz := by
 rw [TField.sz_def]; have := Bs.sz_pos x.FName; omega
theorem TMember.sz_def (x : TMember) : x.sz = 0 + Bs.sz x.FName + (Sl.sz TDir.sz) x.FDirs := by
 unfold TMember.sz; try dsimp only
 omega
theorem TMember.pos (x : TMember) : 1 ≤ x.sz := by
 rw [TMember.sz_def]; have := Bs.sz_pos x.FName; omega
theorem TDef.sz_def (x : TDef) : x.sz = 0 + 1 + Bs.sz x.FName + (Sl.sz Bs.sz) x.FImplements + (Sl.sz TDir.sz) x.FDirs + (Sl.sz TField.sz) x.FFields + (Sl.sz TMember.sz) x.FMembers + (Sl.sz TInput.sz) x.FInputs := by
 unfold TDef.sz; try dsimp only
 omega
theorem TDef.pos (x : TDef) : 1 ≤ x.sz := by
 rw [TDef.sz_def]; have := Bs.sz_pos x.FName; omega
theorem TDoc.sz_def (x : TDoc) : x.sz = 0 + (Sl.sz TDef.sz) x.FDefs := by
 unfold TDoc.sz; try dsimp only
 omega
theorem TDoc.pos (x : TDoc) : 1 ≤ x.sz := by
 rw [TDoc.sz_def]; have := Sl.sz_pos TDef.sz x.FDefs; omega
theorem Supergraphlaw12_Case.sz_def (x : Supergraphlaw12_Case) : x.sz = 0 + TDoc.sz x.FD + TRef.sz x.FT + TValue.sz x.FV + TValue.sz x.FVars := by
 unfold Supergraphlaw12_Case.sz; try dsimp only
 omega
theorem Supergraphlaw12_Case.pos (x : Supergraphlaw12_Case) : 1 ≤ x.sz := by
 rw [Supergraphlaw12_Case.sz_def]; have := x.FD.pos; omega
end Go.Proofs

namespace Go.Proofs
open Go Go.Ab
open AOps Cert AWp
def Z35_j7  (s5_8 : Int) : Option Int := some s5_8
def Z35_l11 (a0 : TValue) (a1 : Int) (k_rec_16 : TValue → Int → Option Int) : Nat → Int → Nat → Option Int
 | 0, _, _ => none
 | n11 + 1, s5_12, s7_13 => bif ((decide (((s7_13 : Nat) : Int) < ((a0.FItems.l.length : Nat) : Int))) && (decide (s5_12 ≤ a1))) then ((a0.FItems.l[s7_13]?).bind fun x19 => (k_rec_16 x19 a1).bind fun x20 => (addC s5_12 x20).bind fun x21 => (Z35_l11 a0 a1 k_rec_16 n11) x21 (s7_13 + 1)) else (Z35_j7   s5_12)
def Z35_j5 (a0 : TValue) (a1 : Int) (k_rec_16 : TValue → Int → Option Int) (s5_6 : Int) : Option Int := Z35_l11 a0 a1 k_rec_16 (a0.FItems.l.length + 1) s5_6 0
def Z35_l23 (a0 : TValue) (a1 : Int) (k_rec_16 : TValue → Int → Option Int) : Nat → Int → Nat → Option Int
 | 0, _, _ => none
 | n23 + 1, s5_24, s6_25 => bif ((decide (((s6_25 : Nat) : Int) < ((a0.FKeys.l.length : Nat) : Int))) && (decide (s5_24 ≤ a1))) then ((addC s5_24 (1 : Int)).bind fun x31 => (a0.FKeys.l[s6_25]?).bind fun x32 => (addC x31 ((x32.length : Nat) : Int)).bind fun x34 => (Z35_l23 a0 a1 k_rec_16 n23) x34 (s6_25 + 1)) else (Z35_j5 a0 a1 k_rec_16 s5_24)
def Z35_n : Nat → TValue → Int → Option Int
 | 0, _, _ => none
 | n + 1, a0, a1 => (addC (1 : Int) ((a0.FText.length : Nat) : Int)).bind fun x4 => Z35_l23 a0 a1 (Z35_n n) (a0.FKeys.l.length + 1) x4 0
theorem Z35_step (n : Nat) (ih_16 : ∀ {a0 : TValue} {a1 : Int}   {r : Int}, Z35_n n a0 a1 = some r → ∀ (H : Heap), ACalls Tryz.prog 16 [.agg (TValue.c a0), .d (.int .i64 a1)] H fun v h' => v = .a (.d (.int .i64 r)) ∧ h' = H) : ∀ {a0 : TValue} {a1 : Int}   {r : Int}, Z35_n (n + 1) a0 a1 = some r → ∀ (H : Heap), ACalls Tryz.prog 16 [.agg (TValue.c a0), .d (.int .i64 a1)] H fun v h' => v = .a (.d (.int .i64 r)) ∧ h' = H := by
 intro a0 a1   r hE H 
 rw [Z35_n] at hE
 refine ACalls.of_wp (fn := Tryz.f16) (c := _) Tryz.tab_ok (fun _ _ => Tryz.call16 _ _) Tryz.func16 rfl (n := 55) rfl (rs := [.tmp 4]) rfl rfl ?_
 refine seqK fun K1 hK1 => ?_
 refine region ?_
 refine s0 (boxV rfl) rfl ?_
 refine s0 assignA rfl ?_
 refine nil ?_
 refine hK1 _ ?_
 clear hK1 K1
 refine seqK fun K2 hK2 => ?_
 refine region ?_
 refine s0 (fieldVA (TK rfl) rfl rfl (TK rfl) rfl rfl) rfl ?_
 refine s0 (loadV (TK rfl) rfl rfl rfl) rfl ?_
 refine sLenS (TK rfl) rfl rfl rfl rfl fun hL3 => ?_
 obtain ⟨x4, gx4, hE⟩ := bindO_some hE
 refine s0 (addM rfl rfl gx4) rfl ?_
 refine s0 assignA rfl ?_
 refine nil ?_
 refine hK2 _ ?_
 clear hK2 K2
 refine seqJH (KeepsT.A (k := 1) (KeepsT.A (k := 2) KeepsT.nil)) (fun (z : Int) => [(5, .a (.d (.int .i64 z)))]) (fun z => H) (fun z => Z35_j5 a0 a1 (Z35_n n) z = some r) ?_ ?_
 ·intro K5 hK5
  refine seqK fun K22 hK22 => ?_
  refine region ?_
  refine s0 assignA rfl ?_
  refine nil ?_
  refine hK22 _ ?_
  clear hK22 K22
  refine block ?_
  refine loopH (KeepsT.A (k := 1) (KeepsT.A (k := 2) KeepsT.nil)) (fun (z : Nat × Int × Nat) => [(5, .a (.d (.int .i64 z.2.1))), (6, .a (.d (.int .i64 ((z.2.2 : Nat) : Int))))]) (fun z => H) (fun z => z.1) (fun z => Z35_l23 a0 a1 (Z35_n n) z.1 z.2.1 z.2.2 = some r) ((a0.FKeys.l.length + 1), x4, 0) hE Weak.toA ?_
  rintro ⟨n23, s5_24, s6_25⟩ hE K23 hK23
  try dsimp only at hE
  cases n23 with
  | zero => cases hE
  | succ n23 =>
    rw [Z35_l23] at hE
    refine seqK fun K26 hK26 => ?_
    refine seqK fun K27 hK27 => ?_
    refine region ?_
    refine s0 moveA rfl ?_
    refine s0 (fieldVA (TK rfl) rfl rfl (TK rfl) rfl rfl) rfl ?_
    refine s0 (loadV (TK rfl) rfl rfl rfl) rfl ?_
    refine sLen (f := strE) (s := a0.FKeys) (TK rfl) rfl rfl rfl rfl fun hL28 => ?_
    refine s0 (binI rfl rfl rfl) rfl ?_
    refine s0 moveA rfl ?_
    refine gC rfl rfl (fun hC => moveA) rfl ?_
    refine gC rfl rfl (fun hC => moveA) rfl ?_
    refine gC rfl rfl (fun hC => ungdA (k := 18) rfl (ungdA (k := 19) rfl (binI rfl rfl rfl))) rfl ?_
    refine s0 (pickAndA rfl rfl rfl) rfl ?_
    refine nil ?_
    refine hK27 _ ?_
    clear hK27 K27
    refine condE hE rfl (fun hc29 hE => ?_) (fun hc29 hE => ?_)
    ·try dsimp only at hc29
     have hf29 := of_decide_eq_true (and_left hc29)
     refine AWp.skip ?_
     refine hK26 _ ?_
     clear hK26 K26
     refine seqK fun K30 hK30 => ?_
     refine block ?_
     refine region ?_
     refine s0 moveA rfl ?_
     obtain ⟨x31, gx31, hE⟩ := bindO_some hE
     refine s0 (addM rfl rfl gx31) rfl ?_
     refine s0 (fieldVA (TK rfl) rfl rfl (TK rfl) rfl rfl) rfl ?_
     refine s0 (loadV (TK rfl) rfl rfl rfl) rfl ?_
     refine s0 moveA rfl ?_
     obtain ⟨x32, gx32, hE⟩ := bindO_some hE
     refine s0 (idxMn (f := strE) (n := s6_25) (TK rfl) rfl (TK rfl) rfl rfl rfl gx32) rfl ?_
     refine s0 (loadV (TK rfl) rfl rfl rfl) rfl ?_
     refine sLenS (TK rfl) rfl rfl rfl rfl fun hL33 => ?_
     obtain ⟨x34, gx34, hE⟩ := bindO_some hE
     refine s0 (addM rfl rfl gx34) rfl ?_
     refine s0 assignA rfl ?_
     refine nil ?_
     refine hK30 _ ?_
     clear hK30 K30
     refine region ?_
     refine s0 moveA rfl ?_
     refine s0 (addIA rfl rfl) rfl ?_
     refine s0 assignA rfl ?_
     refine nil ?_
     exact hK23 _ (n23, x34, (s6_25 + 1)) Weak.toA hE (Nat.lt_succ_self _)
    refine AWp.exit ?_
    exact hK5 _ s5_24 Weak.toA hE
 rintro s5_6 hE
 try dsimp only at hE
 unfold Z35_j5 at hE
 refine seqJH KeepsT.nil (fun (z : Int) => [(5, .a (.d (.int .i64 z)))]) (fun z => H) (fun z => Z35_j7 z = some r) ?_ ?_
 ·intro K7 hK7
  refine seqK fun K10 hK10 => ?_
  refine region ?_
  refine s0 assignA rfl ?_
  refine nil ?_
  refine hK10 _ ?_
  clear hK10 K10
  refine block ?_
  refine loopH (KeepsT.A (k := 1) (KeepsT.A (k := 2) KeepsT.nil)) (fun (z : Nat × Int × Nat) => [(5, .a (.d (.int .i64 z.2.1))), (7, .a (.d (.int .i64 ((z.2.2 : Nat) : Int))))]) (fun z => H) (fun z => z.1) (fun z => Z35_l11 a0 a1 (Z35_n n) z.1 z.2.1 z.2.2 = some r) ((a0.FItems.l.length + 1), s5_6, 0) hE Weak.toA ?_
  rintro ⟨n11, s5_12, s7_13⟩ hE K11 hK11
  try dsimp only at hE
  cases n11 with
  | zero => cases hE
  | succ n11 =>
    rw [Z35_l11] at hE
    refine seqK fun K14 hK14 => ?_
    refine seqK fun K15 hK15 => ?_
    refine region ?_
    refine s0 moveA rfl ?_
    refine s0 (fieldVA (TK rfl) rfl rfl (TK rfl) rfl rfl) rfl ?_
    refine s0 (loadV (TK rfl) rfl rfl (congrArg (fun x => some (A.d x)) (TValue.FItemsD_eq _))) rfl ?_
    refine sLen (f := TValue.c) (s := a0.FItems) (TK rfl) rfl rfl rfl rfl fun hL16 => ?_
    refine s0 (binI rfl rfl rfl) rfl ?_
    refine s0 moveA rfl ?_
    refine gC rfl rfl (fun hC => moveA) rfl ?_
    refine gC rfl rfl (fun hC => moveA) rfl ?_
    refine gC rfl rfl (fun hC => ungdA (k := 39) rfl (ungdA (k := 40) rfl (binI rfl rfl rfl))) rfl ?_
    refine s0 (pickAndA rfl rfl rfl) rfl ?_
    refine nil ?_
    refine hK15 _ ?_
    clear hK15 K15
    refine condE hE rfl (fun hc17 hE => ?_) (fun hc17 hE => ?_)
    ·try dsimp only at hc17
     have hf17 := of_decide_eq_true (and_left hc17)
     refine AWp.skip ?_
     refine hK14 _ ?_
     clear hK14 K14
     refine seqK fun K18 hK18 => ?_
     refine block ?_
     refine region ?_
     refine s0 moveA rfl ?_
     refine s0 (fieldVA (TK rfl) rfl rfl (TK rfl) rfl rfl) rfl ?_
     refine s0 (loadV (TK rfl) rfl rfl (congrArg (fun x => some (A.d x)) (TValue.FItemsD_eq _))) rfl ?_
     refine s0 moveA rfl ?_
     obtain ⟨x19, gx19, hE⟩ := bindO_some hE
     refine s0 (idxMn (f := TValue.c) (n := s7_13) (TK rfl) rfl (TK rfl) rfl rfl rfl gx19) rfl ?_
     refine s0 (loadV (TK rfl) rfl rfl rfl) rfl ?_
     refine s0 moveA rfl ?_
     obtain ⟨x20, gx20, hE⟩ := bindO_some hE
     refine s0 (callP rfl rfl (fun H => ih_16 gx20 H)) rfl ?_
     obtain ⟨x21, gx21, hE⟩ := bindO_some hE
     refine s0 (addM rfl rfl gx21) rfl ?_
     refine s0 assignA rfl ?_
     refine nil ?_
     refine hK18 _ ?_
     clear hK18 K18
     refine region ?_
     refine s0 moveA rfl ?_
     refine s0 (addIA rfl rfl) rfl ?_
     refine s0 assignA rfl ?_
     refine nil ?_
     exact hK11 _ (n11, x21, (s7_13 + 1)) Weak.toA hE (Nat.lt_succ_self _)
    refine AWp.exit ?_
    exact hK7 _ s5_12 Weak.toA hE
 rintro s5_8 hE
 try dsimp only at hE
 unfold Z35_j7 at hE
 refine seqK fun K9 hK9 => ?_
 refine region ?_
 refine s0 moveA rfl ?_
 refine s0 assignA rfl ?_
 refine nil ?_
 refine hK9 _ ?_
 clear hK9 K9
 refine AWp.ret ?_
 repeat (first | refine xBlock_ret ?_ | refine xThen_ret ?_)
 obtain rfl := Option.some.inj hE
 refine retQ.retF H rfl ⟨rfl, rfl⟩ ?_
 exact (fun _ _ h => h)
theorem Z35_all : ∀ (n : Nat), (∀ {a0 : TValue} {a1 : Int}   {r : Int}, Z35_n n a0 a1 = some r → ∀ (H : Heap), ACalls Tryz.prog 16 [.agg (TValue.c a0), .d (.int .i64 a1)] H fun v h' => v = .a (.d (.int .i64 r)) ∧ h' = H)
 | 0 => fun hE => by first | cases hE | (rw [Z35_n] at hE; cases hE)
 | n + 1 => Z35_step n (Z35_all n)
def Z35 (a0 : TValue) (a1 : Int) : Option Int := Z35_n F0 a0 a1
theorem Z35_walk {a0 : TValue} {a1 : Int}   {r : Int} (hE : Z35 a0 a1 = some r) (H : Heap)  : ACalls Tryz.prog 16 [.agg (TValue.c a0), .d (.int .i64 a1)] H fun v h' => v = .a (.d (.int .i64 r)) ∧ h' = H := (Z35_all F0) hE H 
def Z29_j3  (s3_4 : Int) : Option Int := some s3_4
def Z29_l7 (a0 : TValue) (k_rec_36 : TValue → Option Int) : Nat → Int → Nat → Option Int
 | 0, _, _ => none
 | n7 + 1, s3_8, s4_9 => bif (decide (((s4_9 : Nat) : Int) < ((a0.FItems.l.length : Nat) : Int))) then ((a0.FItems.l[s4_9]?).bind fun x15 => (k_rec_36 x15).bind fun x16 => (addC s3_8 x16).bind fun x17 => (Z29_l7 a0 k_rec_36 n7) x17 (s4_9 + 1)) else (Z29_j3   s3_8)
def Z29_n : Nat → TValue → Option Int
 | 0, _ => none
 | n + 1, a0 => Z29_l7 a0 (Z29_n n) (a0.FItems.l.length + 1) (1 : Int) 0
theorem Z29_step (n : Nat) (ih_36 : ∀ {a0 : TValue}   {r : Int}, Z29_n n a0 = some r → ∀ (H : Heap), ACalls Tryz.prog 36 [.agg (TValue.c a0)] H fun v h' => v = .a (.d (.int .i64 r)) ∧ h' = H) : ∀ {a0 : TValue}   {r : Int}, Z29_n (n + 1) a0 = some r → ∀ (H : Heap), ACalls Tryz.prog 36 [.agg (TValue.c a0)] H fun v h' => v = .a (.d (.int .i64 r)) ∧ h' = H := by
 intro a0   r hE H 
 rw [Z29_n] at hE
 refine ACalls.of_wp (fn := Tryz.f36) (c := _) Tryz.tab_ok (fun _ _ => Tryz.call36 _ _) Tryz.func36 rfl (n := 21) rfl (rs := [.tmp 2]) rfl rfl ?_
 refine seqK fun K1 hK1 => ?_
 refine region ?_
 refine s0 (boxV rfl) rfl ?_
 refine s0 assignA rfl ?_
 refine nil ?_
 refine hK1 _ ?_
 clear hK1 K1
 refine seqK fun K2 hK2 => ?_
 refine region ?_
 refine s0 assignA rfl ?_
 refine nil ?_
 refine hK2 _ ?_
 clear hK2 K2
 refine seqJH KeepsT.nil (fun (z : Int) => [(3, .a (.d (.int .i64 z)))]) (fun z => H) (fun z => Z29_j3 z = some r) ?_ ?_
 ·intro K3 hK3
  refine seqK fun K6 hK6 => ?_
  refine region ?_
  refine s0 assignA rfl ?_
  refine nil ?_
  refine hK6 _ ?_
  clear hK6 K6
  refine block ?_
  refine loopH (KeepsT.A (k := 1) KeepsT.nil) (fun (z : Nat × Int × Nat) => [(3, .a (.d (.int .i64 z.2.1))), (4, .a (.d (.int .i64 ((z.2.2 : Nat) : Int))))]) (fun z => H) (fun z => z.1) (fun z => Z29_l7 a0 (Z29_n n) z.1 z.2.1 z.2.2 = some r) ((a0.FItems.l.length + 1), (1 : Int), 0) hE Weak.toA ?_
  rintro ⟨n7, s3_8, s4_9⟩ hE K7 hK7
  try dsimp only at hE
  cases n7 with
  | zero => cases hE
  | succ n7 =>
    rw [Z29_l7] at hE
    refine seqK fun K10 hK10 => ?_
    refine seqK fun K11 hK11 => ?_
    refine region ?_
    refine s0 moveA rfl ?_
    refine s0 (fieldVA (TK rfl) rfl rfl (TK rfl) rfl rfl) rfl ?_
    refine s0 (loadV (TK rfl) rfl rfl (congrArg (fun x => some (A.d x)) (TValue.FItemsD_eq _))) rfl ?_
    refine sLen (f := TValue.c) (s := a0.FItems) (TK rfl) rfl rfl rfl rfl fun hL12 => ?_
    refine s0 (binI rfl rfl rfl) rfl ?_
    refine nil ?_
    refine hK11 _ ?_
    clear hK11 K11
    refine condE hE rfl (fun hc13 hE => ?_) (fun hc13 hE => ?_)
    ·try dsimp only at hc13
     have hf13 := of_decide_eq_true hc13
     refine AWp.skip ?_
     refine hK10 _ ?_
     clear hK10 K10
     refine seqK fun K14 hK14 => ?_
     refine block ?_
     refine region ?_
     refine s0 moveA rfl ?_
     refine s0 (fieldVA (TK rfl) rfl rfl (TK rfl) rfl rfl) rfl ?_
     refine s0 (loadV (TK rfl) rfl rfl (congrArg (fun x => some (A.d x)) (TValue.FItemsD_eq _))) rfl ?_
     refine s0 moveA rfl ?_
     obtain ⟨x15, gx15, hE⟩ := bindO_some hE
     refine s0 (idxMn (f := TValue.c) (n := s4_9) (TK rfl) rfl (TK rfl) rfl rfl rfl gx15) rfl ?_
     refine s0 (loadV (TK rfl) rfl rfl rfl) rfl ?_
     obtain ⟨x16, gx16, hE⟩ := bindO_some hE
     refine s0 (callP rfl rfl (fun H => ih_36 gx16 H)) rfl ?_
     obtain ⟨x17, gx17, hE⟩ := bindO_some hE
     refine s0 (addM rfl rfl gx17) rfl ?_
     refine s0 assignA rfl ?_
     refine nil ?_
     refine hK14 _ ?_
     clear hK14 K14
     refine region ?_
     refine s0 moveA rfl ?_
     refine s0 (addIA rfl rfl) rfl ?_
     refine s0 assignA rfl ?_
     refine nil ?_
     exact hK7 _ (n7, x17, (s4_9 + 1)) Weak.toA hE (Nat.lt_succ_self _)
    refine AWp.exit ?_
    exact hK3 _ s3_8 Weak.toA hE
 rintro s3_4 hE
 try dsimp only at hE
 unfold Z29_j3 at hE
 refine seqK fun K5 hK5 => ?_
 refine region ?_
 refine s0 moveA rfl ?_
 refine s0 assignA rfl ?_
 refine nil ?_
 refine hK5 _ ?_
 clear hK5 K5
 refine AWp.ret ?_
 repeat (first | refine xBlock_ret ?_ | refine xThen_ret ?_)
 obtain rfl := Option.some.inj hE
 refine retQ.retF H rfl ⟨rfl, rfl⟩ ?_
 exact (fun _ _ h => h)
theorem Z29_all : ∀ (n : Nat), (∀ {a0 : TValue}   {r : Int}, Z29_n n a0 = some r → ∀ (H : Heap), ACalls Tryz.prog 36 [.agg (TValue.c a0)] H fun v h' => v = .a (.d (.int .i64 r)) ∧ h' = H)
 | 0 => fun hE => by first | cases hE | (rw [Z29_n] at hE; cases hE)
 | n + 1 => Z29_step n (Z29_all n)
def Z29 (a0 : TValue) : Option Int := Z29_n F0 a0
theorem Z29_walk {a0 : TValue}   {r : Int} (hE : Z29 a0 = some r) (H : Heap)  : ACalls Tryz.prog 36 [.agg (TValue.c a0)] H fun v h' => v = .a (.d (.int .i64 r)) ∧ h' = H := (Z29_all F0) hE H 
def Z25_j3  (s3_4 : Int) : Option Int := (addC s3_4 (1 : Int)).bind fun x6 => some x6
def Z25_l8 (a0 : TValue) (k_rec_37 : TValue → Option Int) : Nat → Int → Nat → Option Int
 | 0, _, _ => none
 | n8 + 1, s3_9, s4_10 => bif (decide (((s4_10 : Nat) : Int) < ((a0.FItems.l.length : Nat) : Int))) then ((a0.FItems.l[s4_10]?).bind fun x16 => (k_rec_37 x16).bind fun x17 => (Z25_l8 a0 k_rec_37 n8) (if x17 > s3_9 then x17 else s3_9) (s4_10 + 1)) else (Z25_j3   s3_9)
def Z25_n : Nat → TValue → Option Int
 | 0, _ => none
 | n + 1, a0 => Z25_l8 a0 (Z25_n n) (a0.FItems.l.length + 1) (0 : Int) 0
theorem Z25_step (n : Nat) (ih_37 : ∀ {a0 : TValue}   {r : Int}, Z25_n n a0 = some r → ∀ (H : Heap), ACalls Tryz.prog 37 [.agg (TValue.c a0)] H fun v h' => v = .a (.d (.int .i64 r)) ∧ h' = H) : ∀ {a0 : TValue}   {r : Int}, Z25_n (n + 1) a0 = some r → ∀ (H : Heap), ACalls Tryz.prog 37 [.agg (TValue.c a0)] H fun v h' => v = .a (.d (.int .i64 r)) ∧ h' = H := by
 intro a0   r hE H 
 rw [Z25_n] at hE
 refine ACalls.of_wp (fn := Tryz.f37) (c := _) Tryz.tab_ok (fun _ _ => Tryz.call37 _ _) Tryz.func37 rfl (n := 22) rfl (rs := [.tmp 2]) rfl rfl ?_
 refine seqK fun K1 hK1 => ?_
 refine region ?_
 refine s0 (boxV rfl) rfl ?_
 refine s0 assignA rfl ?_
 refine nil ?_
 refine hK1 _ ?_
 clear hK1 K1
 refine seqK fun K2 hK2 => ?_
 refine region ?_
 refine s0 assignA rfl ?_
 refine nil ?_
 refine hK2 _ ?_
 clear hK2 K2
 refine seqJH KeepsT.nil (fun (z : Int) => [(3, .a (.d (.int .i64 z)))]) (fun z => H) (fun z => Z25_j3 z = some r) ?_ ?_
 ·intro K3 hK3
  refine seqK fun K7 hK7 => ?_
  refine region ?_
  refine s0 assignA rfl ?_
  refine nil ?_
  refine hK7 _ ?_
  clear hK7 K7
  refine block ?_
  refine loopH (KeepsT.A (k := 1) KeepsT.nil) (fun (z : Nat × Int × Nat) => [(3, .a (.d (.int .i64 z.2.1))), (4, .a (.d (.int .i64 ((z.2.2 : Nat) : Int))))]) (fun z => H) (fun z => z.1) (fun z => Z25_l8 a0 (Z25_n n) z.1 z.2.1 z.2.2 = some r) ((a0.FItems.l.length + 1), (0 : Int), 0) hE Weak.toA ?_
  rintro ⟨n8, s3_9, s4_10⟩ hE K8 hK8
  try dsimp only at hE
  cases n8 with
  | zero => cases hE
  | succ n8 =>
    rw [Z25_l8] at hE
    refine seqK fun K11 hK11 => ?_
    refine seqK fun K12 hK12 => ?_
    refine region ?_
    refine s0 moveA rfl ?_
    refine s0 (fieldVA (TK rfl) rfl rfl (TK rfl) rfl rfl) rfl ?_
    refine s0 (loadV (TK rfl) rfl rfl (congrArg (fun x => some (A.d x)) (TValue.FItemsD_eq _))) rfl ?_
    refine sLen (f := TValue.c) (s := a0.FItems) (TK rfl) rfl rfl rfl rfl fun hL13 => ?_
    refine s0 (binI rfl rfl rfl) rfl ?_
    refine nil ?_
    refine hK12 _ ?_
    clear hK12 K12
    refine condE hE rfl (fun hc14 hE => ?_) (fun hc14 hE => ?_)
    ·try dsimp only at hc14
     have hf14 := of_decide_eq_true hc14
     refine AWp.skip ?_
     refine hK11 _ ?_
     clear hK11 K11
     refine seqK fun K15 hK15 => ?_
     refine block ?_
     refine region ?_
     refine s0 moveA rfl ?_
     refine s0 (fieldVA (TK rfl) rfl rfl (TK rfl) rfl rfl) rfl ?_
     refine s0 (loadV (TK rfl) rfl rfl (congrArg (fun x => some (A.d x)) (TValue.FItemsD_eq _))) rfl ?_
     refine s0 moveA rfl ?_
     obtain ⟨x16, gx16, hE⟩ := bindO_some hE
     refine s0 (idxMn (f := TValue.c) (n := s4_10) (TK rfl) rfl (TK rfl) rfl rfl rfl gx16) rfl ?_
     refine s0 (loadV (TK rfl) rfl rfl rfl) rfl ?_
     obtain ⟨x17, gx17, hE⟩ := bindO_some hE
     refine s0 (callP rfl rfl (fun H => ih_37 gx17 H)) rfl ?_
     refine s0 (maxM rfl rfl) rfl ?_
     refine s0 assignA rfl ?_
     refine nil ?_
     refine hK15 _ ?_
     clear hK15 K15
     refine region ?_
     refine s0 moveA rfl ?_
     refine s0 (addIA rfl rfl) rfl ?_
     refine s0 assignA rfl ?_
     refine nil ?_
     exact hK8 _ (n8, (if x17 > s3_9 then x17 else s3_9), (s4_10 + 1)) Weak.toA hE (Nat.lt_succ_self _)
    refine AWp.exit ?_
    exact hK3 _ s3_9 Weak.toA hE
 rintro s3_4 hE
 try dsimp only at hE
 unfold Z25_j3 at hE
 refine seqK fun K5 hK5 => ?_
 refine region ?_
 refine s0 moveA rfl ?_
 obtain ⟨x6, gx6, hE⟩ := bindO_some hE
 refine s0 (addM rfl rfl gx6) rfl ?_
 refine s0 assignA rfl ?_
 refine nil ?_
 refine hK5 _ ?_
 clear hK5 K5
 refine AWp.ret ?_
 repeat (first | refine xBlock_ret ?_ | refine xThen_ret ?_)
 obtain rfl := Option.some.inj hE
 refine retQ.retF H rfl ⟨rfl, rfl⟩ ?_
 exact (fun _ _ h => h)
theorem Z25_all : ∀ (n : Nat), (∀ {a0 : TValue}   {r : Int}, Z25_n n a0 = some r → ∀ (H : Heap), ACalls Tryz.prog 37 [.agg (TValue.c a0)] H fun v h' => v = .a (.d (.int .i64 r)) ∧ h' = H)
 | 0 => fun hE => by first | cases hE | (rw [Z25_n] at hE; cases hE)
 | n + 1 => Z25_step n (Z25_all n)
def Z25 (a0 : TValue) : Option Int := Z25_n F0 a0
theorem Z25_walk {a0 : TValue}   {r : Int} (hE : Z25 a0 = some r) (H : Heap)  : ACalls Tryz.prog 37 [.agg (TValue.c a0)] H fun v h' => v = .a (.d (.int .i64 r)) ∧ h' = H := (Z25_all F0) hE H 
def Z24 (a0 : Int) : Option Bool := some ((((decide ((65 : Int) ≤ a0)) && (decide (a0 ≤ (90 : Int)))) || ((decide ((97 : Int) ≤ a0)) && (decide (a0 ≤ (122 : Int))))) || (decide (a0 = (95 : Int))))
theorem Z24_walk {a0 : Int}   {r : Bool} (hE : Z24 a0 = some r) (H : Heap)  : ACalls Tryz.prog 80 [.d (.int .u8 a0)] H fun v h' => v = .a (.d (.bool r)) ∧ h' = H := by
 unfold Z24 at hE
 refine ACalls.of_wp (fn := Tryz.f80) (c := _) Tryz.tab_ok (fun _ _ => Tryz.call80 _ _) Tryz.func80 rfl (n := 21) rfl (rs := [.tmp 2]) rfl rfl ?_
 refine seqK fun K1 hK1 => ?_
 refine region ?_
 refine s0 assignA rfl ?_
 refine nil ?_
 refine hK1 _ ?_
 clear hK1 K1
 refine seqK fun K2 hK2 => ?_
 refine region ?_
 refine s0 moveA rfl ?_
 refine s0 (binI rfl rfl rfl) rfl ?_
 refine s0 moveA rfl ?_
 refine gC rfl rfl (fun hC => moveA) rfl ?_
 refine gC rfl rfl (fun hC => ungdA (k := 6) rfl (binI rfl rfl rfl)) rfl ?_
 refine s0 (pickAndA rfl rfl rfl) rfl ?_
 refine s0 moveA rfl ?_
 refine gC rfl rfl (fun hC => moveA) rfl ?_
 refine gC rfl rfl (fun hC => ungdA (k := 10) rfl (binI rfl rfl rfl)) rfl ?_
 refine gC rfl rfl (fun hC => ungdA (k := 11) rfl moveA) rfl ?_
 refine gC rfl rfl (fun hC => moveA) rfl ?_
 refine gC rfl rfl (fun hC => ungdA (k := 13) rfl (binI rfl rfl rfl)) rfl ?_
 refine gC rfl rfl (fun hC => ungdA (k := 12) rfl (pickAndA rfl rfl rfl)) rfl ?_
 refine s0 (pickOrA rfl rfl rfl) rfl ?_
 refine s0 moveA rfl ?_
 refine gC rfl rfl (fun hC => moveA) rfl ?_
 refine gC rfl rfl (fun hC => ungdA (k := 18) rfl (binI rfl rfl rfl)) rfl ?_
 refine s0 (pickOrA rfl rfl rfl) rfl ?_
 refine s0 assignA rfl ?_
 refine nil ?_
 refine hK2 _ ?_
 clear hK2 K2
 refine AWp.ret ?_
 repeat (first | refine xBlock_ret ?_ | refine xThen_ret ?_)
 obtain rfl := Option.some.inj hE
 refine retQ.retF H rfl ⟨rfl, rfl⟩ ?_
 exact (fun _ _ h => h)
def Z22 (a0 : Int) : Option Bool := some ((decide ((48 : Int) ≤ a0)) && (decide (a0 ≤ (57 : Int))))
theorem Z22_walk {a0 : Int}   {r : Bool} (hE : Z22 a0 = some r) (H : Heap)  : ACalls Tryz.prog 81 [.d (.int .u8 a0)] H fun v h' => v = .a (.d (.bool r)) ∧ h' = H := by
 unfold Z22 at hE
 refine ACalls.of_wp (fn := Tryz.f81) (c := _) Tryz.tab_ok (fun _ _ => Tryz.call81 _ _) Tryz.func81 rfl (n := 9) rfl (rs := [.tmp 2]) rfl rfl ?_
 refine seqK fun K1 hK1 => ?_
 refine region ?_
 refine s0 assignA rfl ?_
 refine nil ?_
 refine hK1 _ ?_
 clear hK1 K1
 refine seqK fun K2 hK2 => ?_
 refine region ?_
 refine s0 moveA rfl ?_
 refine s0 (binI rfl rfl rfl) rfl ?_
 refine s0 moveA rfl ?_
 refine gC rfl rfl (fun hC => moveA) rfl ?_
 refine gC rfl rfl (fun hC => ungdA (k := 6) rfl (binI rfl rfl rfl)) rfl ?_
 refine s0 (pickAndA rfl rfl rfl) rfl ?_
 refine s0 assignA rfl ?_
 refine nil ?_
 refine hK2 _ ?_
 clear hK2 K2
 refine AWp.ret ?_
 repeat (first | refine xBlock_ret ?_ | refine xThen_ret ?_)
 obtain rfl := Option.some.inj hE
 refine retQ.retF H rfl ⟨rfl, rfl⟩ ?_
 exact (fun _ _ h => h)
def Z21_j7   : Option Bool := some true
def Z21_l10 (a0 : Bs)  : Nat → Nat → Option Bool
 | 0, _ => none
 | n10 + 1, s3_11 => bif (decide (((s3_11 : Nat) : Int) < ((a0.length : Nat) : Int))) then ((a0[s3_11]?).bind fun x18 => (Z24 ((x18.toNat : Nat) : Int)).bind fun x19 => guardO (((!x19) && !(decide (((s3_11 : Nat) : Int) = (0 : Int))))) (a0[s3_11]?) (0 : UInt8) fun x20 => guardO (((!x19) && !(decide (((s3_11 : Nat) : Int) = (0 : Int))))) (Z22 ((x20.toNat : Nat) : Int)) false fun x21 => bif ((!x19) && ((decide (((s3_11 : Nat) : Int) = (0 : Int))) || (!x21))) then (some false) else ((Z21_l10 a0 n10) (s3_11 + 1))) else (Z21_j7   )
def Z21 (a0 : Bs) : Option Bool := bif ((decide (((a0.length : Nat) : Int) < (1 : Int))) || (decide ((64 : Int) < ((a0.length : Nat) : Int)))) then (some false) else (Z21_l10 a0 (a0.length + 1) 0)
theorem Z21_walk {a0 : Bs}   {r : Bool} (hE : Z21 a0 = some r) (H : Heap)  : ACalls Tryz.prog 55 [.d (.str a0)] H fun v h' => v = .a (.d (.bool r)) ∧ h' = H := by
 unfold Z21 at hE
 refine ACalls.of_wp (fn := Tryz.f55) (c := _) Tryz.tab_ok (fun _ _ => Tryz.call55 _ _) Tryz.func55 rfl (n := 34) rfl (rs := [.tmp 2]) rfl rfl ?_
 refine seqK fun K1 hK1 => ?_
 refine region ?_
 refine s0 assignA rfl ?_
 refine nil ?_
 refine hK1 _ ?_
 clear hK1 K1
 refine seqK fun K2 hK2 => ?_
 refine seqK fun K3 hK3 => ?_
 refine region ?_
 refine s0 moveA rfl ?_
 refine sLenS (TK rfl) rfl rfl rfl rfl fun hL4 => ?_
 refine s0 (binI rfl rfl rfl) rfl ?_
 refine s0 moveA rfl ?_
 refine gC rfl rfl (fun hC => moveA) rfl ?_
 refine gC rfl rfl (fun hC => ungdA (k := 8) rfl (lenS (TK rfl) rfl rfl rfl)) rfl ?_
 refine gC rfl rfl (fun hC => ungdA (k := 9) rfl (binI rfl rfl rfl)) rfl ?_
 refine s0 (pickOrA rfl rfl rfl) rfl ?_
 refine nil ?_
 refine hK3 _ ?_
 clear hK3 K3
 refine condE hE rfl (fun hc5 hE => ?_) (fun hc5 hE => ?_)
 ·refine seqK fun K6 hK6 => ?_
  refine region ?_
  refine s0 assignA rfl ?_
  refine nil ?_
  refine hK6 _ ?_
  clear hK6 K6
  refine AWp.ret ?_
  repeat (first | refine xBlock_ret ?_ | refine xThen_ret ?_)
  obtain rfl := Option.some.inj hE
  refine retQ.retF H rfl ⟨rfl, rfl⟩ ?_
  exact (fun _ _ h => h)
 refine AWp.skip ?_
 refine hK2 _ ?_
 clear hK2 K2
 refine seqJH KeepsT.nil (fun (z : Unit) => []) (fun z => H) (fun z => Z21_j7  = some r) ?_ ?_
 ·intro K7 hK7
  refine seqK fun K9 hK9 => ?_
  refine region ?_
  refine s0 assignA rfl ?_
  refine nil ?_
  refine hK9 _ ?_
  clear hK9 K9
  refine block ?_
  refine loopH (KeepsT.A (k := 0) KeepsT.nil) (fun (z : Nat × Nat) => [(3, .a (.d (.int .i64 ((z.2 : Nat) : Int))))]) (fun z => H) (fun z => z.1) (fun z => Z21_l10 a0 z.1 z.2 = some r) ((a0.length + 1), 0) hE Weak.toA ?_
  rintro ⟨n10, s3_11⟩ hE K10 hK10
  try dsimp only at hE
  cases n10 with
  | zero => cases hE
  | succ n10 =>
    rw [Z21_l10] at hE
    refine seqK fun K12 hK12 => ?_
    refine seqK fun K13 hK13 => ?_
    refine region ?_
    refine s0 moveA rfl ?_
    refine s0 moveA rfl ?_
    refine sLenS (TK rfl) rfl rfl rfl rfl fun hL14 => ?_
    refine s0 (binI rfl rfl rfl) rfl ?_
    refine nil ?_
    refine hK13 _ ?_
    clear hK13 K13
    refine condE hE rfl (fun hc15 hE => ?_) (fun hc15 hE => ?_)
    ·try dsimp only at hc15
     have hf15 := of_decide_eq_true hc15
     refine AWp.skip ?_
     refine hK12 _ ?_
     clear hK12 K12
     refine seqK fun K16 hK16 => ?_
     refine block ?_
     refine seqK fun K17 hK17 => ?_
     refine region ?_
     refine s0 moveA rfl ?_
     refine s0 moveA rfl ?_
     obtain ⟨x18, gx18, hE⟩ := bindO_some hE
     refine s0 (idxSn (n := s3_11) (TK rfl) rfl rfl rfl gx18) rfl ?_
     obtain ⟨x19, gx19, hE⟩ := bindO_some hE
     refine s0 (callP rfl rfl (fun H => Z24_walk gx19 H)) rfl ?_
     refine s0 (notB rfl) rfl ?_
     refine s0 moveA rfl ?_
     refine gC rfl rfl (fun hC => moveA) rfl ?_
     refine gC rfl rfl (fun hC => ungdA (k := 24) rfl (binI rfl rfl rfl)) rfl ?_
     refine gC rfl rfl (fun hC => ungdA (k := 25) rfl moveA) rfl ?_
     refine gC rfl rfl (fun hC => moveA) rfl ?_
     refine gC rfl rfl (fun hC => moveA) rfl ?_
     obtain ⟨x20, gx20, hE⟩ := guardO_some hE
     refine gC rfl rfl (fun hC => ungdA (k := 27) rfl (ungdA (k := 28) rfl (idxSn (n := s3_11) (TK rfl) rfl rfl rfl (gx20 hC)))) rfl ?_
     obtain ⟨x21, gx21, hE⟩ := guardO_some hE
     refine gC rfl rfl (fun hC => ungdA (k := 29) rfl (callP rfl rfl (fun H => Z22_walk (gx21 hC) H))) rfl ?_
     refine gC rfl rfl (fun hC => ungdA (k := 30) rfl (notB rfl)) rfl ?_
     refine gC rfl rfl (fun hC => ungdA (k := 26) rfl (pickOrA rfl rfl rfl)) rfl ?_
     refine s0 (pickAndA rfl rfl rfl) rfl ?_
     refine nil ?_
     refine hK17 _ ?_
     clear hK17 K17
     refine condE hE rfl (fun hc22 hE => ?_) (fun hc22 hE => ?_)
     ·refine seqK fun K23 hK23 => ?_
      refine region ?_
      refine s0 assignA rfl ?_
      refine nil ?_
      refine hK23 _ ?_
      clear hK23 K23
      refine AWp.ret ?_
      repeat (first | refine xBlock_ret ?_ | refine xThen_ret ?_)
      obtain rfl := Option.some.inj hE
      refine retQ.retF H rfl ⟨rfl, rfl⟩ ?_
      exact (fun _ _ h => h)
     refine AWp.skip ?_
     refine hK16 _ ?_
     clear hK16 K16
     refine region ?_
     refine s0 moveA rfl ?_
     refine s0 (addIA rfl rfl) rfl ?_
     refine s0 assignA rfl ?_
     refine nil ?_
     exact hK10 _ (n10, (s3_11 + 1)) Weak.toA hE (Nat.lt_succ_self _)
    refine AWp.exit ?_
    exact hK7 _ () Weak.toA hE
 rintro _ hE
 try dsimp only at hE
 unfold Z21_j7 at hE
 refine seqK fun K8 hK8 => ?_
 refine region ?_
 refine s0 assignA rfl ?_
 refine nil ?_
 refine hK8 _ ?_
 clear hK8 K8
 refine AWp.ret ?_
 repeat (first | refine xBlock_ret ?_ | refine xThen_ret ?_)
 obtain rfl := Option.some.inj hE
 refine retQ.retF H rfl ⟨rfl, rfl⟩ ?_
 exact (fun _ _ h => h)
def Z32_j2   : Option Bool := some false
def Z32_j11 (s3_6 : Nat) (k_next_5 : Nat → Option Bool)  : Option Bool := k_next_5 (s3_6 + 1)
def Z32_l13 (a0 : (Sl Bs)) (s3_6 : Nat) (k_next_5 : Nat → Option Bool) : Nat → Nat → Option Bool
 | 0, _ => none
 | n13 + 1, s4_14 => bif (decide (((s4_14 : Nat) : Int) < ((s3_6 : Nat) : Int))) then ((a0.l[s3_6]?).bind fun x20 => (a0.l[s4_14]?).bind fun x21 => bif ((x20 == x21)) then (some true) else ((Z32_l13 a0 s3_6 k_next_5 n13) (s4_14 + 1))) else (Z32_j11 s3_6 k_next_5 )
def Z32_l5 (a0 : (Sl Bs))  : Nat → Nat → Option Bool
 | 0, _ => none
 | n5 + 1, s3_6 => bif (decide (((s3_6 : Nat) : Int) < ((a0.l.length : Nat) : Int))) then (Z32_l13 a0 s3_6 ((Z32_l5 a0 n5)) (s3_6 + 1) 0) else (Z32_j2   )
def Z32 (a0 : (Sl Bs)) : Option Bool := Z32_l5 a0 (a0.l.length + 1) 0
theorem Z32_walk {a0 : (Sl Bs)} {w0 : Option Nat}  {r : Bool} (hE : Z32 a0 = some r) (H : Heap)  : ACalls Tryz.prog 104 [.d (Sl.d 1 strE w0 a0)] H fun v h' => v = .a (.d (.bool r)) ∧ h' = H := by
 unfold Z32 at hE
 refine ACalls.of_wp (fn := Tryz.f104) (c := _) Tryz.tab_ok (fun _ _ => Tryz.call104 _ _) Tryz.func104 rfl (n := 25) rfl (rs := [.tmp 2]) rfl rfl ?_
 refine seqK fun K1 hK1 => ?_
 refine region ?_
 refine s0 assignA rfl ?_
 refine nil ?_
 refine hK1 _ ?_
 clear hK1 K1
 refine seqJH KeepsT.nil (fun (z : Unit) => []) (fun z => H) (fun z => Z32_j2  = some r) ?_ ?_
 ·intro K2 hK2
  refine seqK fun K4 hK4 => ?_
  refine region ?_
  refine s0 assignA rfl ?_
  refine nil ?_
  refine hK4 _ ?_
  clear hK4 K4
  refine block ?_
  refine loopH (KeepsT.A (k := 0) KeepsT.nil) (fun (z : Nat × Nat) => [(3, .a (.d (.int .i64 ((z.2 : Nat) : Int))))]) (fun z => H) (fun z => z.1) (fun z => Z32_l5 a0 z.1 z.2 = some r) ((a0.l.length + 1), 0) hE Weak.toA ?_
  rintro ⟨n5, s3_6⟩ hE K5 hK5
  try dsimp only at hE
  cases n5 with
  | zero => cases hE
  | succ n5 =>
    rw [Z32_l5] at hE
    refine seqK fun K7 hK7 => ?_
    refine seqK fun K8 hK8 => ?_
    refine region ?_
    refine s0 moveA rfl ?_
    refine s0 moveA rfl ?_
    refine sLen (f := strE) (s := a0) (TK rfl) rfl rfl rfl rfl fun hL9 => ?_
    refine s0 (binI rfl rfl rfl) rfl ?_
    refine nil ?_
    refine hK8 _ ?_
    clear hK8 K8
    refine condE hE rfl (fun hc10 hE => ?_) (fun hc10 hE => ?_)
    ·try dsimp only at hc10
     have hf10 := of_decide_eq_true hc10
     refine AWp.skip ?_
     refine hK7 _ ?_
     clear hK7 K7
     refine seqJH (KeepsT.A (k := 0) (KeepsT.A (k := 3) KeepsT.nil)) (fun (z : Unit) => []) (fun z => H) (fun z => Z32_j11 s3_6 ((Z32_l5 a0 n5))  = some r) ?_ ?_
     ·intro K11 hK11
      refine block ?_
      refine seqK fun K12 hK12 => ?_
      refine region ?_
      refine s0 assignA rfl ?_
      refine nil ?_
      refine hK12 _ ?_
      clear hK12 K12
      refine block ?_
      refine loopH (KeepsT.A (k := 0) (KeepsT.A (k := 3) KeepsT.nil)) (fun (z : Nat × Nat) => [(4, .a (.d (.int .i64 ((z.2 : Nat) : Int))))]) (fun z => H) (fun z => z.1) (fun z => Z32_l13 a0 s3_6 ((Z32_l5 a0 n5)) z.1 z.2 = some r) ((s3_6 + 1), 0) hE Weak.toA ?_
      rintro ⟨n13, s4_14⟩ hE K13 hK13
      try dsimp only at hE
      cases n13 with
      | zero => cases hE
      | succ n13 =>
        rw [Z32_l13] at hE
        refine seqK fun K15 hK15 => ?_
        refine seqK fun K16 hK16 => ?_
        refine region ?_
        refine s0 moveA rfl ?_
        refine s0 moveA rfl ?_
        refine s0 (binI rfl rfl rfl) rfl ?_
        refine nil ?_
        refine hK16 _ ?_
        clear hK16 K16
        refine condE hE rfl (fun hc17 hE => ?_) (fun hc17 hE => ?_)
        ·try dsimp only at hc17
         have hf17 := of_decide_eq_true hc17
         refine AWp.skip ?_
         refine hK15 _ ?_
         clear hK15 K15
         refine seqK fun K18 hK18 => ?_
         refine block ?_
         refine seqK fun K19 hK19 => ?_
         refine AWp.draw rfl ?_
         refine DOps.s0 moveA rfl ?_
         refine DOps.s0 moveA rfl ?_
         obtain ⟨x20, gx20, hE⟩ := bindO_some hE
         refine DOps.s0 (idxMn (f := strE) (n := s3_6) (TK rfl) rfl (TK rfl) rfl rfl rfl gx20) rfl ?_
         refine DOps.s0 (loadV (TK rfl) rfl rfl rfl) rfl ?_
         refine DOps.s0 moveA rfl ?_
         refine DOps.s0 moveA rfl ?_
         obtain ⟨x21, gx21, hE⟩ := bindO_some hE
         refine DOps.s0 (idxMn (f := strE) (n := s4_14) (TK rfl) rfl (TK rfl) rfl rfl rfl gx21) rfl ?_
         refine DOps.s0 (loadV (TK rfl) rfl rfl rfl) rfl ?_
         refine DOps.s0 (binS rfl rfl rfl) rfl ?_
         refine DOps.nil (by decide +kernel) ?_
         refine hK19 _ ?_
         clear hK19 K19
         refine condE hE rfl (fun hc22 hE => ?_) (fun hc22 hE => ?_)
         ·refine seqK fun K23 hK23 => ?_
          refine region ?_
          refine s0 assignA rfl ?_
          refine nil ?_
          refine hK23 _ ?_
          clear hK23 K23
          refine AWp.ret ?_
          repeat (first | refine xBlock_ret ?_ | refine xThen_ret ?_)
          obtain rfl := Option.some.inj hE
          refine retQ.retF H rfl ⟨rfl, rfl⟩ ?_
          exact (fun _ _ h => h)
         refine AWp.skip ?_
         refine hK18 _ ?_
         clear hK18 K18
         refine region ?_
         refine s0 moveA rfl ?_
         refine s0 (addIA rfl rfl) rfl ?_
         refine s0 assignA rfl ?_
         refine nil ?_
         exact hK13 _ (n13, (s4_14 + 1)) Weak.toA hE (Nat.lt_succ_self _)
        refine AWp.exit ?_
        exact hK11 _ () Weak.toA hE
     rintro _ hE
     try dsimp only at hE
     unfold Z32_j11 at hE
     refine region ?_
     refine s0 moveA rfl ?_
     refine s0 (addIA rfl rfl) rfl ?_
     refine s0 assignA rfl ?_
     refine nil ?_
     exact hK5 _ (n5, (s3_6 + 1)) Weak.toA hE (Nat.lt_succ_self _)
    refine AWp.exit ?_
    exact hK2 _ () Weak.toA hE
 rintro _ hE
 try dsimp only at hE
 unfold Z32_j2 at hE
 refine seqK fun K3 hK3 => ?_
 refine region ?_
 refine s0 assignA rfl ?_
 refine nil ?_
 refine hK3 _ ?_
 clear hK3 K3
 refine AWp.ret ?_
 repeat (first | refine xBlock_ret ?_ | refine xThen_ret ?_)
 obtain rfl := Option.some.inj hE
 refine retQ.retF H rfl ⟨rfl, rfl⟩ ?_
 exact (fun _ _ h => h)
end Go.Proofs

namespace Go.Proofs
open Go Go.Ab
open AOps Cert AWp
def Z31 (a0 : TValue) (a1 : Bool) : Option Bool := bif (decide (a0.FKind = (0 : Int))) then (some ((((decide (a0.FInt = (0 : Int))) && ((a0.FText == ([] : Bs)))) && (decide (((a0.FItems.l.length : Nat) : Int) = (0 : Int)))) && (decide (((a0.FKeys.l.length : Nat) : Int) = (0 : Int))))) else (bif (decide (a0.FKind = (1 : Int))) then (some (((((decide (a0.FInt = (0 : Int))) || (decide (a0.FInt = (1 : Int)))) && ((a0.FText == ([] : Bs)))) && (decide (((a0.FItems.l.length : Nat) : Int) = (0 : Int)))) && (decide (((a0.FKeys.l.length : Nat) : Int) = (0 : Int))))) else (bif (decide (a0.FKind = (2 : Int))) then (some ((((a0.FText == ([] : Bs))) && (decide (((a0.FItems.l.length : Nat) : Int) = (0 : Int)))) && (decide (((a0.FKeys.l.length : Nat) : Int) = (0 : Int))))) else (bif (decide (a0.FKind = (3 : Int))) then (some (((decide (a0.FInt = (0 : Int))) && (decide (((a0.FItems.l.length : Nat) : Int) = (0 : Int)))) && (decide (((a0.FKeys.l.length : Nat) : Int) = (0 : Int))))) else (bif (decide (a0.FKind = (4 : Int))) then (guardO ((((decide (a0.FInt = (0 : Int))) && (decide (((a0.FItems.l.length : Nat) : Int) = (0 : Int)))) && (decide (((a0.FKeys.l.length : Nat) : Int) = (0 : Int))))) (Z21 a0.FText) false fun x19 => some (((((((decide (a0.FInt = (0 : Int))) && (decide (((a0.FItems.l.length : Nat) : Int) = (0 : Int)))) && (decide (((a0.FKeys.l.length : Nat) : Int) = (0 : Int)))) && x19) && (!(a0.FText == ([116, 114, 117, 101] : Bs)))) && (!(a0.FText == ([102, 97, 108, 115, 101] : Bs)))) && (!(a0.FText == ([110, 117, 108, 108] : Bs))))) else (bif (decide (a0.FKind = (5 : Int))) then (some (((decide (a0.FInt = (0 : Int))) && ((a0.FText == ([] : Bs)))) && (decide (((a0.FKeys.l.length : Nat) : Int) = (0 : Int))))) else (bif (decide (a0.FKind = (6 : Int))) then (guardO ((((decide (a0.FInt = (0 : Int))) && ((a0.FText == ([] : Bs)))) && (decide (((a0.FKeys.l.length : Nat) : Int) = ((a0.FItems.l.length : Nat) : Int))))) (Z32 a0.FKeys) false fun x26 => some ((((decide (a0.FInt = (0 : Int))) && ((a0.FText == ([] : Bs)))) && (decide (((a0.FKeys.l.length : Nat) : Int) = ((a0.FItems.l.length : Nat) : Int)))) && (!x26))) else (bif (decide (a0.FKind = (7 : Int))) then (guardO ((((a1 && (decide (a0.FInt = (0 : Int)))) && (decide (((a0.FItems.l.length : Nat) : Int) = (0 : Int)))) && (decide (((a0.FKeys.l.length : Nat) : Int) = (0 : Int))))) (Z21 a0.FText) false fun x30 => some ((((a1 && (decide (a0.FInt = (0 : Int)))) && (decide (((a0.FItems.l.length : Nat) : Int) = (0 : Int)))) && (decide (((a0.FKeys.l.length : Nat) : Int) = (0 : Int)))) && x30)) else (some false))))))))
theorem Z31_walk {a0 : TValue} {a1 : Bool}   {r : Bool} (hE : Z31 a0 a1 = some r) (H : Heap)  : ACalls Tryz.prog 72 [.agg (TValue.c a0), .d (.bool a1)] H fun v h' => v = .a (.d (.bool r)) ∧ h' = H := by
 unfold Z31 at hE
 refine ACalls.of_wp (fn := Tryz.f72) (c := _) Tryz.tab_ok (fun _ _ => Tryz.call72 _ _) Tryz.func72 rfl (n := 193) rfl (rs := [.tmp 4]) rfl rfl ?_
 refine seqK fun K1 hK1 => ?_
 refine region ?_
 refine s0 (boxV rfl) rfl ?_
 refine s0 assignA rfl ?_
 refine nil ?_
 refine hK1 _ ?_
 clear hK1 K1
 refine seqK fun K2 hK2 => ?_
 refine seqK fun K3 hK3 => ?_
 refine region ?_
 refine s0 (fieldVA (TK rfl) rfl rfl (TK rfl) rfl rfl) rfl ?_
 refine s0 (loadV (TK rfl) rfl rfl rfl) rfl ?_
 refine nil ?_
 refine hK3 _ ?_
 clear hK3 K3
 refine block ?_
 refine seqK fun K4 hK4 => ?_
 refine region ?_
 refine s0 (binI rfl rfl rfl) rfl ?_
 refine s0 assignA rfl ?_
 refine nil ?_
 refine hK4 _ ?_
 clear hK4 K4
 refine condE hE rfl (fun hc5 hE => ?_) (fun hc5 hE => ?_)
 ·refine seqK fun K6 hK6 => ?_
  refine region ?_
  refine s0 (fieldVA (TK rfl) rfl rfl (TK rfl) rfl rfl) rfl ?_
  refine s0 (loadV (TK rfl) rfl rfl rfl) rfl ?_
  refine s0 (binI rfl rfl rfl) rfl ?_
  refine s0 moveA rfl ?_
  refine gC rfl rfl (fun hC => fieldVA (TK rfl) rfl rfl (TK rfl) rfl rfl) rfl ?_
  refine gC rfl rfl (fun hC => ungdA (k := 13) rfl (loadV (TK rfl) rfl rfl rfl)) rfl ?_
  refine gC rfl rfl (fun hC => ungdA (k := 14) rfl (binS rfl rfl rfl)) rfl ?_
  refine s0 (pickAndA rfl rfl rfl) rfl ?_
  refine s0 moveA rfl ?_
  refine gC rfl rfl (fun hC => fieldVA (TK rfl) rfl rfl (TK rfl) rfl rfl) rfl ?_
  refine gC rfl rfl (fun hC => ungdA (k := 18) rfl (loadV (TK rfl) rfl rfl (congrArg (fun x => some (A.d x)) (TValue.FItemsD_eq _)))) rfl ?_
  refine gC rfl rfl (fun hC => ungdA (k := 19) rfl (lenM' (f := TValue.c) (s := a0.FItems) (TK rfl) rfl rfl rfl)) rfl ?_
  refine gC rfl rfl (fun hC => ungdA (k := 20) rfl (binI rfl rfl rfl)) rfl ?_
  refine s0 (pickAndA rfl rfl rfl) rfl ?_
  refine s0 moveA rfl ?_
  refine gC rfl rfl (fun hC => fieldVA (TK rfl) rfl rfl (TK rfl) rfl rfl) rfl ?_
  refine gC rfl rfl (fun hC => ungdA (k := 24) rfl (loadV (TK rfl) rfl rfl rfl)) rfl ?_
  refine gC rfl rfl (fun hC => ungdA (k := 25) rfl (lenM' (f := strE) (s := a0.FKeys) (TK rfl) rfl rfl rfl)) rfl ?_
  refine gC rfl rfl (fun hC => ungdA (k := 26) rfl (binI rfl rfl rfl)) rfl ?_
  refine s0 (pickAndA rfl rfl rfl) rfl ?_
  refine s0 assignA rfl ?_
  refine nil ?_
  refine hK6 _ ?_
  clear hK6 K6
  refine AWp.ret ?_
  repeat (first | refine xBlock_ret ?_ | refine xThen_ret ?_)
  obtain rfl := Option.some.inj hE
  refine retQ.retF H rfl ⟨rfl, rfl⟩ ?_
  exact (fun _ _ h => h)
 refine seqK fun K7 hK7 => ?_
 refine region ?_
 refine s0 (binI rfl rfl rfl) rfl ?_
 refine s0 assignA rfl ?_
 refine nil ?_
 refine hK7 _ ?_
 clear hK7 K7
 refine condE hE rfl (fun hc8 hE => ?_) (fun hc8 hE => ?_)
 ·refine seqK fun K9 hK9 => ?_
  refine region ?_
  refine s0 (fieldVA (TK rfl) rfl rfl (TK rfl) rfl rfl) rfl ?_
  refine s0 (loadV (TK rfl) rfl rfl rfl) rfl ?_
  refine s0 (binI rfl rfl rfl) rfl ?_
  refine s0 moveA rfl ?_
  refine gC rfl rfl (fun hC => fieldVA (TK rfl) rfl rfl (TK rfl) rfl rfl) rfl ?_
  refine gC rfl rfl (fun hC => ungdA (k := 35) rfl (loadV (TK rfl) rfl rfl rfl)) rfl ?_
  refine gC rfl rfl (fun hC => ungdA (k := 36) rfl (binI rfl rfl rfl)) rfl ?_
  refine s0 (pickOrA rfl rfl rfl) rfl ?_
  refine s0 moveA rfl ?_
  refine gC rfl rfl (fun hC => fieldVA (TK rfl) rfl rfl (TK rfl) rfl rfl) rfl ?_
  refine gC rfl rfl (fun hC => ungdA (k := 40) rfl (loadV (TK rfl) rfl rfl rfl)) rfl ?_
  refine gC rfl rfl (fun hC => ungdA (k := 41) rfl (binS rfl rfl rfl)) rfl ?_
  refine s0 (pickAndA rfl rfl rfl) rfl ?_
  refine s0 moveA rfl ?_
  refine gC rfl rfl (fun hC => fieldVA (TK rfl) rfl rfl (TK rfl) rfl rfl) rfl ?_
  refine gC rfl rfl (fun hC => ungdA (k := 45) rfl (loadV (TK rfl) rfl rfl (congrArg (fun x => some (A.d x)) (TValue.FItemsD_eq _)))) rfl ?_
  refine gC rfl rfl (fun hC => ungdA (k := 46) rfl (lenM' (f := TValue.c) (s := a0.FItems) (TK rfl) rfl rfl rfl)) rfl ?_
  refine gC rfl rfl (fun hC => ungdA (k := 47) rfl (binI rfl rfl rfl)) rfl ?_
  refine s0 (pickAndA rfl rfl rfl) rfl ?_
  refine s0 moveA rfl ?_
  refine gC rfl rfl (fun hC => fieldVA (TK rfl) rfl rfl (TK rfl) rfl rfl) rfl ?_
  refine gC rfl rfl (fun hC => ungdA (k := 51) rfl (loadV (TK rfl) rfl rfl rfl)) rfl ?_
  refine gC rfl rfl (fun hC => ungdA (k := 52) rfl (lenM' (f := strE) (s := a0.FKeys) (TK rfl) rfl rfl rfl)) rfl ?_
  refine gC rfl rfl (fun hC => ungdA (k := 53) rfl (binI rfl rfl rfl)) rfl ?_
  refine s0 (pickAndA rfl rfl rfl) rfl ?_
  refine s0 assignA rfl ?_
  refine nil ?_
  refine hK9 _ ?_
  clear hK9 K9
  refine AWp.ret ?_
  repeat (first | refine xBlock_ret ?_ | refine xThen_ret ?_)
  obtain rfl := Option.some.inj hE
  refine retQ.retF H rfl ⟨rfl, rfl⟩ ?_
  exact (fun _ _ h => h)
 refine seqK fun K10 hK10 => ?_
 refine region ?_
 refine s0 (binI rfl rfl rfl) rfl ?_
 refine s0 assignA rfl ?_
 refine nil ?_
 refine hK10 _ ?_
 clear hK10 K10
 refine condE hE rfl (fun hc11 hE => ?_) (fun hc11 hE => ?_)
 ·refine seqK fun K12 hK12 => ?_
  refine region ?_
  refine s0 (fieldVA (TK rfl) rfl rfl (TK rfl) rfl rfl) rfl ?_
  refine s0 (loadV (TK rfl) rfl rfl rfl) rfl ?_
  refine s0 (binS rfl rfl rfl) rfl ?_
  refine s0 moveA rfl ?_
  refine gC rfl rfl (fun hC => fieldVA (TK rfl) rfl rfl (TK rfl) rfl rfl) rfl ?_
  refine gC rfl rfl (fun hC => ungdA (k := 62) rfl (loadV (TK rfl) rfl rfl (congrArg (fun x => some (A.d x)) (TValue.FItemsD_eq _)))) rfl ?_
  refine gC rfl rfl (fun hC => ungdA (k := 63) rfl (lenM' (f := TValue.c) (s := a0.FItems) (TK rfl) rfl rfl rfl)) rfl ?_
  refine gC rfl rfl (fun hC => ungdA (k := 64) rfl (binI rfl rfl rfl)) rfl ?_
  refine s0 (pickAndA rfl rfl rfl) rfl ?_
  refine s0 moveA rfl ?_
  refine gC rfl rfl (fun hC => fieldVA (TK rfl) rfl rfl (TK rfl) rfl rfl) rfl ?_
  refine gC rfl rfl (fun hC => ungdA (k := 68) rfl (loadV (TK rfl) rfl rfl rfl)) rfl ?_
  refine gC rfl rfl (fun hC => ungdA (k := 69) rfl (lenM' (f := strE) (s := a0.FKeys) (TK rfl) rfl rfl rfl)) rfl ?_
  refine gC rfl rfl (fun hC => ungdA (k := 70) rfl (binI rfl rfl rfl)) rfl ?_
  refine s0 (pickAndA rfl rfl rfl) rfl ?_
  refine s0 assignA rfl ?_
  refine nil ?_
  refine hK12 _ ?_
  clear hK12 K12
  refine AWp.ret ?_
  repeat (first | refine xBlock_ret ?_ | refine xThen_ret ?_)
  obtain rfl := Option.some.inj hE
  refine retQ.retF H rfl ⟨rfl, rfl⟩ ?_
  exact (fun _ _ h => h)
 refine seqK fun K13 hK13 => ?_
 refine region ?_
 refine s0 (binI rfl rfl rfl) rfl ?_
 refine s0 assignA rfl ?_
 refine nil ?_
 refine hK13 _ ?_
 clear hK13 K13
 refine condE hE rfl (fun hc14 hE => ?_) (fun hc14 hE => ?_)
 ·refine seqK fun K15 hK15 => ?_
  refine region ?_
  refine s0 (fieldVA (TK rfl) rfl rfl (TK rfl) rfl rfl) rfl ?_
  refine s0 (loadV (TK rfl) rfl rfl rfl) rfl ?_
  refine s0 (binI rfl rfl rfl) rfl ?_
  refine s0 moveA rfl ?_
  refine gC rfl rfl (fun hC => fieldVA (TK rfl) rfl rfl (TK rfl) rfl rfl) rfl ?_
  refine gC rfl rfl (fun hC => ungdA (k := 79) rfl (loadV (TK rfl) rfl rfl (congrArg (fun x => some (A.d x)) (TValue.FItemsD_eq _)))) rfl ?_
  refine gC rfl rfl (fun hC => ungdA (k := 80) rfl (lenM' (f := TValue.c) (s := a0.FItems) (TK rfl) rfl rfl rfl)) rfl ?_
  refine gC rfl rfl (fun hC => ungdA (k := 81) rfl (binI rfl rfl rfl)) rfl ?_
  refine s0 (pickAndA rfl rfl rfl) rfl ?_
  refine s0 moveA rfl ?_
  refine gC rfl rfl (fun hC => fieldVA (TK rfl) rfl rfl (TK rfl) rfl rfl) rfl ?_
  refine gC rfl rfl (fun hC => ungdA (k := 85) rfl (loadV (TK rfl) rfl rfl rfl)) rfl ?_
  refine gC rfl rfl (fun hC => ungdA (k := 86) rfl (lenM' (f := strE) (s := a0.FKeys) (TK rfl) rfl rfl rfl)) rfl ?_
  refine gC rfl rfl (fun hC => ungdA (k := 87) rfl (binI rfl rfl rfl)) rfl ?_
  refine s0 (pickAndA rfl rfl rfl) rfl ?_
  refine s0 assignA rfl ?_
  refine nil ?_
  refine hK15 _ ?_
  clear hK15 K15
  refine AWp.ret ?_
  repeat (first | refine xBlock_ret ?_ | refine xThen_ret ?_)
  obtain rfl := Option.some.inj hE
  refine retQ.retF H rfl ⟨rfl, rfl⟩ ?_
  exact (fun _ _ h => h)
 refine seqK fun K16 hK16 => ?_
 refine region ?_
 refine s0 (binI rfl rfl rfl) rfl ?_
 refine s0 assignA rfl ?_
 refine nil ?_
 refine hK16 _ ?_
 clear hK16 K16
 refine condE hE rfl (fun hc17 hE => ?_) (fun hc17 hE => ?_)
 ·refine seqK fun K18 hK18 => ?_
  refine region ?_
  refine s0 (fieldVA (TK rfl) rfl rfl (TK rfl) rfl rfl) rfl ?_
  refine s0 (loadV (TK rfl) rfl rfl rfl) rfl ?_
  refine s0 (binI rfl rfl rfl) rfl ?_
  refine s0 moveA rfl ?_
  refine gC rfl rfl (fun hC => fieldVA (TK rfl) rfl rfl (TK rfl) rfl rfl) rfl ?_
  refine gC rfl rfl (fun hC => ungdA (k := 96) rfl (loadV (TK rfl) rfl rfl (congrArg (fun x => some (A.d x)) (TValue.FItemsD_eq _)))) rfl ?_
  refine gC rfl rfl (fun hC => ungdA (k := 97) rfl (lenM' (f := TValue.c) (s := a0.FItems) (TK rfl) rfl rfl rfl)) rfl ?_
  refine gC rfl rfl (fun hC => ungdA (k := 98) rfl (binI rfl rfl rfl)) rfl ?_
  refine s0 (pickAndA rfl rfl rfl) rfl ?_
  refine s0 moveA rfl ?_
  refine gC rfl rfl (fun hC => fieldVA (TK rfl) rfl rfl (TK rfl) rfl rfl) rfl ?_
  refine gC rfl rfl (fun hC => ungdA (k := 102) rfl (loadV (TK rfl) rfl rfl rfl)) rfl ?_
  refine gC rfl rfl (fun hC => ungdA (k := 103) rfl (lenM' (f := strE) (s := a0.FKeys) (TK rfl) rfl rfl rfl)) rfl ?_
  refine gC rfl rfl (fun hC => ungdA (k := 104) rfl (binI rfl rfl rfl)) rfl ?_
  refine s0 (pickAndA rfl rfl rfl) rfl ?_
  refine s0 moveA rfl ?_
  refine gC rfl rfl (fun hC => fieldVA (TK rfl) rfl rfl (TK rfl) rfl rfl) rfl ?_
  refine gC rfl rfl (fun hC => ungdA (k := 108) rfl (loadV (TK rfl) rfl rfl rfl)) rfl ?_
  obtain ⟨x19, gx19, hE⟩ := guardO_some hE
  refine gC rfl rfl (fun hC => ungdA (k := 109) rfl (callP rfl rfl (fun H => Z21_walk (gx19 hC) H))) rfl ?_
  refine s0 (pickAndA rfl rfl rfl) rfl ?_
  refine s0 moveA rfl ?_
  refine gC rfl rfl (fun hC => fieldVA (TK rfl) rfl rfl (TK rfl) rfl rfl) rfl ?_
  refine gC rfl rfl (fun hC => ungdA (k := 113) rfl (loadV (TK rfl) rfl rfl rfl)) rfl ?_
  refine gC rfl rfl (fun hC => ungdA (k := 114) rfl (binS rfl rfl rfl)) rfl ?_
  refine s0 (pickAndA rfl rfl rfl) rfl ?_
  refine s0 moveA rfl ?_
  refine gC rfl rfl (fun hC => fieldVA (TK rfl) rfl rfl (TK rfl) rfl rfl) rfl ?_
  refine gC rfl rfl (fun hC => ungdA (k := 118) rfl (loadV (TK rfl) rfl rfl rfl)) rfl ?_
  refine gC rfl rfl (fun hC => ungdA (k := 119) rfl (binS rfl rfl rfl)) rfl ?_
  refine s0 (pickAndA rfl rfl rfl) rfl ?_
  refine s0 moveA rfl ?_
  refine gC rfl rfl (fun hC => fieldVA (TK rfl) rfl rfl (TK rfl) rfl rfl) rfl ?_
  refine gC rfl rfl (fun hC => ungdA (k := 123) rfl (loadV (TK rfl) rfl rfl rfl)) rfl ?_
  refine gC rfl rfl (fun hC => ungdA (k := 124) rfl (binS rfl rfl rfl)) rfl ?_
  refine s0 (pickAndA rfl rfl rfl) rfl ?_
  refine s0 assignA rfl ?_
  refine nil ?_
  refine hK18 _ ?_
  clear hK18 K18
  refine AWp.ret ?_
  repeat (first | refine xBlock_ret ?_ | refine xThen_ret ?_)
  obtain rfl := Option.some.inj hE
  refine retQ.retF H rfl ⟨rfl, rfl⟩ ?_
  exact (fun _ _ h => h)
 refine seqK fun K20 hK20 => ?_
 refine region ?_
 refine s0 (binI rfl rfl rfl) rfl ?_
 refine s0 assignA rfl ?_
 refine nil ?_
 refine hK20 _ ?_
 clear hK20 K20
 refine condE hE rfl (fun hc21 hE => ?_) (fun hc21 hE => ?_)
 ·refine seqK fun K22 hK22 => ?_
  refine region ?_
  refine s0 (fieldVA (TK rfl) rfl rfl (TK rfl) rfl rfl) rfl ?_
  refine s0 (loadV (TK rfl) rfl rfl rfl) rfl ?_
  refine s0 (binI rfl rfl rfl) rfl ?_
  refine s0 moveA rfl ?_
  refine gC rfl rfl (fun hC => fieldVA (TK rfl) rfl rfl (TK rfl) rfl rfl) rfl ?_
  refine gC rfl rfl (fun hC => ungdA (k := 133) rfl (loadV (TK rfl) rfl rfl rfl)) rfl ?_
  refine gC rfl rfl (fun hC => ungdA (k := 134) rfl (binS rfl rfl rfl)) rfl ?_
  refine s0 (pickAndA rfl rfl rfl) rfl ?_
  refine s0 moveA rfl ?_
  refine gC rfl rfl (fun hC => fieldVA (TK rfl) rfl rfl (TK rfl) rfl rfl) rfl ?_
  refine gC rfl rfl (fun hC => ungdA (k := 138) rfl (loadV (TK rfl) rfl rfl rfl)) rfl ?_
  refine gC rfl rfl (fun hC => ungdA (k := 139) rfl (lenM' (f := strE) (s := a0.FKeys) (TK rfl) rfl rfl rfl)) rfl ?_
  refine gC rfl rfl (fun hC => ungdA (k := 140) rfl (binI rfl rfl rfl)) rfl ?_
  refine s0 (pickAndA rfl rfl rfl) rfl ?_
  refine s0 assignA rfl ?_
  refine nil ?_
  refine hK22 _ ?_
  clear hK22 K22
  refine AWp.ret ?_
  repeat (first | refine xBlock_ret ?_ | refine xThen_ret ?_)
  obtain rfl := Option.some.inj hE
  refine retQ.retF H rfl ⟨rfl, rfl⟩ ?_
  exact (fun _ _ h => h)
 refine seqK fun K23 hK23 => ?_
 refine region ?_
 refine s0 (binI rfl rfl rfl) rfl ?_
 refine s0 assignA rfl ?_
 refine nil ?_
 refine hK23 _ ?_
 clear hK23 K23
 refine condE hE rfl (fun hc24 hE => ?_) (fun hc24 hE => ?_)
 ·refine seqK fun K25 hK25 => ?_
  refine region ?_
  refine s0 (fieldVA (TK rfl) rfl rfl (TK rfl) rfl rfl) rfl ?_
  refine s0 (loadV (TK rfl) rfl rfl rfl) rfl ?_
  refine s0 (binI rfl rfl rfl) rfl ?_
  refine s0 moveA rfl ?_
  refine gC rfl rfl (fun hC => fieldVA (TK rfl) rfl rfl (TK rfl) rfl rfl) rfl ?_
  refine gC rfl rfl (fun hC => ungdA (k := 149) rfl (loadV (TK rfl) rfl rfl rfl)) rfl ?_
  refine gC rfl rfl (fun hC => ungdA (k := 150) rfl (binS rfl rfl rfl)) rfl ?_
  refine s0 (pickAndA rfl rfl rfl) rfl ?_
  refine s0 moveA rfl ?_
  refine gC rfl rfl (fun hC => fieldVA (TK rfl) rfl rfl (TK rfl) rfl rfl) rfl ?_
  refine gC rfl rfl (fun hC => ungdA (k := 154) rfl (loadV (TK rfl) rfl rfl rfl)) rfl ?_
  refine gC rfl rfl (fun hC => ungdA (k := 155) rfl (lenM' (f := strE) (s := a0.FKeys) (TK rfl) rfl rfl rfl)) rfl ?_
  refine gC rfl rfl (fun hC => fieldVA (TK rfl) rfl rfl (TK rfl) rfl rfl) rfl ?_
  refine gC rfl rfl (fun hC => ungdA (k := 157) rfl (loadV (TK rfl) rfl rfl (congrArg (fun x => some (A.d x)) (TValue.FItemsD_eq _)))) rfl ?_
  refine gC rfl rfl (fun hC => ungdA (k := 158) rfl (lenM' (f := TValue.c) (s := a0.FItems) (TK rfl) rfl rfl rfl)) rfl ?_
  refine gC rfl rfl (fun hC => ungdA (k := 156) rfl (ungdA (k := 159) rfl (binI rfl rfl rfl))) rfl ?_
  refine s0 (pickAndA rfl rfl rfl) rfl ?_
  refine s0 moveA rfl ?_
  refine gC rfl rfl (fun hC => fieldVA (TK rfl) rfl rfl (TK rfl) rfl rfl) rfl ?_
  refine gC rfl rfl (fun hC => ungdA (k := 163) rfl (loadV (TK rfl) rfl rfl rfl)) rfl ?_
  obtain ⟨x26, gx26, hE⟩ := guardO_some hE
  refine gC rfl rfl (fun hC => ungdA (k := 164) rfl (callP rfl rfl (fun H => Z32_walk (gx26 hC) H))) rfl ?_
  refine gC rfl rfl (fun hC => ungdA (k := 165) rfl (notB rfl)) rfl ?_
  refine s0 (pickAndA rfl rfl rfl) rfl ?_
  refine s0 assignA rfl ?_
  refine nil ?_
  refine hK25 _ ?_
  clear hK25 K25
  refine AWp.ret ?_
  repeat (first | refine xBlock_ret ?_ | refine xThen_ret ?_)
  obtain rfl := Option.some.inj hE
  refine retQ.retF H rfl ⟨rfl, rfl⟩ ?_
  exact (fun _ _ h => h)
 refine seqK fun K27 hK27 => ?_
 refine region ?_
 refine s0 (binI rfl rfl rfl) rfl ?_
 refine s0 assignA rfl ?_
 refine nil ?_
 refine hK27 _ ?_
 clear hK27 K27
 refine condE hE rfl (fun hc28 hE => ?_) (fun hc28 hE => ?_)
 ·refine seqK fun K29 hK29 => ?_
  refine region ?_
  refine s0 moveA rfl ?_
  refine s0 moveA rfl ?_
  refine gC rfl rfl (fun hC => fieldVA (TK rfl) rfl rfl (TK rfl) rfl rfl) rfl ?_
  refine gC rfl rfl (fun hC => ungdA (k := 172) rfl (loadV (TK rfl) rfl rfl rfl)) rfl ?_
  refine gC rfl rfl (fun hC => ungdA (k := 173) rfl (binI rfl rfl rfl)) rfl ?_
  refine s0 (pickAndA rfl rfl rfl) rfl ?_
  refine s0 moveA rfl ?_
  refine gC rfl rfl (fun hC => fieldVA (TK rfl) rfl rfl (TK rfl) rfl rfl) rfl ?_
  refine gC rfl rfl (fun hC => ungdA (k := 177) rfl (loadV (TK rfl) rfl rfl (congrArg (fun x => some (A.d x)) (TValue.FItemsD_eq _)))) rfl ?_
  refine gC rfl rfl (fun hC => ungdA (k := 178) rfl (lenM' (f := TValue.c) (s := a0.FItems) (TK rfl) rfl rfl rfl)) rfl ?_
  refine gC rfl rfl (fun hC => ungdA (k := 179) rfl (binI rfl rfl rfl)) rfl ?_
  refine s0 (pickAndA rfl rfl rfl) rfl ?_
  refine s0 moveA rfl ?_
  refine gC rfl rfl (fun hC => fieldVA (TK rfl) rfl rfl (TK rfl) rfl rfl) rfl ?_
  refine gC rfl rfl (fun hC => ungdA (k := 183) rfl (loadV (TK rfl) rfl rfl rfl)) rfl ?_
  refine gC rfl rfl (fun hC => ungdA (k := 184) rfl (lenM' (f := strE) (s := a0.FKeys) (TK rfl) rfl rfl rfl)) rfl ?_
  refine gC rfl rfl (fun hC => ungdA (k := 185) rfl (binI rfl rfl rfl)) rfl ?_
  refine s0 (pickAndA rfl rfl rfl) rfl ?_
  refine s0 moveA rfl ?_
  refine gC rfl rfl (fun hC => fieldVA (TK rfl) rfl rfl (TK rfl) rfl rfl) rfl ?_
  refine gC rfl rfl (fun hC => ungdA (k := 189) rfl (loadV (TK rfl) rfl rfl rfl)) rfl ?_
  obtain ⟨x30, gx30, hE⟩ := guardO_some hE
  refine gC rfl rfl (fun hC => ungdA (k := 190) rfl (callP rfl rfl (fun H => Z21_walk (gx30 hC) H))) rfl ?_
  refine s0 (pickAndA rfl rfl rfl) rfl ?_
  refine s0 assignA rfl ?_
  refine nil ?_
  refine hK29 _ ?_
  clear hK29 K29
  refine AWp.ret ?_
  repeat (first | refine xBlock_ret ?_ | refine xThen_ret ?_)
  obtain rfl := Option.some.inj hE
  refine retQ.retF H rfl ⟨rfl, rfl⟩ ?_
  exact (fun _ _ h => h)
 refine AWp.skip ?_
 refine hK2 _ ?_
 clear hK2 K2
 refine seqK fun K31 hK31 => ?_
 refine region ?_
 refine s0 assignA rfl ?_
 refine nil ?_
 refine hK31 _ ?_
 clear hK31 K31
 refine AWp.ret ?_
 repeat (first | refine xBlock_ret ?_ | refine xThen_ret ?_)
 obtain rfl := Option.some.inj hE
 refine retQ.retF H rfl ⟨rfl, rfl⟩ ?_
 exact (fun _ _ h => h)
def Z33_j8   : Option Bool := some true
def Z33_l11 (a0 : TValue) (a1 : Bool) (k_rec_38 : TValue → Bool → Option Bool) : Nat → Nat → Option Bool
 | 0, _ => none
 | n11 + 1, s6_12 => bif (decide (((s6_12 : Nat) : Int) < ((a0.FItems.l.length : Nat) : Int))) then ((a0.FItems.l[s6_12]?).bind fun x19 => (k_rec_38 x19 a1).bind fun x20 => bif (!x20) then (some false) else ((Z33_l11 a0 a1 k_rec_38 n11) (s6_12 + 1))) else (Z33_j8   )
def Z33_j7 (a0 : TValue) (a1 : Bool) (k_rec_38 : TValue → Bool → Option Bool)  : Option Bool := Z33_l11 a0 a1 k_rec_38 (a0.FItems.l.length + 1) 0
def Z33_l24 (a0 : TValue) (a1 : Bool) (k_rec_38 : TValue → Bool → Option Bool) : Nat → Nat → Option Bool
 | 0, _ => none
 | n24 + 1, s5_25 => bif (decide (((s5_25 : Nat) : Int) < ((a0.FKeys.l.length : Nat) : Int))) then (guardO (a1) (a0.FKeys.l[s5_25]?) ([] : Bs) fun x32 => guardO (a1) (Z21 x32) false fun x33 => bif (a1 && (!x33)) then (some false) else ((Z33_l24 a0 a1 k_rec_38 n24) (s5_25 + 1))) else (Z33_j7 a0 a1 k_rec_38 )
def Z33_n : Nat → TValue → Bool → Option Bool
 | 0, _, _ => none
 | n + 1, a0, a1 => (Z31 a0 a1).bind fun x4 => bif (!x4) then (some false) else (Z33_l24 a0 a1 (Z33_n n) (a0.FKeys.l.length + 1) 0)
theorem Z33_step (n : Nat) (ih_38 : ∀ {a0 : TValue} {a1 : Bool}   {r : Bool}, Z33_n n a0 a1 = some r → ∀ (H : Heap), ACalls Tryz.prog 38 [.agg (TValue.c a0), .d (.bool a1)] H fun v h' => v = .a (.d (.bool r)) ∧ h' = H) : ∀ {a0 : TValue} {a1 : Bool}   {r : Bool}, Z33_n (n + 1) a0 a1 = some r → ∀ (H : Heap), ACalls Tryz.prog 38 [.agg (TValue.c a0), .d (.bool a1)] H fun v h' => v = .a (.d (.bool r)) ∧ h' = H := by
 intro a0 a1   r hE H 
 rw [Z33_n] at hE
 refine ACalls.of_wp (fn := Tryz.f38) (c := _) Tryz.tab_ok (fun _ _ => Tryz.call38 _ _) Tryz.func38 rfl (n := 43) rfl (rs := [.tmp 4]) rfl rfl ?_
 refine seqK fun K1 hK1 => ?_
 refine region ?_
 refine s0 (boxV rfl) rfl ?_
 refine s0 assignA rfl ?_
 refine nil ?_
 refine hK1 _ ?_
 clear hK1 K1
 refine seqK fun K2 hK2 => ?_
 refine seqK fun K3 hK3 => ?_
 refine region ?_
 refine s0 (loadV (TK rfl) rfl rfl rfl) rfl ?_
 refine s0 moveA rfl ?_
 obtain ⟨x4, gx4, hE⟩ := bindO_some hE
 refine s0 (callP rfl rfl (fun H => Z31_walk gx4 H)) rfl ?_
 refine s0 (notB rfl) rfl ?_
 refine nil ?_
 refine hK3 _ ?_
 clear hK3 K3
 refine condE hE rfl (fun hc5 hE => ?_) (fun hc5 hE => ?_)
 ·refine seqK fun K6 hK6 => ?_
  refine region ?_
  refine s0 assignA rfl ?_
  refine nil ?_
  refine hK6 _ ?_
  clear hK6 K6
  refine AWp.ret ?_
  repeat (first | refine xBlock_ret ?_ | refine xThen_ret ?_)
  obtain rfl := Option.some.inj hE
  refine retQ.retF H rfl ⟨rfl, rfl⟩ ?_
  exact (fun _ _ h => h)
 refine AWp.skip ?_
 refine hK2 _ ?_
 clear hK2 K2
 refine seqJH (KeepsT.A (k := 1) (KeepsT.A (k := 2) KeepsT.nil)) (fun (z : Unit) => []) (fun z => H) (fun z => Z33_j7 a0 a1 (Z33_n n)  = some r) ?_ ?_
 ·intro K7 hK7
  refine seqK fun K23 hK23 => ?_
  refine region ?_
  refine s0 assignA rfl ?_
  refine nil ?_
  refine hK23 _ ?_
  clear hK23 K23
  refine block ?_
  refine loopH (KeepsT.A (k := 1) (KeepsT.A (k := 2) KeepsT.nil)) (fun (z : Nat × Nat) => [(5, .a (.d (.int .i64 ((z.2 : Nat) : Int))))]) (fun z => H) (fun z => z.1) (fun z => Z33_l24 a0 a1 (Z33_n n) z.1 z.2 = some r) ((a0.FKeys.l.length + 1), 0) hE Weak.toA ?_
  rintro ⟨n24, s5_25⟩ hE K24 hK24
  try dsimp only at hE
  cases n24 with
  | zero => cases hE
  | succ n24 =>
    rw [Z33_l24] at hE
    refine seqK fun K26 hK26 => ?_
    refine seqK fun K27 hK27 => ?_
    refine region ?_
    refine s0 moveA rfl ?_
    refine s0 (fieldVA (TK rfl) rfl rfl (TK rfl) rfl rfl) rfl ?_
    refine s0 (loadV (TK rfl) rfl rfl rfl) rfl ?_
    refine sLen (f := strE) (s := a0.FKeys) (TK rfl) rfl rfl rfl rfl fun hL28 => ?_
    refine s0 (binI rfl rfl rfl) rfl ?_
    refine nil ?_
    refine hK27 _ ?_
    clear hK27 K27
    refine condE hE rfl (fun hc29 hE => ?_) (fun hc29 hE => ?_)
    ·try dsimp only at hc29
     have hf29 := of_decide_eq_true hc29
     refine AWp.skip ?_
     refine hK26 _ ?_
     clear hK26 K26
     refine seqK fun K30 hK30 => ?_
     refine block ?_
     refine seqK fun K31 hK31 => ?_
     refine region ?_
     refine s0 moveA rfl ?_
     refine s0 moveA rfl ?_
     refine gC rfl rfl (fun hC => fieldVA (TK rfl) rfl rfl (TK rfl) rfl rfl) rfl ?_
     refine gC rfl rfl (fun hC => ungdA (k := 20) rfl (loadV (TK rfl) rfl rfl rfl)) rfl ?_
     refine gC rfl rfl (fun hC => moveA) rfl ?_
     obtain ⟨x32, gx32, hE⟩ := guardO_some hE
     refine gC rfl rfl (fun hC => ungdA (k := 21) rfl (ungdA (k := 22) rfl (idxMn (f := strE) (n := s5_25) (TK rfl) rfl (TK rfl) rfl rfl rfl (gx32 hC)))) rfl ?_
     refine gC rfl rfl (fun hC => ungdA (k := 23) rfl (loadV (TK rfl) rfl rfl rfl)) rfl ?_
     obtain ⟨x33, gx33, hE⟩ := guardO_some hE
     refine gC rfl rfl (fun hC => ungdA (k := 24) rfl (callP rfl rfl (fun H => Z21_walk (gx33 hC) H))) rfl ?_
     refine gC rfl rfl (fun hC => ungdA (k := 25) rfl (notB rfl)) rfl ?_
     refine s0 (pickAndA rfl rfl rfl) rfl ?_
     refine nil ?_
     refine hK31 _ ?_
     clear hK31 K31
     refine condE hE rfl (fun hc34 hE => ?_) (fun hc34 hE => ?_)
     ·refine seqK fun K35 hK35 => ?_
      refine region ?_
      refine s0 assignA rfl ?_
      refine nil ?_
      refine hK35 _ ?_
      clear hK35 K35
      refine AWp.ret ?_
      repeat (first | refine xBlock_ret ?_ | refine xThen_ret ?_)
      obtain rfl := Option.some.inj hE
      refine retQ.retF H rfl ⟨rfl, rfl⟩ ?_
      exact (fun _ _ h => h)
     refine AWp.skip ?_
     refine hK30 _ ?_
     clear hK30 K30
     refine region ?_
     refine s0 moveA rfl ?_
     refine s0 (addIA rfl rfl) rfl ?_
     refine s0 assignA rfl ?_
     refine nil ?_
     exact hK24 _ (n24, (s5_25 + 1)) Weak.toA hE (Nat.lt_succ_self _)
    refine AWp.exit ?_
    exact hK7 _ () Weak.toA hE
 rintro _ hE
 try dsimp only at hE
 unfold Z33_j7 at hE
 refine seqJH KeepsT.nil (fun (z : Unit) => []) (fun z => H) (fun z => Z33_j8  = some r) ?_ ?_
 ·intro K8 hK8
  refine seqK fun K10 hK10 => ?_
  refine region ?_
  refine s0 assignA rfl ?_
  refine nil ?_
  refine hK10 _ ?_
  clear hK10 K10
  refine block ?_
  refine loopH (KeepsT.A (k := 1) (KeepsT.A (k := 2) KeepsT.nil)) (fun (z : Nat × Nat) => [(6, .a (.d (.int .i64 ((z.2 : Nat) : Int))))]) (fun z => H) (fun z => z.1) (fun z => Z33_l11 a0 a1 (Z33_n n) z.1 z.2 = some r) ((a0.FItems.l.length + 1), 0) hE Weak.toA ?_
  rintro ⟨n11, s6_12⟩ hE K11 hK11
  try dsimp only at hE
  cases n11 with
  | zero => cases hE
  | succ n11 =>
    rw [Z33_l11] at hE
    refine seqK fun K13 hK13 => ?_
    refine seqK fun K14 hK14 => ?_
    refine region ?_
    refine s0 moveA rfl ?_
    refine s0 (fieldVA (TK rfl) rfl rfl (TK rfl) rfl rfl) rfl ?_
    refine s0 (loadV (TK rfl) rfl rfl (congrArg (fun x => some (A.d x)) (TValue.FItemsD_eq _))) rfl ?_
    refine sLen (f := TValue.c) (s := a0.FItems) (TK rfl) rfl rfl rfl rfl fun hL15 => ?_
    refine s0 (binI rfl rfl rfl) rfl ?_
    refine nil ?_
    refine hK14 _ ?_
    clear hK14 K14
    refine condE hE rfl (fun hc16 hE => ?_) (fun hc16 hE => ?_)
    ·try dsimp only at hc16
     have hf16 := of_decide_eq_true hc16
     refine AWp.skip ?_
     refine hK13 _ ?_
     clear hK13 K13
     refine seqK fun K17 hK17 => ?_
     refine block ?_
     refine seqK fun K18 hK18 => ?_
     refine region ?_
     refine s0 (fieldVA (TK rfl) rfl rfl (TK rfl) rfl rfl) rfl ?_
     refine s0 (loadV (TK rfl) rfl rfl (congrArg (fun x => some (A.d x)) (TValue.FItemsD_eq _))) rfl ?_
     refine s0 moveA rfl ?_
     obtain ⟨x19, gx19, hE⟩ := bindO_some hE
     refine s0 (idxMn (f := TValue.c) (n := s6_12) (TK rfl) rfl (TK rfl) rfl rfl rfl gx19) rfl ?_
     refine s0 (loadV (TK rfl) rfl rfl rfl) rfl ?_
     refine s0 moveA rfl ?_
     obtain ⟨x20, gx20, hE⟩ := bindO_some hE
     refine s0 (callP rfl rfl (fun H => ih_38 gx20 H)) rfl ?_
     refine s0 (notB rfl) rfl ?_
     refine nil ?_
     refine hK18 _ ?_
     clear hK18 K18
     refine condE hE rfl (fun hc21 hE => ?_) (fun hc21 hE => ?_)
     ·refine seqK fun K22 hK22 => ?_
      refine region ?_
      refine s0 assignA rfl ?_
      refine nil ?_
      refine hK22 _ ?_
      clear hK22 K22
      refine AWp.ret ?_
      repeat (first | refine xBlock_ret ?_ | refine xThen_ret ?_)
      obtain rfl := Option.some.inj hE
      refine retQ.retF H rfl ⟨rfl, rfl⟩ ?_
      exact (fun _ _ h => h)
     refine AWp.skip ?_
     refine hK17 _ ?_
     clear hK17 K17
     refine region ?_
     refine s0 moveA rfl ?_
     refine s0 (addIA rfl rfl) rfl ?_
     refine s0 assignA rfl ?_
     refine nil ?_
     exact hK11 _ (n11, (s6_12 + 1)) Weak.toA hE (Nat.lt_succ_self _)
    refine AWp.exit ?_
    exact hK8 _ () Weak.toA hE
 rintro _ hE
 try dsimp only at hE
 unfold Z33_j8 at hE
 refine seqK fun K9 hK9 => ?_
 refine region ?_
 refine s0 assignA rfl ?_
 refine nil ?_
 refine hK9 _ ?_
 clear hK9 K9
 refine AWp.ret ?_
 repeat (first | refine xBlock_ret ?_ | refine xThen_ret ?_)
 obtain rfl := Option.some.inj hE
 refine retQ.retF H rfl ⟨rfl, rfl⟩ ?_
 exact (fun _ _ h => h)
theorem Z33_all : ∀ (n : Nat), (∀ {a0 : TValue} {a1 : Bool}   {r : Bool}, Z33_n n a0 a1 = some r → ∀ (H : Heap), ACalls Tryz.prog 38 [.agg (TValue.c a0), .d (.bool a1)] H fun v h' => v = .a (.d (.bool r)) ∧ h' = H)
 | 0 => fun hE => by first | cases hE | (rw [Z33_n] at hE; cases hE)
 | n + 1 => Z33_step n (Z33_all n)
def Z33 (a0 : TValue) (a1 : Bool) : Option Bool := Z33_n F0 a0 a1
theorem Z33_walk {a0 : TValue} {a1 : Bool}   {r : Bool} (hE : Z33 a0 a1 = some r) (H : Heap)  : ACalls Tryz.prog 38 [.agg (TValue.c a0), .d (.bool a1)] H fun v h' => v = .a (.d (.bool r)) ∧ h' = H := (Z33_all F0) hE H 
def Z27 (a0 : TValue) : Option Bool := (Z29 a0).bind fun x3 => guardO ((decide (x3 ≤ (4096 : Int)))) (Z25 a0) (0 : Int) fun x4 => guardO (((decide (x3 ≤ (4096 : Int))) && (decide (x4 ≤ (24 : Int))))) (Z33 a0 true) false fun x5 => some (((decide (x3 ≤ (4096 : Int))) && (decide (x4 ≤ (24 : Int)))) && x5)
theorem Z27_walk {a0 : TValue}   {r : Bool} (hE : Z27 a0 = some r) (H : Heap)  : ACalls Tryz.prog 17 [.agg (TValue.c a0)] H fun v h' => v = .a (.d (.bool r)) ∧ h' = H := by
 unfold Z27 at hE
 refine ACalls.of_wp (fn := Tryz.f17) (c := _) Tryz.tab_ok (fun _ _ => Tryz.call17 _ _) Tryz.func17 rfl (n := 15) rfl (rs := [.tmp 2]) rfl rfl ?_
 refine seqK fun K1 hK1 => ?_
 refine region ?_
 refine s0 (boxV rfl) rfl ?_
 refine s0 assignA rfl ?_
 refine nil ?_
 refine hK1 _ ?_
 clear hK1 K1
 refine seqK fun K2 hK2 => ?_
 refine region ?_
 refine s0 (loadV (TK rfl) rfl rfl rfl) rfl ?_
 obtain ⟨x3, gx3, hE⟩ := bindO_some hE
 refine s0 (callP rfl rfl (fun H => Z29_walk gx3 H)) rfl ?_
 refine s0 (binI rfl rfl rfl) rfl ?_
 refine s0 moveA rfl ?_
 refine gC rfl rfl (fun hC => loadV (TK rfl) rfl rfl rfl) rfl ?_
 obtain ⟨x4, gx4, hE⟩ := guardO_some hE
 refine gC rfl rfl (fun hC => ungdA (k := 7) rfl (callP rfl rfl (fun H => Z25_walk (gx4 hC) H))) rfl ?_
 refine gC rfl rfl (fun hC => ungdA (k := 8) rfl (binI rfl rfl rfl)) rfl ?_
 refine s0 (pickAndA rfl rfl rfl) rfl ?_
 refine s0 moveA rfl ?_
 refine gC rfl rfl (fun hC => loadV (TK rfl) rfl rfl rfl) rfl ?_
 obtain ⟨x5, gx5, hE⟩ := guardO_some hE
 refine gC rfl rfl (fun hC => ungdA (k := 12) rfl (callP rfl rfl (fun H => Z33_walk (gx5 hC) H))) rfl ?_
 refine s0 (pickAndA rfl rfl rfl) rfl ?_
 refine s0 assignA rfl ?_
 refine nil ?_
 refine hK2 _ ?_
 clear hK2 K2
 refine AWp.ret ?_
 repeat (first | refine xBlock_ret ?_ | refine xThen_ret ?_)
 obtain rfl := Option.some.inj hE
 refine retQ.retF H rfl ⟨rfl, rfl⟩ ?_
 exact (fun _ _ h => h)
def Z51_j3  (s5_4 : Int) : Option Int := some s5_4
def Z51_j14 (s6_9 : Nat) (k_next_7 : Int → Nat → Option Int) (s5_15 : Int) : Option Int := k_next_7 s5_15 (s6_9 + 1)
def Z51_l19 (a0 : (Sl TDir)) (a1 : Int) (s6_9 : Nat) (k_next_7 : Int → Nat → Option Int) : Nat → Int → Nat → Option Int
 | 0, _, _ => none
 | n19 + 1, s5_20, s7_21 => (a0.l[s6_9]?).bind fun x24 => bif ((decide (((s7_21 : Nat) : Int) < ((x24.FArgs.l.length : Nat) : Int))) && (decide (s5_20 ≤ a1))) then ((addC s5_20 (1 : Int)).bind fun x28 => (a0.l[s6_9]?).bind fun x29 => (x29.FArgs.l[s7_21]?).bind fun x30 => (Z35 x30.FValue a1).bind fun x31 => (addC x28 x31).bind fun x32 => (Z51_l19 a0 a1 s6_9 k_next_7 n19) x32 (s7_21 + 1)) else (Z51_j14 s6_9 k_next_7 s5_20)
def Z51_l7 (a0 : (Sl TDir)) (a1 : Int)  : Nat → Int → Nat → Option Int
 | 0, _, _ => none
 | n7 + 1, s5_8, s6_9 => bif ((decide (((s6_9 : Nat) : Int) < ((a0.l.length : Nat) : Int))) && (decide (s5_8 ≤ a1))) then ((addC s5_8 (1 : Int)).bind fun x17 => Z51_l19 a0 a1 s6_9 ((Z51_l7 a0 a1 n7)) (Option.elim (a0.l[s6_9]?) 1 (fun x24 => x24.FArgs.l.length + 1)) x17 0) else (Z51_j3   s5_8)
def Z51 (a0 : (Sl TDir)) (a1 : Int) : Option Int := Z51_l7 a0 a1 (a0.l.length + 1) (0 : Int) 0
theorem Z51_walk {a0 : (Sl TDir)} {a1 : Int} {w0 : Option Nat}  {r : Int} (hE : Z51 a0 a1 = some r) (H : Heap)  : ACalls Tryz.prog 50 [.d (Sl.d 2 TDir.c w0 a0), .d (.int .i64 a1)] H fun v h' => v = .a (.d (.int .i64 r)) ∧ h' = H := by
 unfold Z51 at hE
 refine ACalls.of_wp (fn := Tryz.f50) (c := _) Tryz.tab_ok (fun _ _ => Tryz.call50 _ _) Tryz.func50 rfl (n := 51) rfl (rs := [.tmp 4]) rfl rfl ?_
 refine seqK fun K1 hK1 => ?_
 refine region ?_
 refine s0 assignA rfl ?_
 refine nil ?_
 refine hK1 _ ?_
 clear hK1 K1
 refine seqK fun K2 hK2 => ?_
 refine region ?_
 refine s0 assignA rfl ?_
 refine nil ?_
 refine hK2 _ ?_
 clear hK2 K2
 refine seqJH KeepsT.nil (fun (z : Int) => [(5, .a (.d (.int .i64 z)))]) (fun z => H) (fun z => Z51_j3 z = some r) ?_ ?_
 ·intro K3 hK3
  refine seqK fun K6 hK6 => ?_
  refine region ?_
  refine s0 assignA rfl ?_
  refine nil ?_
  refine hK6 _ ?_
  clear hK6 K6
  refine block ?_
  refine loopH (KeepsT.A (k := 0) (KeepsT.A (k := 1) KeepsT.nil)) (fun (z : Nat × Int × Nat) => [(5, .a (.d (.int .i64 z.2.1))), (6, .a (.d (.int .i64 ((z.2.2 : Nat) : Int))))]) (fun z => H) (fun z => z.1) (fun z => Z51_l7 a0 a1 z.1 z.2.1 z.2.2 = some r) ((a0.l.length + 1), (0 : Int), 0) hE Weak.toA ?_
  rintro ⟨n7, s5_8, s6_9⟩ hE K7 hK7
  try dsimp only at hE
  cases n7 with
  | zero => cases hE
  | succ n7 =>
    rw [Z51_l7] at hE
    refine seqK fun K10 hK10 => ?_
    refine seqK fun K11 hK11 => ?_
    refine region ?_
    refine s0 moveA rfl ?_
    refine s0 moveA rfl ?_
    refine sLen (f := TDir.c) (s := a0) (TK rfl) rfl rfl rfl rfl fun hL12 => ?_
    refine s0 (binI rfl rfl rfl) rfl ?_
    refine s0 moveA rfl ?_
    refine gC rfl rfl (fun hC => moveA) rfl ?_
    refine gC rfl rfl (fun hC => moveA) rfl ?_
    refine gC rfl rfl (fun hC => ungdA (k := 13) rfl (ungdA (k := 14) rfl (binI rfl rfl rfl))) rfl ?_
    refine s0 (pickAndA rfl rfl rfl) rfl ?_
    refine nil ?_
    refine hK11 _ ?_
    clear hK11 K11
    refine condE hE rfl (fun hc13 hE => ?_) (fun hc13 hE => ?_)
    ·try dsimp only at hc13
     have hf13 := of_decide_eq_true (and_left hc13)
     refine AWp.skip ?_
     refine hK10 _ ?_
     clear hK10 K10
     refine seqJH (KeepsT.A (k := 0) (KeepsT.A (k := 1) (KeepsT.A (k := 6) KeepsT.nil))) (fun (z : Int) => [(5, .a (.d (.int .i64 z)))]) (fun z => H) (fun z => Z51_j14 s6_9 ((Z51_l7 a0 a1 n7)) z = some r) ?_ ?_
     ·intro K14 hK14
      refine block ?_
      refine seqK fun K16 hK16 => ?_
      refine region ?_
      refine s0 moveA rfl ?_
      obtain ⟨x17, gx17, hE⟩ := bindO_some hE
      refine s0 (addM rfl rfl gx17) rfl ?_
      refine s0 assignA rfl ?_
      refine nil ?_
      refine hK16 _ ?_
      clear hK16 K16
      refine seqK fun K18 hK18 => ?_
      refine region ?_
      refine s0 assignA rfl ?_
      refine nil ?_
      refine hK18 _ ?_
      clear hK18 K18
      refine block ?_
      refine loopH (KeepsT.A (k := 0) (KeepsT.A (k := 1) (KeepsT.A (k := 6) KeepsT.nil))) (fun (z : Nat × Int × Nat) => [(5, .a (.d (.int .i64 z.2.1))), (7, .a (.d (.int .i64 ((z.2.2 : Nat) : Int))))]) (fun z => H) (fun z => z.1) (fun z => Z51_l19 a0 a1 s6_9 ((Z51_l7 a0 a1 n7)) z.1 z.2.1 z.2.2 = some r) ((Option.elim (a0.l[s6_9]?) 1 (fun x24 => x24.FArgs.l.length + 1)), x17, 0) hE Weak.toA ?_
      rintro ⟨n19, s5_20, s7_21⟩ hE K19 hK19
      try dsimp only at hE
      cases n19 with
      | zero => cases hE
      | succ n19 =>
        rw [Z51_l19] at hE
        refine seqK fun K22 hK22 => ?_
        refine seqK fun K23 hK23 => ?_
        refine region ?_
        refine s0 moveA rfl ?_
        refine s0 moveA rfl ?_
        refine s0 moveA rfl ?_
        obtain ⟨x24, gx24, hE⟩ := bindO_some hE
        refine s0 (idxMn (f := TDir.c) (n := s6_9) (TK rfl) rfl (TK rfl) rfl rfl rfl gx24) rfl ?_
        refine s0 (fieldVA (TK rfl) rfl rfl (TK rfl) rfl rfl) rfl ?_
        refine s0 (loadV (TK rfl) rfl rfl rfl) rfl ?_
        refine sLen (f := TArg.c) (s := x24.FArgs) (TK rfl) rfl rfl rfl rfl fun hL25 => ?_
        refine s0 (binI rfl rfl rfl) rfl ?_
        refine s0 moveA rfl ?_
        refine gC rfl rfl (fun hC => moveA) rfl ?_
        refine gC rfl rfl (fun hC => moveA) rfl ?_
        refine gC rfl rfl (fun hC => ungdA (k := 30) rfl (ungdA (k := 31) rfl (binI rfl rfl rfl))) rfl ?_
        refine s0 (pickAndA rfl rfl rfl) rfl ?_
        refine nil ?_
        refine hK23 _ ?_
        clear hK23 K23
        refine condE hE rfl (fun hc26 hE => ?_) (fun hc26 hE => ?_)
        ·try dsimp only at hc26
         have hf26 := of_decide_eq_true (and_left hc26)
         refine AWp.skip ?_
         refine hK22 _ ?_
         clear hK22 K22
         refine seqK fun K27 hK27 => ?_
         refine block ?_
         refine region ?_
         refine s0 moveA rfl ?_
         obtain ⟨x28, gx28, hE⟩ := bindO_some hE
         refine s0 (addM rfl rfl gx28) rfl ?_
         refine s0 moveA rfl ?_
         refine s0 moveA rfl ?_
         obtain ⟨x29, gx29, hE⟩ := bindO_some hE
         refine s0 (idxMn (f := TDir.c) (n := s6_9) (TK rfl) rfl (TK rfl) rfl rfl rfl gx29) rfl ?_
         refine s0 (fieldVA (TK rfl) rfl rfl (TK rfl) rfl rfl) rfl ?_
         refine s0 (loadV (TK rfl) rfl rfl rfl) rfl ?_
         refine s0 moveA rfl ?_
         obtain ⟨x30, gx30, hE⟩ := bindO_some hE
         refine s0 (idxMn (f := TArg.c) (n := s7_21) (TK rfl) rfl (TK rfl) rfl rfl rfl gx30) rfl ?_
         refine s0 (fieldVA (TK rfl) rfl rfl (TK rfl) rfl rfl) rfl ?_
         refine s0 (loadV (TK rfl) rfl rfl rfl) rfl ?_
         refine s0 moveA rfl ?_
         obtain ⟨x31, gx31, hE⟩ := bindO_some hE
         refine s0 (callP rfl rfl (fun H => Z35_walk gx31 H)) rfl ?_
         obtain ⟨x32, gx32, hE⟩ := bindO_some hE
         refine s0 (addM rfl rfl gx32) rfl ?_
         refine s0 assignA rfl ?_
         refine nil ?_
         refine hK27 _ ?_
         clear hK27 K27
         refine region ?_
         refine s0 moveA rfl ?_
         refine s0 (addIA rfl rfl) rfl ?_
         refine s0 assignA rfl ?_
         refine nil ?_
         exact hK19 _ (n19, x32, (s7_21 + 1)) Weak.toA hE (Nat.lt_succ_self _)
        refine AWp.exit ?_
        exact hK14 _ s5_20 Weak.toA hE
     rintro s5_15 hE
     try dsimp only at hE
     unfold Z51_j14 at hE
     refine region ?_
     refine s0 moveA rfl ?_
     refine s0 (addIA rfl rfl) rfl ?_
     refine s0 assignA rfl ?_
     refine nil ?_
     exact hK7 _ (n7, s5_15, (s6_9 + 1)) Weak.toA hE (Nat.lt_succ_self _)
    refine AWp.exit ?_
    exact hK3 _ s5_8 Weak.toA hE
 rintro s5_4 hE
 try dsimp only at hE
 unfold Z51_j3 at hE
 refine seqK fun K5 hK5 => ?_
 refine region ?_
 refine s0 moveA rfl ?_
 refine s0 assignA rfl ?_
 refine nil ?_
 refine hK5 _ ?_
 clear hK5 K5
 refine AWp.ret ?_
 repeat (first | refine xBlock_ret ?_ | refine xThen_ret ?_)
 obtain rfl := Option.some.inj hE
 refine retQ.retF H rfl ⟨rfl, rfl⟩ ?_
 exact (fun _ _ h => h)
def Z52_j3  (s5_4 : Int) : Option Int := some s5_4
def Z52_l7 (a0 : (Sl TInput)) (a1 : Int)  : Nat → Int → Nat → Option Int
 | 0, _, _ => none
 | n7 + 1, s5_8, s6_9 => bif ((decide (((s6_9 : Nat) : Int) < ((a0.l.length : Nat) : Int))) && (decide (s5_8 ≤ a1))) then ((addC s5_8 (1 : Int)).bind fun x15 => (a0.l[s6_9]?).bind fun x16 => (addC x15 ((x16.FType.FWraps.l.length : Nat) : Int)).bind fun x17 => (a0.l[s6_9]?).bind fun x18 => (Z35 x18.FDefault a1).bind fun x19 => (addC x17 x19).bind fun x20 => (a0.l[s6_9]?).bind fun x21 => (Z51 x21.FDirs a1).bind fun x22 => (addC x20 x22).bind fun x23 => (Z52_l7 a0 a1 n7) x23 (s6_9 + 1)) else (Z52_j3   s5_8)
def Z52 (a0 : (Sl TInput)) (a1 : Int) : Option Int := Z52_l7 a0 a1 (a0.l.length + 1) (0 : Int) 0
theorem Z52_walk {a0 : (Sl TInput)} {a1 : Int} {w0 : Option Nat}  {r : Int} (hE : Z52 a0 a1 = some r) (H : Heap)  : ACalls Tryz.prog 51 [.d (Sl.d 10 TInput.c w0 a0), .d (.int .i64 a1)] H fun v h' => v = .a (.d (.int .i64 r)) ∧ h' = H := by
 unfold Z52 at hE
 refine ACalls.of_wp (fn := Tryz.f51) (c := _) Tryz.tab_ok (fun _ _ => Tryz.call51 _ _) Tryz.func51 rfl (n := 45) rfl (rs := [.tmp 4]) rfl rfl ?_
 refine seqK fun K1 hK1 => ?_
 refine region ?_
 refine s0 assignA rfl ?_
 refine nil ?_
 refine hK1 _ ?_
 clear hK1 K1
 refine seqK fun K2 hK2 => ?_
 refine region ?_
 refine s0 assignA rfl ?_
 refine nil ?_
 refine hK2 _ ?_
 clear hK2 K2
 refine seqJH KeepsT.nil (fun (z : Int) => [(5, .a (.d (.int .i64 z)))]) (fun z => H) (fun z => Z52_j3 z = some r) ?_ ?_
 ·intro K3 hK3
  refine seqK fun K6 hK6 => ?_
  refine region ?_
  refine s0 assignA rfl ?_
  refine nil ?_
  refine hK6 _ ?_
  clear hK6 K6
  refine block ?_
  refine loopH (KeepsT.A (k := 0) (KeepsT.A (k := 1) KeepsT.nil)) (fun (z : Nat × Int × Nat) => [(5, .a (.d (.int .i64 z.2.1))), (6, .a (.d (.int .i64 ((z.2.2 : Nat) : Int))))]) (fun z => H) (fun z => z.1) (fun z => Z52_l7 a0 a1 z.1 z.2.1 z.2.2 = some r) ((a0.l.length + 1), (0 : Int), 0) hE Weak.toA ?_
  rintro ⟨n7, s5_8, s6_9⟩ hE K7 hK7
  try dsimp only at hE
  cases n7 with
  | zero => cases hE
  | succ n7 =>
    rw [Z52_l7] at hE
    refine seqK fun K10 hK10 => ?_
    refine seqK fun K11 hK11 => ?_
    refine region ?_
    refine s0 moveA rfl ?_
    refine s0 moveA rfl ?_
    refine sLen (f := TInput.c) (s := a0) (TK rfl) rfl rfl rfl rfl fun hL12 => ?_
    refine s0 (binI rfl rfl rfl) rfl ?_
    refine s0 moveA rfl ?_
    refine gC rfl rfl (fun hC => moveA) rfl ?_
    refine gC rfl rfl (fun hC => moveA) rfl ?_
    refine gC rfl rfl (fun hC => ungdA (k := 12) rfl (ungdA (k := 13) rfl (binI rfl rfl rfl))) rfl ?_
    refine s0 (pickAndA rfl rfl rfl) rfl ?_
    refine nil ?_
    refine hK11 _ ?_
    clear hK11 K11
    refine condE hE rfl (fun hc13 hE => ?_) (fun hc13 hE => ?_)
    ·try dsimp only at hc13
     have hf13 := of_decide_eq_true (and_left hc13)
     refine AWp.skip ?_
     refine hK10 _ ?_
     clear hK10 K10
     refine seqK fun K14 hK14 => ?_
     refine block ?_
     refine AWp.draw rfl ?_
     refine DOps.s0 moveA rfl ?_
     obtain ⟨x15, gx15, hE⟩ := bindO_some hE
     refine DOps.s0 (addM rfl rfl gx15) rfl ?_
     refine DOps.s0 moveA rfl ?_
     refine DOps.s0 moveA rfl ?_
     obtain ⟨x16, gx16, hE⟩ := bindO_some hE
     refine DOps.s0 (idxMn (f := TInput.c) (n := s6_9) (TK rfl) rfl (TK rfl) rfl rfl rfl gx16) rfl ?_
     refine DOps.s0 (fieldVA (TK rfl) rfl rfl (TK rfl) rfl rfl) rfl ?_
     refine DOps.s0 (fieldVA (TK rfl) rfl rfl (TK rfl) rfl rfl) rfl ?_
     refine DOps.s0 (loadV (TK rfl) rfl rfl rfl) rfl ?_
     refine DOps.s0 (lenM' (f := (intE .i64)) (s := x16.FType.FWraps) (TK rfl) rfl rfl rfl) rfl ?_
     obtain ⟨x17, gx17, hE⟩ := bindO_some hE
     refine DOps.s0 (addM rfl rfl gx17) rfl ?_
     refine DOps.s0 moveA rfl ?_
     refine DOps.s0 moveA rfl ?_
     obtain ⟨x18, gx18, hE⟩ := bindO_some hE
     refine DOps.s0 (idxMn (f := TInput.c) (n := s6_9) (TK rfl) rfl (TK rfl) rfl rfl rfl gx18) rfl ?_
     refine DOps.s0 (fieldVA (TK rfl) rfl rfl (TK rfl) rfl rfl) rfl ?_
     refine DOps.s0 (loadV (TK rfl) rfl rfl rfl) rfl ?_
     refine DOps.s0 moveA rfl ?_
     obtain ⟨x19, gx19, hE⟩ := bindO_some hE
     refine DOps.s0 (callP rfl rfl (fun H => Z35_walk gx19 H)) rfl ?_
     obtain ⟨x20, gx20, hE⟩ := bindO_some hE
     refine DOps.s0 (addM rfl rfl gx20) rfl ?_
     refine DOps.s0 moveA rfl ?_
     refine DOps.s0 moveA rfl ?_
     obtain ⟨x21, gx21, hE⟩ := bindO_some hE
     refine DOps.s0 (idxMn (f := TInput.c) (n := s6_9) (TK rfl) rfl (TK rfl) rfl rfl rfl gx21) rfl ?_
     refine DOps.s0 (fieldVA (TK rfl) rfl rfl (TK rfl) rfl rfl) rfl ?_
     refine DOps.s0 (loadV (TK rfl) rfl rfl rfl) rfl ?_
     refine DOps.s0 moveA rfl ?_
     obtain ⟨x22, gx22, hE⟩ := bindO_some hE
     refine DOps.s0 (callP rfl rfl (fun H => Z51_walk gx22 H)) rfl ?_
     obtain ⟨x23, gx23, hE⟩ := bindO_some hE
     refine DOps.s0 (addM rfl rfl gx23) rfl ?_
     refine DOps.s0 assignA rfl ?_
     refine DOps.nil (by decide +kernel) ?_
     refine hK14 _ ?_
     clear hK14 K14
     refine region ?_
     refine s0 moveA rfl ?_
     refine s0 (addIA rfl rfl) rfl ?_
     refine s0 assignA rfl ?_
     refine nil ?_
     exact hK7 _ (n7, x23, (s6_9 + 1)) Weak.toA hE (Nat.lt_succ_self _)
    refine AWp.exit ?_
    exact hK3 _ s5_8 Weak.toA hE
 rintro s5_4 hE
 try dsimp only at hE
 unfold Z52_j3 at hE
 refine seqK fun K5 hK5 => ?_
 refine region ?_
 refine s0 moveA rfl ?_
 refine s0 assignA rfl ?_
 refine nil ?_
 refine hK5 _ ?_
 clear hK5 K5
 refine AWp.ret ?_
 repeat (first | refine xBlock_ret ?_ | refine xThen_ret ?_)
 obtain rfl := Option.some.inj hE
 refine retQ.retF H rfl ⟨rfl, rfl⟩ ?_
 exact (fun _ _ h => h)
end Go.Proofs
