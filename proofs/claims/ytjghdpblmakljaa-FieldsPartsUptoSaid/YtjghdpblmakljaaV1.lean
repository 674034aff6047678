import Derived.Test.YtjghdpblmakljaaE3
import Derived.Test.YtjghdpblmakljaaTab
set_option linter.unusedVariables false
set_option linter.unusedSimpArgs false
namespace Go.Proofs
open Go Go.Ab
inductive TValue where
  | mk (FKind : Int) (FInt : Int) (FText : Bs) (FItems_nl : Bool) (FItems_l : List TValue) (FKeys : (Sl Bs))
def TValue.FKind : TValue → Int | .mk x _ _ _ _ _ => x
def TValue.FInt : TValue → Int | .mk _ x _ _ _ _ => x
def TValue.FText : TValue → Bs | .mk _ _ x _ _ _ => x
def TValue.FItems : TValue → (Sl TValue) | .mk _ _ _ nl l _ => ⟨nl, l⟩
def TValue.FKeys : TValue → (Sl Bs) | .mk _ _ _ _ _ x => x
noncomputable def TValue.FItemsD : TValue → D := @TValue.rec (fun _ => D) (fun _ => List (List D)) (fun _ _ _ nl _ _ ih => .slice 5 none nl ih) [] (fun v _ ih ihl => ((intE .i64) v.FKind ++ (intE .i64) v.FInt ++ strE v.FText ++ [ih] ++ (fun s => [Sl.d 1 strE none s]) v.FKeys) :: ihl)
noncomputable def TValue.c (v : TValue) : List D := (intE .i64) v.FKind ++ (intE .i64) v.FInt ++ strE v.FText ++ [v.FItemsD] ++ (fun s => [Sl.d 1 strE none s]) v.FKeys
theorem TValue.FItemsD_eq (v : TValue) : v.FItemsD = Sl.d 5 TValue.c none v.FItems := by
  cases v with
  | mk y_Kind y_Int y_Text nl l y_Keys =>
    show D.slice 5 none nl _ = D.slice 5 none nl (l.map TValue.c)
    congr 1
    induction l with
    | nil => rfl
    | cons a r ih => exact congrArg (TValue.c a :: ·) ih
def TValue.zero : TValue := .mk (0 : Int) (0 : Int) ([] : Bs) true [] (Sl.nil : Sl Bs)
structure TArg where
  FName : Bs
  FValue : TValue
noncomputable def TArg.c (x : TArg) : List D := strE x.FName ++ TValue.c x.FValue
def TArg.zero : TArg := ⟨([] : Bs), TValue.zero⟩
structure TDir where
  FName : Bs
  FArgs : (Sl TArg)
noncomputable def TDir.c (x : TDir) : List D := [.str x.FName, Sl.d 6 TArg.c none x.FArgs]
def TDir.zero : TDir := ⟨([] : Bs), (Sl.nil : Sl TArg)⟩
structure TRef where
  FName : Bs
  FWraps : (Sl Int)
noncomputable def TRef.c (x : TRef) : List D := [.str x.FName, Sl.d 1 (intE .i64) none x.FWraps]
def TRef.zero : TRef := ⟨([] : Bs), (Sl.nil : Sl Int)⟩
structure TInput where
  FName : Bs
  FType : TRef
  FHas : Bool
  FDefault : TValue
  FDirs : (Sl TDir)
noncomputable def TInput.c (x : TInput) : List D := strE x.FName ++ TRef.c x.FType ++ boolE x.FHas ++ TValue.c x.FDefault ++ (fun s => [Sl.d 2 TDir.c none s]) x.FDirs
def TInput.zero : TInput := ⟨([] : Bs), TRef.zero, false, TValue.zero, (Sl.nil : Sl TDir)⟩
structure TField where
  FName : Bs
  FArgs : (Sl TInput)
  FType : TRef
  FDirs : (Sl TDir)
noncomputable def TField.c (x : TField) : List D := strE x.FName ++ (fun s => [Sl.d 10 TInput.c none s]) x.FArgs ++ TRef.c x.FType ++ (fun s => [Sl.d 2 TDir.c none s]) x.FDirs
def TField.zero : TField := ⟨([] : Bs), (Sl.nil : Sl TInput), TRef.zero, (Sl.nil : Sl TDir)⟩
structure TMember where
  FName : Bs
  FDirs : (Sl TDir)
noncomputable def TMember.c (x : TMember) : List D := [.str x.FName, Sl.d 2 TDir.c none x.FDirs]
def TMember.zero : TMember := ⟨([] : Bs), (Sl.nil : Sl TDir)⟩
structure TDef where
  FKind : Int
  FName : Bs
  FImplements : (Sl Bs)
  FDirs : (Sl TDir)
  FFields : (Sl TField)
  FMembers : (Sl TMember)
  FInputs : (Sl TInput)
noncomputable def TDef.c (x : TDef) : List D := [.int .i64 x.FKind, .str x.FName, Sl.d 1 strE none x.FImplements, Sl.d 2 TDir.c none x.FDirs, Sl.d 5 TField.c none x.FFields, Sl.d 2 TMember.c none x.FMembers, Sl.d 10 TInput.c none x.FInputs]
def TDef.zero : TDef := ⟨(0 : Int), ([] : Bs), (Sl.nil : Sl Bs), (Sl.nil : Sl TDir), (Sl.nil : Sl TField), (Sl.nil : Sl TMember), (Sl.nil : Sl TInput)⟩
structure TDoc where
  FDefs : (Sl TDef)
noncomputable def TDoc.c (x : TDoc) : List D := [Sl.d 7 TDef.c none x.FDefs]
def TDoc.zero : TDoc := ⟨(Sl.nil : Sl TDef)⟩
structure TVar where
  FName : Bs
  FType : TRef
  FHas : Bool
  FDefault : TValue
noncomputable def TVar.c (x : TVar) : List D := strE x.FName ++ TRef.c x.FType ++ boolE x.FHas ++ TValue.c x.FDefault
def TVar.zero : TVar := ⟨([] : Bs), TRef.zero, false, TValue.zero⟩
inductive TSel where
  | mk (FKind : Int) (FAlias : Bs) (FName : Bs) (FOn : Bs) (FArgs : (Sl TArg)) (FDirs : (Sl TDir)) (FSels_nl : Bool) (FSels_l : List TSel)
def TSel.FKind : TSel → Int | .mk x _ _ _ _ _ _ _ => x
def TSel.FAlias : TSel → Bs | .mk _ x _ _ _ _ _ _ => x
def TSel.FName : TSel → Bs | .mk _ _ x _ _ _ _ _ => x
def TSel.FOn : TSel → Bs | .mk _ _ _ x _ _ _ _ => x
def TSel.FArgs : TSel → (Sl TArg) | .mk _ _ _ _ x _ _ _ => x
def TSel.FDirs : TSel → (Sl TDir) | .mk _ _ _ _ _ x _ _ => x
def TSel.FSels : TSel → (Sl TSel) | .mk _ _ _ _ _ _ nl l => ⟨nl, l⟩
noncomputable def TSel.FSelsD : TSel → D := @TSel.rec (fun _ => D) (fun _ => List (List D)) (fun _ _ _ _ _ _ nl _ ih => .slice 7 none nl ih) [] (fun v _ ih ihl => ((intE .i64) v.FKind ++ strE v.FAlias ++ strE v.FName ++ strE v.FOn ++ (fun s => [Sl.d 6 TArg.c none s]) v.FArgs ++ (fun s => [Sl.d 2 TDir.c none s]) v.FDirs ++ [ih]) :: ihl)
noncomputable def TSel.c (v : TSel) : List D := (intE .i64) v.FKind ++ strE v.FAlias ++ strE v.FName ++ strE v.FOn ++ (fun s => [Sl.d 6 TArg.c none s]) v.FArgs ++ (fun s => [Sl.d 2 TDir.c none s]) v.FDirs ++ [v.FSelsD]
theorem TSel.FSelsD_eq (v : TSel) : v.FSelsD = Sl.d 7 TSel.c none v.FSels := by
  cases v with
  | mk y_Kind y_Alias y_Name y_On y_Args y_Dirs nl l =>
    show D.slice 7 none nl _ = D.slice 7 none nl (l.map TSel.c)
    congr 1
    induction l with
    | nil => rfl
    | cons a r ih => exact congrArg (TSel.c a :: ·) ih
def TSel.zero : TSel := .mk (0 : Int) ([] : Bs) ([] : Bs) ([] : Bs) (Sl.nil : Sl TArg) (Sl.nil : Sl TDir) true []
structure TOp where
  FKind : Int
  FName : Bs
  FVars : (Sl TVar)
  FSels : (Sl TSel)
noncomputable def TOp.c (x : TOp) : List D := [.int .i64 x.FKind, .str x.FName, Sl.d 9 TVar.c none x.FVars, Sl.d 7 TSel.c none x.FSels]
def TOp.zero : TOp := ⟨(0 : Int), ([] : Bs), (Sl.nil : Sl TVar), (Sl.nil : Sl TSel)⟩
structure TFrag where
  FName : Bs
  FOn : Bs
  FSels : (Sl TSel)
noncomputable def TFrag.c (x : TFrag) : List D := [.str x.FName, .str x.FOn, Sl.d 7 TSel.c none x.FSels]
def TFrag.zero : TFrag := ⟨([] : Bs), ([] : Bs), (Sl.nil : Sl TSel)⟩
structure TQuery where
  FOps : (Sl TOp)
  FFrags : (Sl TFrag)
noncomputable def TQuery.c (x : TQuery) : List D := [Sl.d 4 TOp.c none x.FOps, Sl.d 3 TFrag.c none x.FFrags]
def TQuery.zero : TQuery := ⟨(Sl.nil : Sl TOp), (Sl.nil : Sl TFrag)⟩
structure TFault where
  FErr : Int
  FAt : Bs
noncomputable def TFault.c (x : TFault) : List D := [.int .i64 x.FErr, .str x.FAt]
def TFault.zero : TFault := ⟨(0 : Int), ([] : Bs)⟩
structure Fields_checker where
  Fd : TDoc
  Fq : TQuery
  Fout : (Sl TFault)
noncomputable def Fields_checker.c (x : Fields_checker) : List D := TDoc.c x.Fd ++ TQuery.c x.Fq ++ (fun s => [Sl.d 2 TFault.c none s]) x.Fout
def Fields_checker.zero : Fields_checker := ⟨TDoc.zero, TQuery.zero, (Sl.nil : Sl TFault)⟩
noncomputable def Fields_checker.cg (t2 : Option Nat) (x : Fields_checker) : List D := TDoc.c x.Fd ++ TQuery.c x.Fq ++ [Sl.d 2 TFault.c t2 x.Fout]
end Go.Proofs

namespace Go.Proofs
open Go Go.Ab Go.RowKit
section
variable {H : Type} {B : DataW H → Nat} (hB : Bulk B)
noncomputable def TValue.sz : TValue → Nat := @TValue.rec (fun _ => Nat) (fun _ => Nat) (fun y_Kind y_Int y_Text nl l y_Keys ih => (fun _ => 1) y_Kind + ((fun _ => 1) y_Int + (Bs.sz y_Text + ((1 + ih) + ((Sl.sz Bs.sz) y_Keys + (0)))))) 0 (fun _ _ ih ihl => ih + ihl)
noncomputable def TValue.szL : List TValue → Nat := @TValue.rec_1 (fun _ => Nat) (fun _ => Nat) (fun y_Kind y_Int y_Text nl l y_Keys ih => (fun _ => 1) y_Kind + ((fun _ => 1) y_Int + (Bs.sz y_Text + ((1 + ih) + ((Sl.sz Bs.sz) y_Keys + (0)))))) 0 (fun _ _ ih ihl => ih + ihl)
theorem TValue.szL_eq (l : List TValue) : TValue.szL l = (l.map TValue.sz).sum := by
  induction l with
  | nil => rfl
  | cons a r ih => exact congrArg (TValue.sz a + ·) ih
theorem TValue.sz_eq (x : TValue) : x.sz = (fun _ => 1) x.FKind + ((fun _ => 1) x.FInt + (Bs.sz x.FText + ((Sl.sz TValue.sz) x.FItems + ((Sl.sz Bs.sz) x.FKeys + (0))))) := by
  cases x with
  | mk y_Kind y_Int y_Text nl l y_Keys =>
    show (fun _ => 1) y_Kind + ((fun _ => 1) y_Int + (Bs.sz y_Text + ((1 + TValue.szL l) + ((Sl.sz Bs.sz) y_Keys + (0))))) = _
    rw [TValue.szL_eq]; rfl
def TValue.wf : TValue → Prop := @TValue.rec (fun _ => Prop) (fun _ => Prop) (fun y_Kind y_Int y_Text nl l y_Keys ih => i64 y_Kind ∧ (i64 y_Int ∧ ((fun _ => True) y_Text ∧ (((nl = true → l = []) ∧ l.length ≤ maxN ∧ ih) ∧ ((Sl.wf (fun _ => True)) y_Keys ∧ (True)))))) True (fun _ _ ih ihl => ih ∧ ihl)
def TValue.wfL : List TValue → Prop := @TValue.rec_1 (fun _ => Prop) (fun _ => Prop) (fun y_Kind y_Int y_Text nl l y_Keys ih => i64 y_Kind ∧ (i64 y_Int ∧ ((fun _ => True) y_Text ∧ (((nl = true → l = []) ∧ l.length ≤ maxN ∧ ih) ∧ ((Sl.wf (fun _ => True)) y_Keys ∧ (True)))))) True (fun _ _ ih ihl => ih ∧ ihl)
theorem TValue.wfL_iff (l : List TValue) : TValue.wfL l ↔ ∀ x ∈ l, TValue.wf x := by
  induction l with
  | nil => exact ⟨fun _ _ h => (by cases h), fun _ => trivial⟩
  | cons a r ih =>
    show (TValue.wf a ∧ TValue.wfL r) ↔ _
    rw [ih]; simp
theorem TValue.wf_iff (x : TValue) : x.wf ↔ i64 x.FKind ∧ (i64 x.FInt ∧ ((fun _ => True) x.FText ∧ ((Sl.wf TValue.wf) x.FItems ∧ ((Sl.wf (fun _ => True)) x.FKeys ∧ (True))))) := by
  cases x with
  | mk y_Kind y_Int y_Text nl l y_Keys =>
    show (i64 y_Kind ∧ (i64 y_Int ∧ ((fun _ => True) y_Text ∧ (((nl = true → l = []) ∧ l.length ≤ maxN ∧ TValue.wfL l) ∧ ((Sl.wf (fun _ => True)) y_Keys ∧ (True)))))) ↔ _
    rw [TValue.wfL_iff]; exact Iff.rfl
include hB in
theorem rd_TValue_84 : ∀ N, RdN Try.prog B N 84 TValue.c TValue.sz TValue.wf := by
  have key : ∀ N M, M ≤ N → RdN Try.prog B M 84 TValue.c TValue.sz TValue.wf := by
    intro N
    induction N with
    | zero => intro M hM; rw [Nat.le_zero.1 hM]; exact .zero
    | succ N ih =>
      intro M hM
      cases M with
      | zero => exact .zero
      | succ N_ =>
        have hit : RdN Try.prog B N_ 82 (fun s : Sl TValue => [Sl.d 5 TValue.c none s]) (Sl.sz TValue.sz) (Sl.wf TValue.wf) := by
          cases N_ with
          | zero => exact .zero
          | succ M => exact RdS.sliceN hB (Try.tab_ok 82 _ rfl) rfl (Try.tab_ok 84 _ rfl) rfl (by decide) (fun _ => rfl) (ih M (by omega))
        refine RdN.struct hB (Try.tab_ok 84 _ rfl) rfl (RdP.cons (n := 5) (o := 0) (o' := 1) (Try.tab_ok 3 _ rfl) rfl ((RdS.int hB (Try.tab_ok 3 _ rfl) rfl) N_) (RdP.cons (n := 5) (o := 1) (o' := 2) (Try.tab_ok 3 _ rfl) rfl ((RdS.int hB (Try.tab_ok 3 _ rfl) rfl) N_) (RdP.cons (n := 5) (o := 2) (o' := 3) (Try.tab_ok 9 _ rfl) rfl ((RdS.str hB (Try.tab_ok 9 _ rfl) rfl) N_) (RdP.cons (n := 5) (o := 3) (o' := 4) (Try.tab_ok 82 _ rfl) rfl hit (RdP.cons (n := 5) (o := 4) (o' := 5) (Try.tab_ok 42 _ rfl) rfl ((RdS.slice hB (Try.tab_ok 42 _ rfl) rfl (Try.tab_ok 9 _ rfl) rfl (by decide) (fun _ => rfl) (RdS.str hB (Try.tab_ok 9 _ rfl) rfl)) N_) (RdP.nil (n := 5))))))) (fun a => TValue.mk a.1 a.2.1 a.2.2.1 a.2.2.2.1.nl a.2.2.2.1.l a.2.2.2.2.1) (fun a => ?_) (fun a => by rw [TValue.sz_eq]; exact Nat.le_refl _) (fun a h => by rw [TValue.wf_iff]; exact h)
        unfold TValue.c
        rw [TValue.FItemsD_eq]
        rfl
  exact fun N => key N N (Nat.le_refl _)
noncomputable def TArg.sz (x : TArg) : Nat := Bs.sz x.FName + (TValue.sz x.FValue + (0))
def TArg.wf (x : TArg) : Prop := (fun _ => True) x.FName ∧ (TValue.wf x.FValue ∧ (True))
include hB in
theorem rd_TArg_101 : ∀ N, RdN Try.prog B N 101 TArg.c TArg.sz TArg.wf := RdA.struct hB (Try.tab_ok 101 _ rfl) rfl (fun N_ => (RdP.cons (n := 6) (o := 0) (o' := 1) (Try.tab_ok 9 _ rfl) rfl ((RdS.str hB (Try.tab_ok 9 _ rfl) rfl) N_) (RdP.cons (n := 6) (o := 1) (o' := 6) (Try.tab_ok 84 _ rfl) rfl ((rd_TValue_84 hB) N_) (RdP.nil (n := 6))))) (fun a => (⟨a.1, a.2.1⟩ : TArg)) (fun _ => rfl) (fun _ => Nat.le_refl _) (fun _ h => h)
noncomputable def TDir.sz (x : TDir) : Nat := Bs.sz x.FName + ((Sl.sz TArg.sz) x.FArgs + (0))
def TDir.wf (x : TDir) : Prop := (fun _ => True) x.FName ∧ ((Sl.wf TArg.wf) x.FArgs ∧ (True))
include hB in
theorem rd_TDir_112 : ∀ N, RdN Try.prog B N 112 TDir.c TDir.sz TDir.wf := RdA.struct hB (Try.tab_ok 112 _ rfl) rfl (fun N_ => (RdP.cons (n := 2) (o := 0) (o' := 1) (Try.tab_ok 9 _ rfl) rfl ((RdS.str hB (Try.tab_ok 9 _ rfl) rfl) N_) (RdP.cons (n := 2) (o := 1) (o' := 2) (Try.tab_ok 51 _ rfl) rfl ((RdS.slice hB (Try.tab_ok 51 _ rfl) rfl (Try.tab_ok 101 _ rfl) rfl (by decide) (fun _ => rfl) (rd_TArg_101 hB)) N_) (RdP.nil (n := 2))))) (fun a => (⟨a.1, a.2.1⟩ : TDir)) (fun _ => rfl) (fun _ => Nat.le_refl _) (fun _ h => h)
noncomputable def TRef.sz (x : TRef) : Nat := Bs.sz x.FName + ((Sl.sz (fun _ => 1)) x.FWraps + (0))
def TRef.wf (x : TRef) : Prop := (fun _ => True) x.FName ∧ ((Sl.wf i64) x.FWraps ∧ (True))
include hB in
theorem rd_TRef_29 : ∀ N, RdN Try.prog B N 29 TRef.c TRef.sz TRef.wf := RdA.struct hB (Try.tab_ok 29 _ rfl) rfl (fun N_ => (RdP.cons (n := 2) (o := 0) (o' := 1) (Try.tab_ok 9 _ rfl) rfl ((RdS.str hB (Try.tab_ok 9 _ rfl) rfl) N_) (RdP.cons (n := 2) (o := 1) (o' := 2) (Try.tab_ok 27 _ rfl) rfl ((RdS.slice hB (Try.tab_ok 27 _ rfl) rfl (Try.tab_ok 3 _ rfl) rfl (by decide) (fun _ => rfl) (RdS.int hB (Try.tab_ok 3 _ rfl) rfl)) N_) (RdP.nil (n := 2))))) (fun a => (⟨a.1, a.2.1⟩ : TRef)) (fun _ => rfl) (fun _ => Nat.le_refl _) (fun _ h => h)
noncomputable def TInput.sz (x : TInput) : Nat := Bs.sz x.FName + (TRef.sz x.FType + ((fun _ => 1) x.FHas + (TValue.sz x.FDefault + ((Sl.sz TDir.sz) x.FDirs + (0)))))
def TInput.wf (x : TInput) : Prop := (fun _ => True) x.FName ∧ (TRef.wf x.FType ∧ ((fun _ => True) x.FHas ∧ (TValue.wf x.FDefault ∧ ((Sl.wf TDir.wf) x.FDirs ∧ (True)))))
include hB in
theorem rd_TInput_86 : ∀ N, RdN Try.prog B N 86 TInput.c TInput.sz TInput.wf := RdA.struct hB (Try.tab_ok 86 _ rfl) rfl (fun N_ => (RdP.cons (n := 10) (o := 0) (o' := 1) (Try.tab_ok 9 _ rfl) rfl ((RdS.str hB (Try.tab_ok 9 _ rfl) rfl) N_) (RdP.cons (n := 10) (o := 1) (o' := 3) (Try.tab_ok 29 _ rfl) rfl ((rd_TRef_29 hB) N_) (RdP.cons (n := 10) (o := 3) (o' := 4) (Try.tab_ok 4 _ rfl) rfl ((RdS.bool hB (Try.tab_ok 4 _ rfl) rfl) N_) (RdP.cons (n := 10) (o := 4) (o' := 9) (Try.tab_ok 84 _ rfl) rfl ((rd_TValue_84 hB) N_) (RdP.cons (n := 10) (o := 9) (o' := 10) (Try.tab_ok 43 _ rfl) rfl ((RdS.slice hB (Try.tab_ok 43 _ rfl) rfl (Try.tab_ok 112 _ rfl) rfl (by decide) (fun _ => rfl) (rd_TDir_112 hB)) N_) (RdP.nil (n := 10)))))))) (fun a => (⟨a.1, a.2.1, a.2.2.1, a.2.2.2.1, a.2.2.2.2.1⟩ : TInput)) (fun _ => rfl) (fun _ => Nat.le_refl _) (fun _ h => h)
noncomputable def TField.sz (x : TField) : Nat := Bs.sz x.FName + ((Sl.sz TInput.sz) x.FArgs + (TRef.sz x.FType + ((Sl.sz TDir.sz) x.FDirs + (0))))
def TField.wf (x : TField) : Prop := (fun _ => True) x.FName ∧ ((Sl.wf TInput.wf) x.FArgs ∧ (TRef.wf x.FType ∧ ((Sl.wf TDir.wf) x.FDirs ∧ (True))))
include hB in
theorem rd_TField_50 : ∀ N, RdN Try.prog B N 50 TField.c TField.sz TField.wf := RdA.struct hB (Try.tab_ok 50 _ rfl) rfl (fun N_ => (RdP.cons (n := 5) (o := 0) (o' := 1) (Try.tab_ok 9 _ rfl) rfl ((RdS.str hB (Try.tab_ok 9 _ rfl) rfl) N_) (RdP.cons (n := 5) (o := 1) (o' := 2) (Try.tab_ok 46 _ rfl) rfl ((RdS.slice hB (Try.tab_ok 46 _ rfl) rfl (Try.tab_ok 86 _ rfl) rfl (by decide) (fun _ => rfl) (rd_TInput_86 hB)) N_) (RdP.cons (n := 5) (o := 2) (o' := 4) (Try.tab_ok 29 _ rfl) rfl ((rd_TRef_29 hB) N_) (RdP.cons (n := 5) (o := 4) (o' := 5) (Try.tab_ok 43 _ rfl) rfl ((RdS.slice hB (Try.tab_ok 43 _ rfl) rfl (Try.tab_ok 112 _ rfl) rfl (by decide) (fun _ => rfl) (rd_TDir_112 hB)) N_) (RdP.nil (n := 5))))))) (fun a => (⟨a.1, a.2.1, a.2.2.1, a.2.2.2.1⟩ : TField)) (fun _ => rfl) (fun _ => Nat.le_refl _) (fun _ h => h)
noncomputable def TMember.sz (x : TMember) : Nat := Bs.sz x.FName + ((Sl.sz TDir.sz) x.FDirs + (0))
def TMember.wf (x : TMember) : Prop := (fun _ => True) x.FName ∧ ((Sl.wf TDir.wf) x.FDirs ∧ (True))
include hB in
theorem rd_TMember_88 : ∀ N, RdN Try.prog B N 88 TMember.c TMember.sz TMember.wf := RdA.struct hB (Try.tab_ok 88 _ rfl) rfl (fun N_ => (RdP.cons (n := 2) (o := 0) (o' := 1) (Try.tab_ok 9 _ rfl) rfl ((RdS.str hB (Try.tab_ok 9 _ rfl) rfl) N_) (RdP.cons (n := 2) (o := 1) (o' := 2) (Try.tab_ok 43 _ rfl) rfl ((RdS.slice hB (Try.tab_ok 43 _ rfl) rfl (Try.tab_ok 112 _ rfl) rfl (by decide) (fun _ => rfl) (rd_TDir_112 hB)) N_) (RdP.nil (n := 2))))) (fun a => (⟨a.1, a.2.1⟩ : TMember)) (fun _ => rfl) (fun _ => Nat.le_refl _) (fun _ h => h)
noncomputable def TDef.sz (x : TDef) : Nat := (fun _ => 1) x.FKind + (Bs.sz x.FName + ((Sl.sz Bs.sz) x.FImplements + ((Sl.sz TDir.sz) x.FDirs + ((Sl.sz TField.sz) x.FFields + ((Sl.sz TMember.sz) x.FMembers + ((Sl.sz TInput.sz) x.FInputs + (0)))))))
def TDef.wf (x : TDef) : Prop := i64 x.FKind ∧ ((fun _ => True) x.FName ∧ ((Sl.wf (fun _ => True)) x.FImplements ∧ ((Sl.wf TDir.wf) x.FDirs ∧ ((Sl.wf TField.wf) x.FFields ∧ ((Sl.wf TMember.wf) x.FMembers ∧ ((Sl.wf TInput.wf) x.FInputs ∧ (True)))))))
include hB in
theorem rd_TDef_48 : ∀ N, RdN Try.prog B N 48 TDef.c TDef.sz TDef.wf := RdA.struct hB (Try.tab_ok 48 _ rfl) rfl (fun N_ => (RdP.cons (n := 7) (o := 0) (o' := 1) (Try.tab_ok 3 _ rfl) rfl ((RdS.int hB (Try.tab_ok 3 _ rfl) rfl) N_) (RdP.cons (n := 7) (o := 1) (o' := 2) (Try.tab_ok 9 _ rfl) rfl ((RdS.str hB (Try.tab_ok 9 _ rfl) rfl) N_) (RdP.cons (n := 7) (o := 2) (o' := 3) (Try.tab_ok 42 _ rfl) rfl ((RdS.slice hB (Try.tab_ok 42 _ rfl) rfl (Try.tab_ok 9 _ rfl) rfl (by decide) (fun _ => rfl) (RdS.str hB (Try.tab_ok 9 _ rfl) rfl)) N_) (RdP.cons (n := 7) (o := 3) (o' := 4) (Try.tab_ok 43 _ rfl) rfl ((RdS.slice hB (Try.tab_ok 43 _ rfl) rfl (Try.tab_ok 112 _ rfl) rfl (by decide) (fun _ => rfl) (rd_TDir_112 hB)) N_) (RdP.cons (n := 7) (o := 4) (o' := 5) (Try.tab_ok 44 _ rfl) rfl ((RdS.slice hB (Try.tab_ok 44 _ rfl) rfl (Try.tab_ok 50 _ rfl) rfl (by decide) (fun _ => rfl) (rd_TField_50 hB)) N_) (RdP.cons (n := 7) (o := 5) (o' := 6) (Try.tab_ok 45 _ rfl) rfl ((RdS.slice hB (Try.tab_ok 45 _ rfl) rfl (Try.tab_ok 88 _ rfl) rfl (by decide) (fun _ => rfl) (rd_TMember_88 hB)) N_) (RdP.cons (n := 7) (o := 6) (o' := 7) (Try.tab_ok 46 _ rfl) rfl ((RdS.slice hB (Try.tab_ok 46 _ rfl) rfl (Try.tab_ok 86 _ rfl) rfl (by decide) (fun _ => rfl) (rd_TInput_86 hB)) N_) (RdP.nil (n := 7)))))))))) (fun a => (⟨a.1, a.2.1, a.2.2.1, a.2.2.2.1, a.2.2.2.2.1, a.2.2.2.2.2.1, a.2.2.2.2.2.2.1⟩ : TDef)) (fun _ => rfl) (fun _ => Nat.le_refl _) (fun _ h => h)
noncomputable def TDoc.sz (x : TDoc) : Nat := (Sl.sz TDef.sz) x.FDefs + (0)
def TDoc.wf (x : TDoc) : Prop := (Sl.wf TDef.wf) x.FDefs ∧ (True)
include hB in
theorem rd_TDoc_24 : ∀ N, RdN Try.prog B N 24 TDoc.c TDoc.sz TDoc.wf := RdA.struct hB (Try.tab_ok 24 _ rfl) rfl (fun N_ => (RdP.cons (n := 1) (o := 0) (o' := 1) (Try.tab_ok 22 _ rfl) rfl ((RdS.slice hB (Try.tab_ok 22 _ rfl) rfl (Try.tab_ok 48 _ rfl) rfl (by decide) (fun _ => rfl) (rd_TDef_48 hB)) N_) (RdP.nil (n := 1)))) (fun a => (⟨a.1⟩ : TDoc)) (fun _ => rfl) (fun _ => Nat.le_refl _) (fun _ h => h)
noncomputable def TVar.sz (x : TVar) : Nat := Bs.sz x.FName + (TRef.sz x.FType + ((fun _ => 1) x.FHas + (TValue.sz x.FDefault + (0))))
def TVar.wf (x : TVar) : Prop := (fun _ => True) x.FName ∧ (TRef.wf x.FType ∧ ((fun _ => True) x.FHas ∧ (TValue.wf x.FDefault ∧ (True))))
include hB in
theorem rd_TVar_108 : ∀ N, RdN Try.prog B N 108 TVar.c TVar.sz TVar.wf := RdA.struct hB (Try.tab_ok 108 _ rfl) rfl (fun N_ => (RdP.cons (n := 9) (o := 0) (o' := 1) (Try.tab_ok 9 _ rfl) rfl ((RdS.str hB (Try.tab_ok 9 _ rfl) rfl) N_) (RdP.cons (n := 9) (o := 1) (o' := 3) (Try.tab_ok 29 _ rfl) rfl ((rd_TRef_29 hB) N_) (RdP.cons (n := 9) (o := 3) (o' := 4) (Try.tab_ok 4 _ rfl) rfl ((RdS.bool hB (Try.tab_ok 4 _ rfl) rfl) N_) (RdP.cons (n := 9) (o := 4) (o' := 9) (Try.tab_ok 84 _ rfl) rfl ((rd_TValue_84 hB) N_) (RdP.nil (n := 9))))))) (fun a => (⟨a.1, a.2.1, a.2.2.1, a.2.2.2.1⟩ : TVar)) (fun _ => rfl) (fun _ => Nat.le_refl _) (fun _ h => h)
noncomputable def TSel.sz : TSel → Nat := @TSel.rec (fun _ => Nat) (fun _ => Nat) (fun y_Kind y_Alias y_Name y_On y_Args y_Dirs nl l ih => (fun _ => 1) y_Kind + (Bs.sz y_Alias + (Bs.sz y_Name + (Bs.sz y_On + ((Sl.sz TArg.sz) y_Args + ((Sl.sz TDir.sz) y_Dirs + ((1 + ih) + (0)))))))) 0 (fun _ _ ih ihl => ih + ihl)
noncomputable def TSel.szL : List TSel → Nat := @TSel.rec_1 (fun _ => Nat) (fun _ => Nat) (fun y_Kind y_Alias y_Name y_On y_Args y_Dirs nl l ih => (fun _ => 1) y_Kind + (Bs.sz y_Alias + (Bs.sz y_Name + (Bs.sz y_On + ((Sl.sz TArg.sz) y_Args + ((Sl.sz TDir.sz) y_Dirs + ((1 + ih) + (0)))))))) 0 (fun _ _ ih ihl => ih + ihl)
theorem TSel.szL_eq (l : List TSel) : TSel.szL l = (l.map TSel.sz).sum := by
  induction l with
  | nil => rfl
  | cons a r ih => exact congrArg (TSel.sz a + ·) ih
theorem TSel.sz_eq (x : TSel) : x.sz = (fun _ => 1) x.FKind + (Bs.sz x.FAlias + (Bs.sz x.FName + (Bs.sz x.FOn + ((Sl.sz TArg.sz) x.FArgs + ((Sl.sz TDir.sz) x.FDirs + ((Sl.sz TSel.sz) x.FSels + (0))))))) := by
  cases x with
  | mk y_Kind y_Alias y_Name y_On y_Args y_Dirs nl l =>
    show (fun _ => 1) y_Kind + (Bs.sz y_Alias + (Bs.sz y_Name + (Bs.sz y_On + ((Sl.sz TArg.sz) y_Args + ((Sl.sz TDir.sz) y_Dirs + ((1 + TSel.szL l) + (0))))))) = _
    rw [TSel.szL_eq]; rfl
def TSel.wf : TSel → Prop := @TSel.rec (fun _ => Prop) (fun _ => Prop) (fun y_Kind y_Alias y_Name y_On y_Args y_Dirs nl l ih => i64 y_Kind ∧ ((fun _ => True) y_Alias ∧ ((fun _ => True) y_Name ∧ ((fun _ => True) y_On ∧ ((Sl.wf TArg.wf) y_Args ∧ ((Sl.wf TDir.wf) y_Dirs ∧ (((nl = true → l = []) ∧ l.length ≤ maxN ∧ ih) ∧ (True)))))))) True (fun _ _ ih ihl => ih ∧ ihl)
def TSel.wfL : List TSel → Prop := @TSel.rec_1 (fun _ => Prop) (fun _ => Prop) (fun y_Kind y_Alias y_Name y_On y_Args y_Dirs nl l ih => i64 y_Kind ∧ ((fun _ => True) y_Alias ∧ ((fun _ => True) y_Name ∧ ((fun _ => True) y_On ∧ ((Sl.wf TArg.wf) y_Args ∧ ((Sl.wf TDir.wf) y_Dirs ∧ (((nl = true → l = []) ∧ l.length ≤ maxN ∧ ih) ∧ (True)))))))) True (fun _ _ ih ihl => ih ∧ ihl)
theorem TSel.wfL_iff (l : List TSel) : TSel.wfL l ↔ ∀ x ∈ l, TSel.wf x := by
  induction l with
  | nil => exact ⟨fun _ _ h => (by cases h), fun _ => trivial⟩
  | cons a r ih =>
    show (TSel.wf a ∧ TSel.wfL r) ↔ _
    rw [ih]; simp
theorem TSel.wf_iff (x : TSel) : x.wf ↔ i64 x.FKind ∧ ((fun _ => True) x.FAlias ∧ ((fun _ => True) x.FName ∧ ((fun _ => True) x.FOn ∧ ((Sl.wf TArg.wf) x.FArgs ∧ ((Sl.wf TDir.wf) x.FDirs ∧ ((Sl.wf TSel.wf) x.FSels ∧ (True))))))) := by
  cases x with
  | mk y_Kind y_Alias y_Name y_On y_Args y_Dirs nl l =>
    show (i64 y_Kind ∧ ((fun _ => True) y_Alias ∧ ((fun _ => True) y_Name ∧ ((fun _ => True) y_On ∧ ((Sl.wf TArg.wf) y_Args ∧ ((Sl.wf TDir.wf) y_Dirs ∧ (((nl = true → l = []) ∧ l.length ≤ maxN ∧ TSel.wfL l) ∧ (True)))))))) ↔ _
    rw [TSel.wfL_iff]; exact Iff.rfl
include hB in
theorem rd_TSel_54 : ∀ N, RdN Try.prog B N 54 TSel.c TSel.sz TSel.wf := by
  have key : ∀ N M, M ≤ N → RdN Try.prog B M 54 TSel.c TSel.sz TSel.wf := by
    intro N
    induction N with
    | zero => intro M hM; rw [Nat.le_zero.1 hM]; exact .zero
    | succ N ih =>
      intro M hM
      cases M with
      | zero => exact .zero
      | succ N_ =>
        have hit : RdN Try.prog B N_ 52 (fun s : Sl TSel => [Sl.d 7 TSel.c none s]) (Sl.sz TSel.sz) (Sl.wf TSel.wf) := by
          cases N_ with
          | zero => exact .zero
          | succ M => exact RdS.sliceN hB (Try.tab_ok 52 _ rfl) rfl (Try.tab_ok 54 _ rfl) rfl (by decide) (fun _ => rfl) (ih M (by omega))
        refine RdN.struct hB (Try.tab_ok 54 _ rfl) rfl (RdP.cons (n := 7) (o := 0) (o' := 1) (Try.tab_ok 3 _ rfl) rfl ((RdS.int hB (Try.tab_ok 3 _ rfl) rfl) N_) (RdP.cons (n := 7) (o := 1) (o' := 2) (Try.tab_ok 9 _ rfl) rfl ((RdS.str hB (Try.tab_ok 9 _ rfl) rfl) N_) (RdP.cons (n := 7) (o := 2) (o' := 3) (Try.tab_ok 9 _ rfl) rfl ((RdS.str hB (Try.tab_ok 9 _ rfl) rfl) N_) (RdP.cons (n := 7) (o := 3) (o' := 4) (Try.tab_ok 9 _ rfl) rfl ((RdS.str hB (Try.tab_ok 9 _ rfl) rfl) N_) (RdP.cons (n := 7) (o := 4) (o' := 5) (Try.tab_ok 51 _ rfl) rfl ((RdS.slice hB (Try.tab_ok 51 _ rfl) rfl (Try.tab_ok 101 _ rfl) rfl (by decide) (fun _ => rfl) (rd_TArg_101 hB)) N_) (RdP.cons (n := 7) (o := 5) (o' := 6) (Try.tab_ok 43 _ rfl) rfl ((RdS.slice hB (Try.tab_ok 43 _ rfl) rfl (Try.tab_ok 112 _ rfl) rfl (by decide) (fun _ => rfl) (rd_TDir_112 hB)) N_) (RdP.cons (n := 7) (o := 6) (o' := 7) (Try.tab_ok 52 _ rfl) rfl hit (RdP.nil (n := 7))))))))) (fun a => TSel.mk a.1 a.2.1 a.2.2.1 a.2.2.2.1 a.2.2.2.2.1 a.2.2.2.2.2.1 a.2.2.2.2.2.2.1.nl a.2.2.2.2.2.2.1.l) (fun a => ?_) (fun a => by rw [TSel.sz_eq]; exact Nat.le_refl _) (fun a h => by rw [TSel.wf_iff]; exact h)
        unfold TSel.c
        rw [TSel.FSelsD_eq]
        rfl
  exact fun N => key N N (Nat.le_refl _)
noncomputable def TOp.sz (x : TOp) : Nat := (fun _ => 1) x.FKind + (Bs.sz x.FName + ((Sl.sz TVar.sz) x.FVars + ((Sl.sz TSel.sz) x.FSels + (0))))
def TOp.wf (x : TOp) : Prop := i64 x.FKind ∧ ((fun _ => True) x.FName ∧ ((Sl.wf TVar.wf) x.FVars ∧ ((Sl.wf TSel.wf) x.FSels ∧ (True))))
include hB in
theorem rd_TOp_57 : ∀ N, RdN Try.prog B N 57 TOp.c TOp.sz TOp.wf := RdA.struct hB (Try.tab_ok 57 _ rfl) rfl (fun N_ => (RdP.cons (n := 4) (o := 0) (o' := 1) (Try.tab_ok 3 _ rfl) rfl ((RdS.int hB (Try.tab_ok 3 _ rfl) rfl) N_) (RdP.cons (n := 4) (o := 1) (o' := 2) (Try.tab_ok 9 _ rfl) rfl ((RdS.str hB (Try.tab_ok 9 _ rfl) rfl) N_) (RdP.cons (n := 4) (o := 2) (o' := 3) (Try.tab_ok 55 _ rfl) rfl ((RdS.slice hB (Try.tab_ok 55 _ rfl) rfl (Try.tab_ok 108 _ rfl) rfl (by decide) (fun _ => rfl) (rd_TVar_108 hB)) N_) (RdP.cons (n := 4) (o := 3) (o' := 4) (Try.tab_ok 52 _ rfl) rfl ((RdS.slice hB (Try.tab_ok 52 _ rfl) rfl (Try.tab_ok 54 _ rfl) rfl (by decide) (fun _ => rfl) (rd_TSel_54 hB)) N_) (RdP.nil (n := 4))))))) (fun a => (⟨a.1, a.2.1, a.2.2.1, a.2.2.2.1⟩ : TOp)) (fun _ => rfl) (fun _ => Nat.le_refl _) (fun _ h => h)
noncomputable def TFrag.sz (x : TFrag) : Nat := Bs.sz x.FName + (Bs.sz x.FOn + ((Sl.sz TSel.sz) x.FSels + (0)))
def TFrag.wf (x : TFrag) : Prop := (fun _ => True) x.FName ∧ ((fun _ => True) x.FOn ∧ ((Sl.wf TSel.wf) x.FSels ∧ (True)))
include hB in
theorem rd_TFrag_81 : ∀ N, RdN Try.prog B N 81 TFrag.c TFrag.sz TFrag.wf := RdA.struct hB (Try.tab_ok 81 _ rfl) rfl (fun N_ => (RdP.cons (n := 3) (o := 0) (o' := 1) (Try.tab_ok 9 _ rfl) rfl ((RdS.str hB (Try.tab_ok 9 _ rfl) rfl) N_) (RdP.cons (n := 3) (o := 1) (o' := 2) (Try.tab_ok 9 _ rfl) rfl ((RdS.str hB (Try.tab_ok 9 _ rfl) rfl) N_) (RdP.cons (n := 3) (o := 2) (o' := 3) (Try.tab_ok 52 _ rfl) rfl ((RdS.slice hB (Try.tab_ok 52 _ rfl) rfl (Try.tab_ok 54 _ rfl) rfl (by decide) (fun _ => rfl) (rd_TSel_54 hB)) N_) (RdP.nil (n := 3)))))) (fun a => (⟨a.1, a.2.1, a.2.2.1⟩ : TFrag)) (fun _ => rfl) (fun _ => Nat.le_refl _) (fun _ h => h)
noncomputable def TQuery.sz (x : TQuery) : Nat := (Sl.sz TOp.sz) x.FOps + ((Sl.sz TFrag.sz) x.FFrags + (0))
def TQuery.wf (x : TQuery) : Prop := (Sl.wf TOp.wf) x.FOps ∧ ((Sl.wf TFrag.wf) x.FFrags ∧ (True))
include hB in
theorem rd_TQuery_37 : ∀ N, RdN Try.prog B N 37 TQuery.c TQuery.sz TQuery.wf := RdA.struct hB (Try.tab_ok 37 _ rfl) rfl (fun N_ => (RdP.cons (n := 2) (o := 0) (o' := 1) (Try.tab_ok 34 _ rfl) rfl ((RdS.slice hB (Try.tab_ok 34 _ rfl) rfl (Try.tab_ok 57 _ rfl) rfl (by decide) (fun _ => rfl) (rd_TOp_57 hB)) N_) (RdP.cons (n := 2) (o := 1) (o' := 2) (Try.tab_ok 35 _ rfl) rfl ((RdS.slice hB (Try.tab_ok 35 _ rfl) rfl (Try.tab_ok 81 _ rfl) rfl (by decide) (fun _ => rfl) (rd_TFrag_81 hB)) N_) (RdP.nil (n := 2))))) (fun a => (⟨a.1, a.2.1⟩ : TQuery)) (fun _ => rfl) (fun _ => Nat.le_refl _) (fun _ h => h)
end
theorem TValue.sz_def (x : TValue) : x.sz = 0 + 1 + 1 + Bs.sz x.FText + (Sl.sz TValue.sz) x.FItems + (Sl.sz Bs.sz) x.FKeys := by
  rw [TValue.sz_eq]; try dsimp only
  omega
theorem TValue.pos (x : TValue) : 1 ≤ x.sz := by
  rw [TValue.sz_def]; have := Bs.sz_pos x.FText; omega
theorem TValue.FKind_wf {x : TValue} (h : x.wf) : i64 x.FKind := ((TValue.wf_iff x).1 h).1
theorem TValue.FInt_wf {x : TValue} (h : x.wf) : i64 x.FInt := ((TValue.wf_iff x).1 h).2.1
theorem TValue.FItems_wf {x : TValue} (h : x.wf) : (Sl.wf TValue.wf) x.FItems := ((TValue.wf_iff x).1 h).2.2.2.1
theorem TValue.FKeys_wf {x : TValue} (h : x.wf) : (Sl.wf (fun _ => True)) x.FKeys := ((TValue.wf_iff x).1 h).2.2.2.2.1
theorem TArg.sz_def (x : TArg) : x.sz = 0 + Bs.sz x.FName + TValue.sz x.FValue := by
  unfold TArg.sz; try dsimp only
  omega
theorem TArg.pos (x : TArg) : 1 ≤ x.sz := by
  rw [TArg.sz_def]; have := Bs.sz_pos x.FName; omega
theorem TArg.FValue_wf {x : TArg} (h : x.wf) : TValue.wf x.FValue := h.2.1
theorem TDir.sz_def (x : TDir) : x.sz = 0 + Bs.sz x.FName + (Sl.sz TArg.sz) x.FArgs := by
  unfold TDir.sz; try dsimp only
  omega
theorem TDir.pos (x : TDir) : 1 ≤ x.sz := by
  rw [TDir.sz_def]; have := Bs.sz_pos x.FName; omega
theorem TDir.FArgs_wf {x : TDir} (h : x.wf) : (Sl.wf TArg.wf) x.FArgs := h.2.1
theorem TRef.sz_def (x : TRef) : x.sz = 0 + Bs.sz x.FName + (Sl.sz (fun _ => 1)) x.FWraps := by
  unfold TRef.sz; try dsimp only
  omega
theorem TRef.pos (x : TRef) : 1 ≤ x.sz := by
  rw [TRef.sz_def]; have := Bs.sz_pos x.FName; omega
theorem TRef.FWraps_wf {x : TRef} (h : x.wf) : (Sl.wf i64) x.FWraps := h.2.1
theorem TInput.sz_def (x : TInput) : x.sz = 0 + Bs.sz x.FName + TRef.sz x.FType + 1 + TValue.sz x.FDefault + (Sl.sz TDir.sz) x.FDirs := by
  unfold TInput.sz; try dsimp only
  omega
theorem TInput.pos (x : TInput) : 1 ≤ x.sz := by
  rw [TInput.sz_def]; have := Bs.sz_pos x.FName; omega
theorem TInput.FType_wf {x : TInput} (h : x.wf) : TRef.wf x.FType := h.2.1
theorem TInput.FDefault_wf {x : TInput} (h : x.wf) : TValue.wf x.FDefault := h.2.2.2.1
theorem TInput.FDirs_wf {x : TInput} (h : x.wf) : (Sl.wf TDir.wf) x.FDirs := h.2.2.2.2.1
theorem TField.sz_def (x : TField) : x.sz = 0 + Bs.sz x.FName + (Sl.sz TInput.sz) x.FArgs + TRef.sz x.FType + (Sl.sz TDir.sz) x.FDirs := by
  unfold TField.sz; try dsimp only
  omega
theorem TField.pos (x : TField) : 1 ≤ x.sz := by
  rw [TField.sz_def]; have := Bs.sz_pos x.FName; omega
theorem TField.FArgs_wf {x : TField} (h : x.wf) : (Sl.wf TInput.wf) x.FArgs := h.2.1
theorem TField.FType_wf {x : TField} (h : x.wf) : TRef.wf x.FType := h.2.2.1
theorem TField.FDirs_wf {x : TField} (h : x.wf) : (Sl.wf TDir.wf) x.FDirs := h.2.2.2.1
theorem TMember.sz_def (x : TMember) : x.sz = 0 + Bs.sz x.FName + (Sl.sz TDir.sz) x.FDirs := by
  unfold TMember.sz; try dsimp only
  omega
theorem TMember.pos (x : TMember) : 1 ≤ x.sz := by
  rw [TMember.sz_def]; have := Bs.sz_pos x.FName; omega
theorem TMember.FDirs_wf {x : TMember} (h : x.wf) : (Sl.wf TDir.wf) x.FDirs := h.2.1
theorem TDef.sz_def (x : TDef) : x.sz = 0 + 1 + Bs.sz x.FName + (Sl.sz Bs.sz) x.FImplements + (Sl.sz TDir.sz) x.FDirs + (Sl.sz TField.sz) x.FFields + (Sl.sz TMember.sz) x.FMembers + (Sl.sz TInput.sz) x.FInputs := by
  unfold TDef.sz; try dsimp only
  omega
theorem TDef.pos (x : TDef) : 1 ≤ x.sz := by
  rw [TDef.sz_def]; have := Bs.sz_pos x.FName; omega
theorem TDef.FKind_wf {x : TDef} (h : x.wf) : i64 x.FKind := h.1
theorem TDef.FImplements_wf {x : TDef} (h : x.wf) : (Sl.wf (fun _ => True)) x.FImplements := h.2.2.1
theorem TDef.FDirs_wf {x : TDef} (h : x.wf) : (Sl.wf TDir.wf) x.FDirs := h.2.2.2.1
theorem TDef.FFields_wf {x : TDef} (h : x.wf) : (Sl.wf TField.wf) x.FFields := h.2.2.2.2.1
theorem TDef.FMembers_wf {x : TDef} (h : x.wf) : (Sl.wf TMember.wf) x.FMembers := h.2.2.2.2.2.1
theorem TDef.FInputs_wf {x : TDef} (h : x.wf) : (Sl.wf TInput.wf) x.FInputs := h.2.2.2.2.2.2.1
theorem TDoc.sz_def (x : TDoc) : x.sz = 0 + (Sl.sz TDef.sz) x.FDefs := by
  unfold TDoc.sz; try dsimp only
  omega
theorem TDoc.pos (x : TDoc) : 1 ≤ x.sz := by
  rw [TDoc.sz_def]; have := Sl.sz_pos TDef.sz x.FDefs; omega
theorem TDoc.FDefs_wf {x : TDoc} (h : x.wf) : (Sl.wf TDef.wf) x.FDefs := h.1
theorem TVar.sz_def (x : TVar) : x.sz = 0 + Bs.sz x.FName + TRef.sz x.FType + 1 + TValue.sz x.FDefault := by
  unfold TVar.sz; try dsimp only
  omega
theorem TVar.pos (x : TVar) : 1 ≤ x.sz := by
  rw [TVar.sz_def]; have := Bs.sz_pos x.FName; omega
theorem TVar.FType_wf {x : TVar} (h : x.wf) : TRef.wf x.FType := h.2.1
theorem TVar.FDefault_wf {x : TVar} (h : x.wf) : TValue.wf x.FDefault := h.2.2.2.1
theorem TSel.sz_def (x : TSel) : x.sz = 0 + 1 + Bs.sz x.FAlias + Bs.sz x.FName + Bs.sz x.FOn + (Sl.sz TArg.sz) x.FArgs + (Sl.sz TDir.sz) x.FDirs + (Sl.sz TSel.sz) x.FSels := by
  rw [TSel.sz_eq]; try dsimp only
  omega
theorem TSel.pos (x : TSel) : 1 ≤ x.sz := by
  rw [TSel.sz_def]; have := Bs.sz_pos x.FAlias; omega
theorem TSel.FKind_wf {x : TSel} (h : x.wf) : i64 x.FKind := ((TSel.wf_iff x).1 h).1
theorem TSel.FArgs_wf {x : TSel} (h : x.wf) : (Sl.wf TArg.wf) x.FArgs := ((TSel.wf_iff x).1 h).2.2.2.2.1
theorem TSel.FDirs_wf {x : TSel} (h : x.wf) : (Sl.wf TDir.wf) x.FDirs := ((TSel.wf_iff x).1 h).2.2.2.2.2.1
theorem TSel.FSels_wf {x : TSel} (h : x.wf) : (Sl.wf TSel.wf) x.FSels := ((TSel.wf_iff x).1 h).2.2.2.2.2.2.1
theorem TOp.sz_def (x : TOp) : x.sz = 0 + 1 + Bs.sz x.FName + (Sl.sz TVar.sz) x.FVars + (Sl.sz TSel.sz) x.FSels := by
  unfold TOp.sz; try dsimp only
  omega
theorem TOp.pos (x : TOp) : 1 ≤ x.sz := by
  rw [TOp.sz_def]; have := Bs.sz_pos x.FName; omega
theorem TOp.FKind_wf {x : TOp} (h : x.wf) : i64 x.FKind := h.1
theorem TOp.FVars_wf {x : TOp} (h : x.wf) : (Sl.wf TVar.wf) x.FVars := h.2.2.1
theorem TOp.FSels_wf {x : TOp} (h : x.wf) : (Sl.wf TSel.wf) x.FSels := h.2.2.2.1
theorem TFrag.sz_def (x : TFrag) : x.sz = 0 + Bs.sz x.FName + Bs.sz x.FOn + (Sl.sz TSel.sz) x.FSels := by
  unfold TFrag.sz; try dsimp only
  omega
theorem TFrag.pos (x : TFrag) : 1 ≤ x.sz := by
  rw [TFrag.sz_def]; have := Bs.sz_pos x.FName; omega
theorem TFrag.FSels_wf {x : TFrag} (h : x.wf) : (Sl.wf TSel.wf) x.FSels := h.2.2.1
theorem TQuery.sz_def (x : TQuery) : x.sz = 0 + (Sl.sz TOp.sz) x.FOps + (Sl.sz TFrag.sz) x.FFrags := by
  unfold TQuery.sz; try dsimp only
  omega
theorem TQuery.pos (x : TQuery) : 1 ≤ x.sz := by
  rw [TQuery.sz_def]; have := Sl.sz_pos TOp.sz x.FOps; omega
theorem TQuery.FOps_wf {x : TQuery} (h : x.wf) : (Sl.wf TOp.wf) x.FOps := h.1
theorem TQuery.FFrags_wf {x : TQuery} (h : x.wf) : (Sl.wf TFrag.wf) x.FFrags := h.2.1
end Go.Proofs

namespace Go.Proofs
open Go Go.Ab
def schema_Find_j2 (a0 : TDoc) (a1 : Bs)  (y3_l0 : TDef) : Option (TDef × Bool) := some ((TDef.mk (0 : Int) ([] : Bs) (Sl.nil : Sl Bs) (Sl.nil : Sl TDir) (Sl.nil : Sl TField) (Sl.nil : Sl TMember) (Sl.nil : Sl TInput)), false)
def schema_Find_l7 (a0 : TDoc) (a1 : Bs)  : Nat → Nat → TDef → Option (TDef × Bool)
 | 0, _, _ => none
 | n7 + 1, s11_8, y9_l0 => bif (decide (((s11_8 : Nat) : Int) < ((a0.FDefs.l.length : Nat) : Int))) then ((a0.FDefs.l[s11_8]?).bind fun x15 => bif ((x15.FName == a1)) then (some (x15, true)) else ((schema_Find_l7 a0 a1 n7) (s11_8 + 1) y9_l0)) else (schema_Find_j2 a0 a1  y9_l0)
def schema_Find (a0 : TDoc) (a1 : Bs) : Option (TDef × Bool) := schema_Find_l7 a0 a1 (a0.FDefs.l.length + 1) 0 TDef.zero
set_option maxRecDepth 100000 in
set_option maxHeartbeats 2000000 in
theorem schema_Find_walk {a0 : TDoc} {a1 : Bs}   {r : (TDef × Bool)} (hE : schema_Find a0 a1 = some r) (H : Heap)  : ACalls Try.prog 19 [.agg (TDoc.c a0), .d (.str a1)] H fun v h' => v = .tup [.agg (TDef.c r.1), .d (.bool r.2)] ∧ h' = H := by
 unfold schema_Find at hE
 refine ACalls.of_wp (fn := Try.f19) (c := _) Try.tab_ok (fun _ _ => Try.call19 _ _) Try.func19 rfl (n := 22) rfl (rs := [.cell 4 48, .tmp 5]) rfl rfl ?_
 refine AWp.seqK fun K1 hK1 => ?_
 refine AWp.region ?_
 refine AOps.s0 (Cert.boxV rfl) rfl ?_
 refine AOps.sL (Cert.allocL (Try.tab_ok _ _ rfl) rfl (by repeat (first | exact Snoc.nil | apply Snoc.cons))) rfl ?_
 refine AOps.s0 (Cert.assign (by conv => lhs; whnf)) rfl ?_
 refine AOps.nil ?_
 refine hK1 _ ?_
 clear hK1 K1
 refine AWp.seqJ (KeepsT.cons (k := 4) (by conv => lhs; whnf) KeepsT.nil) (fun (z : TDef) => []) (fun z => [TDef.c z]) (fun z => H) (fun z => schema_Find_j2 a0 a1 z = some r) ?_ ?_
 ·intro K2 hK2
  refine AWp.seqK fun K5 hK5 => ?_
  refine AWp.region ?_
  refine AOps.s0 (Cert.fieldV (Try.tab_ok _ _ rfl) rfl rfl (Try.tab_ok _ _ rfl) rfl rfl (by conv => lhs; whnf)) rfl ?_
  refine AOps.s0 (Cert.loadV (Try.tab_ok _ _ rfl) rfl rfl rfl) rfl ?_
  refine AOps.sLen (f := TDef.c) (s := a0.FDefs) (Try.tab_ok _ _ rfl) rfl rfl rfl rfl fun hL6 => ?_
  refine AOps.s0 (Cert.move (by conv => lhs; whnf)) rfl ?_
  refine AOps.nil ?_
  refine hK5 _ ?_
  clear hK5 K5
  refine AWp.block ?_
  refine AWp.loopO (KeepsT.cons (k := 1) (by conv => lhs; whnf) (KeepsT.cons (k := 4) (by conv => lhs; whnf) (KeepsT.cons (k := 9) (by conv => lhs; whnf) (KeepsT.cons (k := 10) (by conv => lhs; whnf) KeepsT.nil)))) (fun (z : Nat × Nat × TDef) => [(11, .a (.d (.int .i64 ((z.2.1 : Nat) : Int))))]) (fun z => [TDef.c z.2.2]) (fun z => H) (fun z => z.1) (fun z => schema_Find_l7 a0 a1 z.1 z.2.1 z.2.2 = some r) ((a0.FDefs.l.length + 1), 0, TDef.zero) hE Weak.toA ?_
  rintro ⟨n7, s11_8, y9_l0⟩ hE K7 hK7
  try dsimp only at hE
  cases n7 with
  | zero => cases hE
  | succ n7 =>
    rw [schema_Find_l7] at hE
    refine AWp.seqK fun K10 hK10 => ?_
    refine AWp.region ?_
    refine AOps.s0 (Cert.binI rfl rfl rfl) rfl ?_
    refine AOps.nil ?_
    refine hK10 _ ?_
    clear hK10 K10
    refine AWp.seqK fun K11 hK11 => ?_
    refine AWp.cond rfl (fun hc12 => ?_) (fun hc12 => ?_)
    ·have hE := condT hc12 hE
     try dsimp only at hc12
     have hf12 := of_decide_eq_true hc12
     refine AWp.skip ?_
     refine hK11 _ ?_
     clear hK11 K11
     refine AWp.seqK fun K13 hK13 => ?_
     refine AWp.block ?_
     refine AWp.seqK fun K14 hK14 => ?_
     refine AWp.region ?_
     obtain ⟨x15, gx15, hE⟩ := bindO_some hE
     refine AOps.s0 (Cert.idxMn (f := TDef.c) (n := s11_8) (Try.tab_ok _ _ rfl) rfl (Try.tab_ok _ _ rfl) rfl rfl rfl gx15) rfl ?_
     refine AOps.s0 (Cert.loadV (Try.tab_ok _ _ rfl) rfl rfl rfl) rfl ?_
     refine AOps.sL (Cert.allocL (Try.tab_ok _ _ rfl) rfl (by repeat (first | exact Snoc.nil | apply Snoc.cons))) rfl ?_
     refine AOps.sLn (Cert.storeLF (Try.tab_ok _ _ rfl) rfl rfl rfl rfl rfl (by repeat (first | exact SetAt.zero | apply SetAt.succ))) ?_
     refine AOps.nil ?_
     refine hK14 _ ?_
     clear hK14 K14
     refine AWp.freeze 7 _ rfl (by repeat (first | exact Snoc.nil | apply Snoc.cons)) (Keeps.c (k := 1) (by conv => lhs; whnf) (by rfl) (Keeps.c (k := 4) (by conv => lhs; whnf) (by rfl) (Keeps.c (k := 9) (by conv => lhs; whnf) (by rfl) (Keeps.c (k := 10) (by conv => lhs; whnf) (by rfl) (Keeps.c (k := 11) (by conv => lhs; whnf) (by rfl) Keeps.nil))))) ?_
     refine AWp.seqK fun K16 hK16 => ?_
     refine AWp.region ?_
     refine AOps.s0 (Cert.fieldV (Try.tab_ok _ _ rfl) rfl rfl (Try.tab_ok _ _ rfl) rfl rfl (by conv => lhs; whnf)) rfl ?_
     refine AOps.s0 (Cert.loadV (Try.tab_ok _ _ rfl) rfl rfl rfl) rfl ?_
     refine AOps.s0 (Cert.move (by conv => lhs; whnf)) rfl ?_
     refine AOps.s0 (Cert.binS rfl rfl rfl) rfl ?_
     refine AOps.nil ?_
     refine hK16 _ ?_
     clear hK16 K16
     refine AWp.cond rfl (fun hc17 => ?_) (fun hc17 => ?_)
     ·have hE := condT hc17 hE
      try dsimp only at hc17
      refine AWp.seqK fun K18 hK18 => ?_
      refine AWp.region ?_
      refine AOps.s0 (Cert.loadV (Try.tab_ok _ _ rfl) rfl rfl rfl) rfl ?_
      refine AOps.sLn (Cert.storeLF (Try.tab_ok _ _ rfl) rfl rfl rfl rfl rfl (by repeat (first | exact SetAt.zero | apply SetAt.succ))) ?_
      refine AOps.s0 (Cert.assign (by conv => lhs; whnf)) rfl ?_
      refine AOps.nil ?_
      refine hK18 _ ?_
      clear hK18 K18
      refine AWp.ret ?_
      repeat (first | refine xBlock_ret ?_ | refine xThen_ret ?_)
      obtain rfl := Option.some.inj hE
      refine retQ.retF H rfl ⟨rfl, rfl⟩ ?_
      exact (fun _ _ h => h)
     ·have hE := condF hc17 hE
      try dsimp only at hc17
      refine AWp.skip ?_
      refine hK13 _ ?_
      clear hK13 K13
      refine AWp.region ?_
      refine AOps.s0 (Cert.addI rfl rfl (by first | omega | (dsimp only; omega)) (by first | omega | (dsimp only; omega))) rfl ?_
      refine AOps.s0 (Cert.move (by conv => lhs; whnf)) rfl ?_
      refine AOps.nil ?_
      exact hK7 _ (n7, (s11_8 + 1), y9_l0) Weak.toA hE (Nat.lt_succ_self _)
    ·have hE := condF hc12 hE
     try dsimp only at hc12
     refine AWp.exit ?_
     exact hK2 _ y9_l0 Weak.toA hE
 ·rintro y3_l0 hE
  try dsimp only at hE
  unfold schema_Find_j2 at hE
  refine AWp.seqK fun K4 hK4 => ?_
  refine AWp.region ?_
  refine AOps.s0 (Cert.build Try.tab_ok rfl rfl rfl rfl rfl rfl) rfl ?_
  refine AOps.sLn (Cert.storeLF (Try.tab_ok _ _ rfl) rfl rfl rfl rfl rfl (by repeat (first | exact SetAt.zero | apply SetAt.succ))) ?_
  refine AOps.s0 (Cert.assign (by conv => lhs; whnf)) rfl ?_
  refine AOps.nil ?_
  refine hK4 _ ?_
  clear hK4 K4
  refine AWp.ret ?_
  repeat (first | refine xBlock_ret ?_ | refine xThen_ret ?_)
  obtain rfl := Option.some.inj hE
  refine retQ.retF H rfl ⟨rfl, rfl⟩ ?_
  exact (fun _ _ h => h)
def schema_kind (a0 : TDoc) (a1 : Bs) : Option Int := (schema_Find a0 a1).bind fun x3 => some x3.1.FKind
set_option maxRecDepth 100000 in
set_option maxHeartbeats 2000000 in
theorem schema_kind_walk {a0 : TDoc} {a1 : Bs}   {r : Int} (hE : schema_kind a0 a1 = some r) (H : Heap)  : ACalls Try.prog 35 [.agg (TDoc.c a0), .d (.str a1)] H fun v h' => v = .a (.d (.int .i64 r)) ∧ h' = H := by
 unfold schema_kind at hE
 refine ACalls.of_wp (fn := Try.f35) (c := _) Try.tab_ok (fun _ _ => Try.call35 _ _) Try.func35 rfl (n := 15) rfl (rs := [.tmp 4]) rfl rfl ?_
 refine AWp.seqK fun K1 hK1 => ?_
 refine AWp.region ?_
 refine AOps.s0 (Cert.boxV rfl) rfl ?_
 refine AOps.s0 (Cert.assign (by conv => lhs; whnf)) rfl ?_
 refine AOps.nil ?_
 refine hK1 _ ?_
 clear hK1 K1
 refine AWp.seqK fun K2 hK2 => ?_
 refine AWp.region ?_
 refine AOps.s0 (Cert.loadV (Try.tab_ok _ _ rfl) rfl rfl rfl) rfl ?_
 refine AOps.s0 (Cert.move (by conv => lhs; whnf)) rfl ?_
 obtain ⟨x3, gx3, hE⟩ := bindO_some hE
 refine AOps.s0 (Cert.callP rfl rfl (fun H => schema_Find_walk gx3 H)) rfl ?_
 refine AOps.s0 (Cert.move (by conv => lhs; whnf)) rfl ?_
 refine AOps.s0 (Cert.extract rfl rfl) rfl ?_
 refine AOps.s0 (Cert.extract rfl rfl) rfl ?_
 refine AOps.sL (Cert.allocL (Try.tab_ok _ _ rfl) rfl (by repeat (first | exact Snoc.nil | apply Snoc.cons))) rfl ?_
 refine AOps.sLn (Cert.storeLF (Try.tab_ok _ _ rfl) rfl rfl rfl rfl rfl (by repeat (first | exact SetAt.zero | apply SetAt.succ))) ?_
 refine AOps.s0 (Cert.assign (by conv => lhs; whnf)) rfl ?_
 refine AOps.nil ?_
 refine hK2 _ ?_
 clear hK2 K2
 refine AWp.freeze 5 _ rfl (by repeat (first | exact Snoc.nil | apply Snoc.cons)) Keeps.nil ?_
 refine AWp.seqK fun K4 hK4 => ?_
 refine AWp.region ?_
 refine AOps.s0 (Cert.fieldV (Try.tab_ok _ _ rfl) rfl rfl (Try.tab_ok _ _ rfl) rfl rfl (by conv => lhs; whnf)) rfl ?_
 refine AOps.s0 (Cert.loadV (Try.tab_ok _ _ rfl) rfl rfl rfl) rfl ?_
 refine AOps.s0 (Cert.assign (by conv => lhs; whnf)) rfl ?_
 refine AOps.nil ?_
 refine hK4 _ ?_
 clear hK4 K4
 refine AWp.ret ?_
 repeat (first | refine xBlock_ret ?_ | refine xThen_ret ?_)
 obtain rfl := Option.some.inj hE
 refine retQ.retF H rfl ⟨rfl, rfl⟩ ?_
 exact (fun _ _ h => h)
def schema_Scalar (a0 : Bs) : Option Bool := some (((((a0 == ([73, 110, 116] : Bs))) || ((a0 == ([83, 116, 114, 105, 110, 103] : Bs)))) || ((a0 == ([66, 111, 111, 108, 101, 97, 110] : Bs)))) || ((a0 == ([73, 68] : Bs))))
set_option maxRecDepth 100000 in
set_option maxHeartbeats 2000000 in
theorem schema_Scalar_walk {a0 : Bs}   {r : Bool} (hE : schema_Scalar a0 = some r) (H : Heap)  : ACalls Try.prog 36 [.d (.str a0)] H fun v h' => v = .a (.d (.bool r)) ∧ h' = H := by
 unfold schema_Scalar at hE
 refine ACalls.of_wp (fn := Try.f36) (c := _) Try.tab_ok (fun _ _ => Try.call36 _ _) Try.func36 rfl (n := 17) rfl (rs := [.tmp 2]) rfl rfl ?_
 refine AWp.seqK fun K1 hK1 => ?_
 refine AWp.region ?_
 refine AOps.s0 (Cert.assign (by conv => lhs; whnf)) rfl ?_
 refine AOps.nil ?_
 refine hK1 _ ?_
 clear hK1 K1
 refine AWp.seqK fun K2 hK2 => ?_
 refine AWp.region ?_
 refine AOps.s0 (Cert.move (by conv => lhs; whnf)) rfl ?_
 refine AOps.s0 (Cert.binS rfl rfl rfl) rfl ?_
 refine AOps.s0 (Cert.move (by conv => lhs; whnf)) rfl ?_
 refine AOps.gC rfl rfl (fun hC => Cert.move (by conv => lhs; whnf)) rfl ?_
 refine AOps.gC rfl rfl (fun hC => Cert.ungd (k := 6) rfl (by first | exact hC | exact andL hC | exact andL (andL hC) | exact andL (andL (andL hC)) | exact andR hC | simp_all) (Cert.binS rfl rfl rfl)) rfl ?_
 refine AOps.s0 (Cert.pickOr rfl rfl rfl (fun h => by first | exact h | exact notT h | exact andI hC h | exact andI hC (notT h) | simp_all)) rfl ?_
 refine AOps.s0 (Cert.move (by conv => lhs; whnf)) rfl ?_
 refine AOps.gC rfl rfl (fun hC => Cert.move (by conv => lhs; whnf)) rfl ?_
 refine AOps.gC rfl rfl (fun hC => Cert.ungd (k := 10) rfl (by first | exact hC | exact andL hC | exact andL (andL hC) | exact andL (andL (andL hC)) | exact andR hC | simp_all) (Cert.binS rfl rfl rfl)) rfl ?_
 refine AOps.s0 (Cert.pickOr rfl rfl rfl (fun h => by first | exact h | exact notT h | exact andI hC h | exact andI hC (notT h) | simp_all)) rfl ?_
 refine AOps.s0 (Cert.move (by conv => lhs; whnf)) rfl ?_
 refine AOps.gC rfl rfl (fun hC => Cert.move (by conv => lhs; whnf)) rfl ?_
 refine AOps.gC rfl rfl (fun hC => Cert.ungd (k := 14) rfl (by first | exact hC | exact andL hC | exact andL (andL hC) | exact andL (andL (andL hC)) | exact andR hC | simp_all) (Cert.binS rfl rfl rfl)) rfl ?_
 refine AOps.s0 (Cert.pickOr rfl rfl rfl (fun h => by first | exact h | exact notT h | exact andI hC h | exact andI hC (notT h) | simp_all)) rfl ?_
 refine AOps.s0 (Cert.assign (by conv => lhs; whnf)) rfl ?_
 refine AOps.nil ?_
 refine hK2 _ ?_
 clear hK2 K2
 refine AWp.ret ?_
 repeat (first | refine xBlock_ret ?_ | refine xThen_ret ?_)
 obtain rfl := Option.some.inj hE
 refine retQ.retF H rfl ⟨rfl, rfl⟩ ?_
 exact (fun _ _ h => h)
def schema_Composite (a0 : TDoc) (a1 : Bs) : Option Bool := (schema_kind a0 a1).bind fun x3 => (schema_Scalar a1).bind fun x5 => some ((!x5) && (((decide (x3 = (1 : Int))) || (decide (x3 = (2 : Int)))) || (decide (x3 = (3 : Int)))))
set_option maxRecDepth 100000 in
set_option maxHeartbeats 2000000 in
theorem schema_Composite_walk {a0 : TDoc} {a1 : Bs}   {r : Bool} (hE : schema_Composite a0 a1 = some r) (H : Heap)  : ACalls Try.prog 16 [.agg (TDoc.c a0), .d (.str a1)] H fun v h' => v = .a (.d (.bool r)) ∧ h' = H := by
 unfold schema_Composite at hE
 refine ACalls.of_wp (fn := Try.f16) (c := _) Try.tab_ok (fun _ _ => Try.call16 _ _) Try.func16 rfl (n := 24) rfl (rs := [.tmp 4]) rfl rfl ?_
 refine AWp.seqK fun K1 hK1 => ?_
 refine AWp.region ?_
 refine AOps.s0 (Cert.boxV rfl) rfl ?_
 refine AOps.s0 (Cert.assign (by conv => lhs; whnf)) rfl ?_
 refine AOps.nil ?_
 refine hK1 _ ?_
 clear hK1 K1
 refine AWp.seqK fun K2 hK2 => ?_
 refine AWp.region ?_
 refine AOps.s0 (Cert.loadV (Try.tab_ok _ _ rfl) rfl rfl rfl) rfl ?_
 refine AOps.s0 (Cert.move (by conv => lhs; whnf)) rfl ?_
 obtain ⟨x3, gx3, hE⟩ := bindO_some hE
 refine AOps.s0 (Cert.callP rfl rfl (fun H => schema_kind_walk gx3 H)) rfl ?_
 refine AOps.s0 (Cert.assign (by conv => lhs; whnf)) rfl ?_
 refine AOps.nil ?_
 refine hK2 _ ?_
 clear hK2 K2
 refine AWp.seqK fun K4 hK4 => ?_
 refine AWp.region ?_
 refine AOps.s0 (Cert.move (by conv => lhs; whnf)) rfl ?_
 obtain ⟨x5, gx5, hE⟩ := bindO_some hE
 refine AOps.s0 (Cert.callP rfl rfl (fun H => schema_Scalar_walk gx5 H)) rfl ?_
 refine AOps.s0 (Cert.notB rfl) rfl ?_
 refine AOps.s0 (Cert.move (by conv => lhs; whnf)) rfl ?_
 refine AOps.gC rfl rfl (fun hC => Cert.move (by conv => lhs; whnf)) rfl ?_
 refine AOps.gC rfl rfl (fun hC => Cert.ungd (k := 13) rfl (by first | exact hC | exact andL hC | exact andL (andL hC) | exact andL (andL (andL hC)) | exact andR hC | simp_all) (Cert.binI rfl rfl rfl)) rfl ?_
 refine AOps.gC rfl rfl (fun hC => Cert.ungd (k := 14) rfl (by first | exact hC | exact andL hC | exact andL (andL hC) | exact andL (andL (andL hC)) | exact andR hC | simp_all) (Cert.move (by conv => lhs; whnf))) rfl ?_
 refine AOps.gC rfl rfl (fun hC => Cert.move (by conv => lhs; whnf)) rfl ?_
 refine AOps.gC rfl rfl (fun hC => Cert.ungd (k := 16) rfl (by first | exact hC | exact andL hC | exact andL (andL hC) | exact andL (andL (andL hC)) | exact andR hC | simp_all) (Cert.binI rfl rfl rfl)) rfl ?_
 refine AOps.gC rfl rfl (fun hC => Cert.ungd (k := 15) rfl (by first | exact hC | exact andL hC | exact andL (andL hC) | exact andL (andL (andL hC)) | exact andR hC | simp_all) (Cert.pickOr rfl rfl rfl (fun h => by first | exact h | exact notT h | exact andI hC h | exact andI hC (notT h) | simp_all))) rfl ?_
 refine AOps.gC rfl rfl (fun hC => Cert.ungd (k := 18) rfl (by first | exact hC | exact andL hC | exact andL (andL hC) | exact andL (andL (andL hC)) | exact andR hC | simp_all) (Cert.move (by conv => lhs; whnf))) rfl ?_
 refine AOps.gC rfl rfl (fun hC => Cert.move (by conv => lhs; whnf)) rfl ?_
 refine AOps.gC rfl rfl (fun hC => Cert.ungd (k := 20) rfl (by first | exact hC | exact andL hC | exact andL (andL hC) | exact andL (andL (andL hC)) | exact andR hC | simp_all) (Cert.binI rfl rfl rfl)) rfl ?_
 refine AOps.gC rfl rfl (fun hC => Cert.ungd (k := 19) rfl (by first | exact hC | exact andL hC | exact andL (andL hC) | exact andL (andL (andL hC)) | exact andR hC | simp_all) (Cert.pickOr rfl rfl rfl (fun h => by first | exact h | exact notT h | exact andI hC h | exact andI hC (notT h) | simp_all))) rfl ?_
 refine AOps.s0 (Cert.pickAnd rfl rfl (fun h => by first | exact h | exact notT h | exact andI hC h | exact andI hC (notT h) | simp_all) rfl) rfl ?_
 refine AOps.s0 (Cert.assign (by conv => lhs; whnf)) rfl ?_
 refine AOps.nil ?_
 refine hK4 _ ?_
 clear hK4 K4
 refine AWp.ret ?_
 repeat (first | refine xBlock_ret ?_ | refine xThen_ret ?_)
 obtain rfl := Option.some.inj hE
 refine retQ.retF H rfl ⟨rfl, rfl⟩ ?_
 exact (fun _ _ h => h)
def slices_Clone_intint (a0 : (Sl Int)) : Option (Sl Int) := bif a0.nl then (some (Sl.nil : Sl Int)) else ((appC 8 (⟨false, []⟩ : Sl Int) a0).bind fun x7 => some x7)
set_option maxRecDepth 100000 in
set_option maxHeartbeats 2000000 in
theorem slices_Clone_intint_walk {a0 : (Sl Int)} {w0 : Option Nat}  {r : (Sl Int)} (hE : slices_Clone_intint a0 = some r) (H : Heap)  : ACalls Try.prog 21 [.d (Sl.d 1 (intE .i64) w0 a0)] H fun v h' => v = .a (.d (Sl.d 1 (intE .i64) none r)) ∧ h' = H := by
 unfold slices_Clone_intint at hE
 refine ACalls.of_wp (fn := Try.f21) (c := _) Try.tab_ok (fun _ _ => Try.call21 _ _) Try.func21 rfl (n := 8) rfl (rs := [.tmp 2]) rfl rfl ?_
 refine AWp.seqK fun K1 hK1 => ?_
 refine AWp.region ?_
 refine AOps.s0 (Cert.assignNil (k' := 1) rfl) rfl ?_
 refine AOps.nil ?_
 refine hK1 _ ?_
 clear hK1 K1
 refine AWp.seqK fun K2 hK2 => ?_
 refine AWp.seqK fun K3 hK3 => ?_
 refine AWp.region ?_
 refine AOps.s0 (Cert.move (by conv => lhs; whnf)) rfl ?_
 refine AOps.s0 (Cert.eqNil (Try.tab_ok _ _ rfl) rfl rfl) rfl ?_
 refine AOps.nil ?_
 refine hK3 _ ?_
 clear hK3 K3
 refine AWp.cond rfl (fun hc4 => ?_) (fun hc4 => ?_)
 ·have hE := condT hc4 hE
  try dsimp only at hc4
  refine AWp.seqK fun K5 hK5 => ?_
  refine AWp.region ?_
  refine AOps.s0 (Cert.assignNil (k' := 1) rfl) rfl ?_
  refine AOps.nil ?_
  refine hK5 _ ?_
  clear hK5 K5
  refine AWp.ret ?_
  repeat (first | refine xBlock_ret ?_ | refine xThen_ret ?_)
  obtain rfl := Option.some.inj hE
  refine retQ.retF H rfl ⟨rfl, rfl⟩ ?_
  exact (fun _ _ h => h)
 ·have hE := condF hc4 hE
  try dsimp only at hc4
  refine AWp.skip ?_
  refine hK2 _ ?_
  clear hK2 K2
  refine AWp.seqK fun K6 hK6 => ?_
  refine AWp.region ?_
  refine AOps.s0 (Cert.buildSliceF (Try.tab_ok _ _ rfl) rfl (Try.tab_ok _ _ rfl) rfl rfl rfl rfl rfl rfl) rfl ?_
  refine AOps.s0 (Cert.move (by conv => lhs; whnf)) rfl ?_
  obtain ⟨x7, gx7, hE⟩ := bindO_some hE
  refine AOps.s0 (Cert.appFM (f := (intE .i64)) (Try.tab_ok _ _ rfl) rfl (Try.tab_ok _ _ rfl) (Try.tab_ok _ _ rfl) ⟨_, rfl⟩ rfl rfl (by decide) rfl rfl rfl (by intro q h; cases h <;> decide) rfl rfl gx7) rfl ?_
  refine AOps.s0 (Cert.assign (by conv => lhs; whnf)) rfl ?_
  refine AOps.nil ?_
  refine hK6 _ ?_
  clear hK6 K6
  refine AWp.ret ?_
  repeat (first | refine xBlock_ret ?_ | refine xThen_ret ?_)
  obtain rfl := Option.some.inj hE
  refine retQ.retF H rfl ⟨rfl, rfl⟩ ?_
  exact (fun _ _ h => h)
def typeref_IsNonNull (a0 : TRef) : Option Bool := guardO ((decide ((0 : Int) < ((a0.FWraps.l.length : Nat) : Int)))) (a0.FWraps.l[0]?) (0 : Int) fun x4 => some ((decide ((0 : Int) < ((a0.FWraps.l.length : Nat) : Int))) && (decide (x4 = (1 : Int))))
set_option maxRecDepth 100000 in
set_option maxHeartbeats 2000000 in
theorem typeref_IsNonNull_walk {a0 : TRef}   {r : Bool} (hE : typeref_IsNonNull a0 = some r) (H : Heap)  : ACalls Try.prog 37 [.agg (TRef.c a0)] H fun v h' => v = .a (.d (.bool r)) ∧ h' = H := by
 unfold typeref_IsNonNull at hE
 refine ACalls.of_wp (fn := Try.f37) (c := _) Try.tab_ok (fun _ _ => Try.call37 _ _) Try.func37 rfl (n := 14) rfl (rs := [.tmp 2]) rfl rfl ?_
 refine AWp.seqK fun K1 hK1 => ?_
 refine AWp.region ?_
 refine AOps.s0 (Cert.boxV rfl) rfl ?_
 refine AOps.s0 (Cert.assign (by conv => lhs; whnf)) rfl ?_
 refine AOps.nil ?_
 refine hK1 _ ?_
 clear hK1 K1
 refine AWp.seqK fun K2 hK2 => ?_
 refine AWp.region ?_
 refine AOps.s0 (Cert.fieldV (Try.tab_ok _ _ rfl) rfl rfl (Try.tab_ok _ _ rfl) rfl rfl (by conv => lhs; whnf)) rfl ?_
 refine AOps.s0 (Cert.loadV (Try.tab_ok _ _ rfl) rfl rfl rfl) rfl ?_
 refine AOps.sLen (f := (intE .i64)) (s := a0.FWraps) (Try.tab_ok _ _ rfl) rfl rfl rfl rfl fun hL3 => ?_
 refine AOps.s0 (Cert.binI rfl rfl rfl) rfl ?_
 refine AOps.s0 (Cert.move (by conv => lhs; whnf)) rfl ?_
 refine AOps.gC rfl rfl (fun hC => Cert.fieldV (Try.tab_ok _ _ rfl) rfl rfl (Try.tab_ok _ _ rfl) rfl rfl (by conv => lhs; whnf)) rfl ?_
 refine AOps.gC rfl rfl (fun hC => Cert.ungd (k := 8) rfl (by first | exact hC | exact andL hC | exact andL (andL hC) | exact andL (andL (andL hC)) | exact andR hC | simp_all) (Cert.loadV (Try.tab_ok _ _ rfl) rfl rfl rfl)) rfl ?_
 obtain ⟨x4, gx4, hE⟩ := guardO_some hE
 refine AOps.gC rfl rfl (fun hC => Cert.ungd (k := 9) rfl (by first | exact hC | exact andL hC | exact andL (andL hC) | exact andL (andL (andL hC)) | exact andR hC | simp_all) (Cert.idxMn (f := (intE .i64)) (n := 0) (Try.tab_ok _ _ rfl) rfl (Try.tab_ok _ _ rfl) rfl rfl rfl (gx4 hC))) rfl ?_
 refine AOps.gC rfl rfl (fun hC => Cert.ungd (k := 10) rfl (by first | exact hC | exact andL hC | exact andL (andL hC) | exact andL (andL (andL hC)) | exact andR hC | simp_all) (Cert.loadV (Try.tab_ok _ _ rfl) rfl rfl rfl)) rfl ?_
 refine AOps.gC rfl rfl (fun hC => Cert.ungd (k := 11) rfl (by first | exact hC | exact andL hC | exact andL (andL hC) | exact andL (andL (andL hC)) | exact andR hC | simp_all) (Cert.binI rfl rfl rfl)) rfl ?_
 refine AOps.s0 (Cert.pickAnd rfl rfl (fun h => by first | exact h | exact notT h | exact andI hC h | exact andI hC (notT h) | simp_all) rfl) rfl ?_
 refine AOps.s0 (Cert.assign (by conv => lhs; whnf)) rfl ?_
 refine AOps.nil ?_
 refine hK2 _ ?_
 clear hK2 K2
 refine AWp.ret ?_
 repeat (first | refine xBlock_ret ?_ | refine xThen_ret ?_)
 obtain rfl := Option.some.inj hE
 refine retQ.retF H rfl ⟨rfl, rfl⟩ ?_
 exact (fun _ _ h => h)
def typeref_NonNull (a0 : TRef) : Option TRef := (typeref_IsNonNull a0).bind fun x4 => bif x4 then ((slices_Clone_intint a0.FWraps).bind fun x7 => some (TRef.mk a0.FName x7)) else ((appC 8 (⟨false, [(1 : Int)]⟩ : Sl Int) a0.FWraps).bind fun x9 => some (TRef.mk a0.FName x9))
set_option maxRecDepth 100000 in
set_option maxHeartbeats 2000000 in
theorem typeref_NonNull_walk {a0 : TRef}   {r : TRef} (hE : typeref_NonNull a0 = some r) (H : Heap)  : ACalls Try.prog 17 [.agg (TRef.c a0)] H fun v h' => v = .a (.agg (TRef.c r)) ∧ h' = H := by
 unfold typeref_NonNull at hE
 refine ACalls.of_wp (fn := Try.f17) (c := _) Try.tab_ok (fun _ _ => Try.call17 _ _) Try.func17 rfl (n := 18) rfl (rs := [.cell 2 29]) rfl rfl ?_
 refine AWp.seqK fun K1 hK1 => ?_
 refine AWp.region ?_
 refine AOps.s0 (Cert.boxV rfl) rfl ?_
 refine AOps.sL (Cert.allocL (Try.tab_ok _ _ rfl) rfl (by repeat (first | exact Snoc.nil | apply Snoc.cons))) rfl ?_
 refine AOps.nil ?_
 refine hK1 _ ?_
 clear hK1 K1
 refine AWp.seqK fun K2 hK2 => ?_
 refine AWp.seqK fun K3 hK3 => ?_
 refine AWp.region ?_
 refine AOps.s0 (Cert.loadV (Try.tab_ok _ _ rfl) rfl rfl rfl) rfl ?_
 obtain ⟨x4, gx4, hE⟩ := bindO_some hE
 refine AOps.s0 (Cert.callP rfl rfl (fun H => typeref_IsNonNull_walk gx4 H)) rfl ?_
 refine AOps.nil ?_
 refine hK3 _ ?_
 clear hK3 K3
 refine AWp.cond rfl (fun hc5 => ?_) (fun hc5 => ?_)
 ·have hE := condT hc5 hE
  try dsimp only at hc5
  refine AWp.seqK fun K6 hK6 => ?_
  refine AWp.draw rfl ?_
  refine DOps.s0 (Cert.fieldV (Try.tab_ok _ _ rfl) rfl rfl (Try.tab_ok _ _ rfl) rfl rfl (by conv => lhs; whnf)) rfl ?_
  refine DOps.s0 (Cert.loadV (Try.tab_ok _ _ rfl) rfl rfl rfl) rfl ?_
  refine DOps.s0 (Cert.fieldV (Try.tab_ok _ _ rfl) rfl rfl (Try.tab_ok _ _ rfl) rfl rfl (by conv => lhs; whnf)) rfl ?_
  refine DOps.s0 (Cert.loadV (Try.tab_ok _ _ rfl) rfl rfl rfl) rfl ?_
  obtain ⟨x7, gx7, hE⟩ := bindO_some hE
  refine DOps.s0 (Cert.callP rfl rfl (fun H => slices_Clone_intint_walk gx7 H)) rfl ?_
  refine DOps.s0 (Cert.build Try.tab_ok rfl rfl rfl rfl rfl rfl) rfl ?_
  refine DOps.sLn (Cert.storeLF (Try.tab_ok _ _ rfl) rfl rfl rfl rfl rfl (by repeat (first | exact SetAt.zero | apply SetAt.succ))) ?_
  refine DOps.nil (by decide +kernel) ?_
  refine hK6 _ ?_
  clear hK6 K6
  refine AWp.ret ?_
  repeat (first | refine xBlock_ret ?_ | refine xThen_ret ?_)
  obtain rfl := Option.some.inj hE
  refine retQ.retF H rfl ⟨rfl, rfl⟩ ?_
  exact (fun _ _ h => h)
 ·have hE := condF hc5 hE
  try dsimp only at hc5
  refine AWp.skip ?_
  refine hK2 _ ?_
  clear hK2 K2
  refine AWp.seqK fun K8 hK8 => ?_
  refine AWp.draw rfl ?_
  refine DOps.s0 (Cert.fieldV (Try.tab_ok _ _ rfl) rfl rfl (Try.tab_ok _ _ rfl) rfl rfl (by conv => lhs; whnf)) rfl ?_
  refine DOps.s0 (Cert.loadV (Try.tab_ok _ _ rfl) rfl rfl rfl) rfl ?_
  refine DOps.s0 (Cert.buildSliceF (Try.tab_ok _ _ rfl) rfl (Try.tab_ok _ _ rfl) rfl rfl rfl rfl rfl rfl) rfl ?_
  refine DOps.s0 (Cert.fieldV (Try.tab_ok _ _ rfl) rfl rfl (Try.tab_ok _ _ rfl) rfl rfl (by conv => lhs; whnf)) rfl ?_
  refine DOps.s0 (Cert.loadV (Try.tab_ok _ _ rfl) rfl rfl rfl) rfl ?_
  obtain ⟨x9, gx9, hE⟩ := bindO_some hE
  refine DOps.s0 (Cert.appFM (f := (intE .i64)) (Try.tab_ok _ _ rfl) rfl (Try.tab_ok _ _ rfl) (Try.tab_ok _ _ rfl) ⟨_, rfl⟩ rfl rfl (by decide) rfl rfl rfl (by intro q h; cases h <;> decide) rfl rfl gx9) rfl ?_
  refine DOps.s0 (Cert.build Try.tab_ok rfl rfl rfl rfl rfl rfl) rfl ?_
  refine DOps.sLn (Cert.storeLF (Try.tab_ok _ _ rfl) rfl rfl rfl rfl rfl (by repeat (first | exact SetAt.zero | apply SetAt.succ))) ?_
  refine DOps.nil (by decide +kernel) ?_
  refine hK8 _ ?_
  clear hK8 K8
  refine AWp.ret ?_
  repeat (first | refine xBlock_ret ?_ | refine xThen_ret ?_)
  obtain rfl := Option.some.inj hE
  refine retQ.retF H rfl ⟨rfl, rfl⟩ ?_
  exact (fun _ _ h => h)
def typeref_Named (a0 : Bs) : Option TRef := some (TRef.mk a0 (Sl.nil : Sl Int))
set_option maxRecDepth 100000 in
set_option maxHeartbeats 2000000 in
theorem typeref_Named_walk {a0 : Bs}   {r : TRef} (hE : typeref_Named a0 = some r) (H : Heap)  : ACalls Try.prog 18 [.d (.str a0)] H fun v h' => v = .a (.agg (TRef.c r)) ∧ h' = H := by
 unfold typeref_Named at hE
 refine ACalls.of_wp (fn := Try.f18) (c := _) Try.tab_ok (fun _ _ => Try.call18 _ _) Try.func18 rfl (n := 5) rfl (rs := [.cell 2 29]) rfl rfl ?_
 refine AWp.seqK fun K1 hK1 => ?_
 refine AWp.region ?_
 refine AOps.sL (Cert.allocL (Try.tab_ok _ _ rfl) rfl (by repeat (first | exact Snoc.nil | apply Snoc.cons))) rfl ?_
 refine AOps.nil ?_
 refine hK1 _ ?_
 clear hK1 K1
 refine AWp.seqK fun K2 hK2 => ?_
 refine AWp.region ?_
 refine AOps.s0 (Cert.move (by conv => lhs; whnf)) rfl ?_
 refine AOps.s0 (Cert.build Try.tab_ok rfl rfl rfl rfl rfl rfl) rfl ?_
 refine AOps.sLn (Cert.storeLF (Try.tab_ok _ _ rfl) rfl rfl rfl rfl rfl (by repeat (first | exact SetAt.zero | apply SetAt.succ))) ?_
 refine AOps.nil ?_
 refine hK2 _ ?_
 clear hK2 K2
 refine AWp.ret ?_
 repeat (first | refine xBlock_ret ?_ | refine xThen_ret ?_)
 obtain rfl := Option.some.inj hE
 refine retQ.retF H rfl ⟨rfl, rfl⟩ ?_
 exact (fun _ _ h => h)
def schema_FieldOf_j2 (a0 : TDef) (a1 : Bs)  (y3_l0 : TField) : Option (TField × Bool) := some ((TField.mk ([] : Bs) (Sl.nil : Sl TInput) TRef.zero (Sl.nil : Sl TDir)), false)
def schema_FieldOf_l7 (a0 : TDef) (a1 : Bs)  : Nat → Nat → TField → Option (TField × Bool)
 | 0, _, _ => none
 | n7 + 1, s11_8, y9_l0 => bif (decide (((s11_8 : Nat) : Int) < ((a0.FFields.l.length : Nat) : Int))) then ((a0.FFields.l[s11_8]?).bind fun x15 => bif ((x15.FName == a1)) then (some (x15, true)) else ((schema_FieldOf_l7 a0 a1 n7) (s11_8 + 1) y9_l0)) else (schema_FieldOf_j2 a0 a1  y9_l0)
def schema_FieldOf (a0 : TDef) (a1 : Bs) : Option (TField × Bool) := schema_FieldOf_l7 a0 a1 (a0.FFields.l.length + 1) 0 TField.zero
set_option maxRecDepth 100000 in
set_option maxHeartbeats 2000000 in
theorem schema_FieldOf_walk {a0 : TDef} {a1 : Bs}   {r : (TField × Bool)} (hE : schema_FieldOf a0 a1 = some r) (H : Heap)  : ACalls Try.prog 20 [.agg (TDef.c a0), .d (.str a1)] H fun v h' => v = .tup [.agg (TField.c r.1), .d (.bool r.2)] ∧ h' = H := by
 unfold schema_FieldOf at hE
 refine ACalls.of_wp (fn := Try.f20) (c := _) Try.tab_ok (fun _ _ => Try.call20 _ _) Try.func20 rfl (n := 22) rfl (rs := [.cell 4 50, .tmp 5]) rfl rfl ?_
 refine AWp.seqK fun K1 hK1 => ?_
 refine AWp.region ?_
 refine AOps.s0 (Cert.boxV rfl) rfl ?_
 refine AOps.sL (Cert.allocL (Try.tab_ok _ _ rfl) rfl (by repeat (first | exact Snoc.nil | apply Snoc.cons))) rfl ?_
 refine AOps.s0 (Cert.assign (by conv => lhs; whnf)) rfl ?_
 refine AOps.nil ?_
 refine hK1 _ ?_
 clear hK1 K1
 refine AWp.seqJ (KeepsT.cons (k := 4) (by conv => lhs; whnf) KeepsT.nil) (fun (z : TField) => []) (fun z => [TField.c z]) (fun z => H) (fun z => schema_FieldOf_j2 a0 a1 z = some r) ?_ ?_
 ·intro K2 hK2
  refine AWp.seqK fun K5 hK5 => ?_
  refine AWp.region ?_
  refine AOps.s0 (Cert.fieldV (Try.tab_ok _ _ rfl) rfl rfl (Try.tab_ok _ _ rfl) rfl rfl (by conv => lhs; whnf)) rfl ?_
  refine AOps.s0 (Cert.loadV (Try.tab_ok _ _ rfl) rfl rfl rfl) rfl ?_
  refine AOps.sLen (f := TField.c) (s := a0.FFields) (Try.tab_ok _ _ rfl) rfl rfl rfl rfl fun hL6 => ?_
  refine AOps.s0 (Cert.move (by conv => lhs; whnf)) rfl ?_
  refine AOps.nil ?_
  refine hK5 _ ?_
  clear hK5 K5
  refine AWp.block ?_
  refine AWp.loopO (KeepsT.cons (k := 1) (by conv => lhs; whnf) (KeepsT.cons (k := 4) (by conv => lhs; whnf) (KeepsT.cons (k := 9) (by conv => lhs; whnf) (KeepsT.cons (k := 10) (by conv => lhs; whnf) KeepsT.nil)))) (fun (z : Nat × Nat × TField) => [(11, .a (.d (.int .i64 ((z.2.1 : Nat) : Int))))]) (fun z => [TField.c z.2.2]) (fun z => H) (fun z => z.1) (fun z => schema_FieldOf_l7 a0 a1 z.1 z.2.1 z.2.2 = some r) ((a0.FFields.l.length + 1), 0, TField.zero) hE Weak.toA ?_
  rintro ⟨n7, s11_8, y9_l0⟩ hE K7 hK7
  try dsimp only at hE
  cases n7 with
  | zero => cases hE
  | succ n7 =>
    rw [schema_FieldOf_l7] at hE
    refine AWp.seqK fun K10 hK10 => ?_
    refine AWp.region ?_
    refine AOps.s0 (Cert.binI rfl rfl rfl) rfl ?_
    refine AOps.nil ?_
    refine hK10 _ ?_
    clear hK10 K10
    refine AWp.seqK fun K11 hK11 => ?_
    refine AWp.cond rfl (fun hc12 => ?_) (fun hc12 => ?_)
    ·have hE := condT hc12 hE
     try dsimp only at hc12
     have hf12 := of_decide_eq_true hc12
     refine AWp.skip ?_
     refine hK11 _ ?_
     clear hK11 K11
     refine AWp.seqK fun K13 hK13 => ?_
     refine AWp.block ?_
     refine AWp.seqK fun K14 hK14 => ?_
     refine AWp.region ?_
     obtain ⟨x15, gx15, hE⟩ := bindO_some hE
     refine AOps.s0 (Cert.idxMn (f := TField.c) (n := s11_8) (Try.tab_ok _ _ rfl) rfl (Try.tab_ok _ _ rfl) rfl rfl rfl gx15) rfl ?_
     refine AOps.s0 (Cert.loadV (Try.tab_ok _ _ rfl) rfl rfl rfl) rfl ?_
     refine AOps.sL (Cert.allocL (Try.tab_ok _ _ rfl) rfl (by repeat (first | exact Snoc.nil | apply Snoc.cons))) rfl ?_
     refine AOps.sLn (Cert.storeLF (Try.tab_ok _ _ rfl) rfl rfl rfl rfl rfl (by repeat (first | exact SetAt.zero | apply SetAt.succ))) ?_
     refine AOps.nil ?_
     refine hK14 _ ?_
     clear hK14 K14
     refine AWp.freeze 7 _ rfl (by repeat (first | exact Snoc.nil | apply Snoc.cons)) (Keeps.c (k := 1) (by conv => lhs; whnf) (by rfl) (Keeps.c (k := 4) (by conv => lhs; whnf) (by rfl) (Keeps.c (k := 9) (by conv => lhs; whnf) (by rfl) (Keeps.c (k := 10) (by conv => lhs; whnf) (by rfl) (Keeps.c (k := 11) (by conv => lhs; whnf) (by rfl) Keeps.nil))))) ?_
     refine AWp.seqK fun K16 hK16 => ?_
     refine AWp.region ?_
     refine AOps.s0 (Cert.fieldV (Try.tab_ok _ _ rfl) rfl rfl (Try.tab_ok _ _ rfl) rfl rfl (by conv => lhs; whnf)) rfl ?_
     refine AOps.s0 (Cert.loadV (Try.tab_ok _ _ rfl) rfl rfl rfl) rfl ?_
     refine AOps.s0 (Cert.move (by conv => lhs; whnf)) rfl ?_
     refine AOps.s0 (Cert.binS rfl rfl rfl) rfl ?_
     refine AOps.nil ?_
     refine hK16 _ ?_
     clear hK16 K16
     refine AWp.cond rfl (fun hc17 => ?_) (fun hc17 => ?_)
     ·have hE := condT hc17 hE
      try dsimp only at hc17
      refine AWp.seqK fun K18 hK18 => ?_
      refine AWp.region ?_
      refine AOps.s0 (Cert.loadV (Try.tab_ok _ _ rfl) rfl rfl rfl) rfl ?_
      refine AOps.sLn (Cert.storeLF (Try.tab_ok _ _ rfl) rfl rfl rfl rfl rfl (by repeat (first | exact SetAt.zero | apply SetAt.succ))) ?_
      refine AOps.s0 (Cert.assign (by conv => lhs; whnf)) rfl ?_
      refine AOps.nil ?_
      refine hK18 _ ?_
      clear hK18 K18
      refine AWp.ret ?_
      repeat (first | refine xBlock_ret ?_ | refine xThen_ret ?_)
      obtain rfl := Option.some.inj hE
      refine retQ.retF H rfl ⟨rfl, rfl⟩ ?_
      exact (fun _ _ h => h)
     ·have hE := condF hc17 hE
      try dsimp only at hc17
      refine AWp.skip ?_
      refine hK13 _ ?_
      clear hK13 K13
      refine AWp.region ?_
      refine AOps.s0 (Cert.addI rfl rfl (by first | omega | (dsimp only; omega)) (by first | omega | (dsimp only; omega))) rfl ?_
      refine AOps.s0 (Cert.move (by conv => lhs; whnf)) rfl ?_
      refine AOps.nil ?_
      exact hK7 _ (n7, (s11_8 + 1), y9_l0) Weak.toA hE (Nat.lt_succ_self _)
    ·have hE := condF hc12 hE
     try dsimp only at hc12
     refine AWp.exit ?_
     exact hK2 _ y9_l0 Weak.toA hE
 ·rintro y3_l0 hE
  try dsimp only at hE
  unfold schema_FieldOf_j2 at hE
  refine AWp.seqK fun K4 hK4 => ?_
  refine AWp.region ?_
  refine AOps.s0 (Cert.build Try.tab_ok rfl rfl rfl rfl rfl rfl) rfl ?_
  refine AOps.sLn (Cert.storeLF (Try.tab_ok _ _ rfl) rfl rfl rfl rfl rfl (by repeat (first | exact SetAt.zero | apply SetAt.succ))) ?_
  refine AOps.s0 (Cert.assign (by conv => lhs; whnf)) rfl ?_
  refine AOps.nil ?_
  refine hK4 _ ?_
  clear hK4 K4
  refine AWp.ret ?_
  repeat (first | refine xBlock_ret ?_ | refine xThen_ret ?_)
  obtain rfl := Option.some.inj hE
  refine retQ.retF H rfl ⟨rfl, rfl⟩ ?_
  exact (fun _ _ h => h)
def fields_Type (a0 : TDoc) (a1 : Bs) (a2 : Bs) : Option (TRef × Bool) := (schema_Composite a0 a1).bind fun x4 => bif (!x4) then (some ((TRef.mk ([] : Bs) (Sl.nil : Sl Int)), false)) else (bif ((a2 == ([95, 95, 116, 121, 112, 101, 110, 97, 109, 101] : Bs))) then ((typeref_Named ([83, 116, 114, 105, 110, 103] : Bs)).bind fun x11 => (typeref_NonNull x11).bind fun x12 => some (x12, true)) else ((schema_Find a0 a1).bind fun x14 => (schema_FieldOf x14.1 a2).bind fun x16 => bif (!x16.2) then (some ((TRef.mk ([] : Bs) (Sl.nil : Sl Int)), false)) else ((slices_Clone_intint x16.1.FType.FWraps).bind fun x22 => some ((TRef.mk x16.1.FType.FName x22), true))))
set_option maxRecDepth 100000 in
set_option maxHeartbeats 2000000 in
theorem fields_Type_walk {a0 : TDoc} {a1 : Bs} {a2 : Bs}   {r : (TRef × Bool)} (hE : fields_Type a0 a1 a2 = some r) (H : Heap)  : ACalls Try.prog 7 [.agg (TDoc.c a0), .d (.str a1), .d (.str a2)] H fun v h' => v = .tup [.agg (TRef.c r.1), .d (.bool r.2)] ∧ h' = H := by
 unfold fields_Type at hE
 refine ACalls.of_wp (fn := Try.f7) (c := _) Try.tab_ok (fun _ _ => Try.call7 _ _) Try.func7 rfl (n := 44) rfl (rs := [.cell 6 29, .tmp 7]) rfl rfl ?_
 refine AWp.seqK fun K1 hK1 => ?_
 refine AWp.region ?_
 refine AOps.s0 (Cert.boxV rfl) rfl ?_
 refine AOps.sL (Cert.allocL (Try.tab_ok _ _ rfl) rfl (by repeat (first | exact Snoc.nil | apply Snoc.cons))) rfl ?_
 refine AOps.s0 (Cert.assign (by conv => lhs; whnf)) rfl ?_
 refine AOps.nil ?_
 refine hK1 _ ?_
 clear hK1 K1
 refine AWp.seqK fun K2 hK2 => ?_
 refine AWp.seqK fun K3 hK3 => ?_
 refine AWp.region ?_
 refine AOps.s0 (Cert.loadV (Try.tab_ok _ _ rfl) rfl rfl rfl) rfl ?_
 refine AOps.s0 (Cert.move (by conv => lhs; whnf)) rfl ?_
 obtain ⟨x4, gx4, hE⟩ := bindO_some hE
 refine AOps.s0 (Cert.callP rfl rfl (fun H => schema_Composite_walk gx4 H)) rfl ?_
 refine AOps.s0 (Cert.notB rfl) rfl ?_
 refine AOps.nil ?_
 refine hK3 _ ?_
 clear hK3 K3
 refine AWp.cond rfl (fun hc5 => ?_) (fun hc5 => ?_)
 ·have hE := condT hc5 hE
  try dsimp only at hc5
  refine AWp.seqK fun K6 hK6 => ?_
  refine AWp.region ?_
  refine AOps.s0 (Cert.build Try.tab_ok rfl rfl rfl rfl rfl rfl) rfl ?_
  refine AOps.sLn (Cert.storeLF (Try.tab_ok _ _ rfl) rfl rfl rfl rfl rfl (by repeat (first | exact SetAt.zero | apply SetAt.succ))) ?_
  refine AOps.s0 (Cert.assign (by conv => lhs; whnf)) rfl ?_
  refine AOps.nil ?_
  refine hK6 _ ?_
  clear hK6 K6
  refine AWp.ret ?_
  repeat (first | refine xBlock_ret ?_ | refine xThen_ret ?_)
  obtain rfl := Option.some.inj hE
  refine retQ.retF H rfl ⟨rfl, rfl⟩ ?_
  exact (fun _ _ h => h)
 ·have hE := condF hc5 hE
  try dsimp only at hc5
  refine AWp.skip ?_
  refine hK2 _ ?_
  clear hK2 K2
  refine AWp.seqK fun K7 hK7 => ?_
  refine AWp.seqK fun K8 hK8 => ?_
  refine AWp.region ?_
  refine AOps.s0 (Cert.move (by conv => lhs; whnf)) rfl ?_
  refine AOps.s0 (Cert.binS rfl rfl rfl) rfl ?_
  refine AOps.nil ?_
  refine hK8 _ ?_
  clear hK8 K8
  refine AWp.cond rfl (fun hc9 => ?_) (fun hc9 => ?_)
  ·have hE := condT hc9 hE
   try dsimp only at hc9
   refine AWp.seqK fun K10 hK10 => ?_
   refine AWp.region ?_
   obtain ⟨x11, gx11, hE⟩ := bindO_some hE
   refine AOps.s0 (Cert.callP rfl rfl (fun H => typeref_Named_walk gx11 H)) rfl ?_
   obtain ⟨x12, gx12, hE⟩ := bindO_some hE
   refine AOps.s0 (Cert.callP rfl rfl (fun H => typeref_NonNull_walk gx12 H)) rfl ?_
   refine AOps.sLn (Cert.storeLF (Try.tab_ok _ _ rfl) rfl rfl rfl rfl rfl (by repeat (first | exact SetAt.zero | apply SetAt.succ))) ?_
   refine AOps.s0 (Cert.assign (by conv => lhs; whnf)) rfl ?_
   refine AOps.nil ?_
   refine hK10 _ ?_
   clear hK10 K10
   refine AWp.ret ?_
   repeat (first | refine xBlock_ret ?_ | refine xThen_ret ?_)
   obtain rfl := Option.some.inj hE
   refine retQ.retF H rfl ⟨rfl, rfl⟩ ?_
   exact (fun _ _ h => h)
  ·have hE := condF hc9 hE
   try dsimp only at hc9
   refine AWp.skip ?_
   refine hK7 _ ?_
   clear hK7 K7
   refine AWp.seqK fun K13 hK13 => ?_
   refine AWp.region ?_
   refine AOps.s0 (Cert.loadV (Try.tab_ok _ _ rfl) rfl rfl rfl) rfl ?_
   refine AOps.s0 (Cert.move (by conv => lhs; whnf)) rfl ?_
   obtain ⟨x14, gx14, hE⟩ := bindO_some hE
   refine AOps.s0 (Cert.callP rfl rfl (fun H => schema_Find_walk gx14 H)) rfl ?_
   refine AOps.s0 (Cert.move (by conv => lhs; whnf)) rfl ?_
   refine AOps.s0 (Cert.extract rfl rfl) rfl ?_
   refine AOps.s0 (Cert.extract rfl rfl) rfl ?_
   refine AOps.sL (Cert.allocL (Try.tab_ok _ _ rfl) rfl (by repeat (first | exact Snoc.nil | apply Snoc.cons))) rfl ?_
   refine AOps.sLn (Cert.storeLF (Try.tab_ok _ _ rfl) rfl rfl rfl rfl rfl (by repeat (first | exact SetAt.zero | apply SetAt.succ))) ?_
   refine AOps.s0 (Cert.assign (by conv => lhs; whnf)) rfl ?_
   refine AOps.nil ?_
   refine hK13 _ ?_
   clear hK13 K13
   refine AWp.freeze 8 _ rfl (by repeat (first | exact Snoc.nil | apply Snoc.cons)) (Keeps.c (k := 2) (by conv => lhs; whnf) (by rfl) (Keeps.c (k := 6) (by conv => lhs; whnf) (by rfl) Keeps.nil)) ?_
   refine AWp.seqK fun K15 hK15 => ?_
   refine AWp.region ?_
   refine AOps.s0 (Cert.loadV (Try.tab_ok _ _ rfl) rfl rfl rfl) rfl ?_
   refine AOps.s0 (Cert.move (by conv => lhs; whnf)) rfl ?_
   obtain ⟨x16, gx16, hE⟩ := bindO_some hE
   refine AOps.s0 (Cert.callP rfl rfl (fun H => schema_FieldOf_walk gx16 H)) rfl ?_
   refine AOps.s0 (Cert.move (by conv => lhs; whnf)) rfl ?_
   refine AOps.s0 (Cert.extract rfl rfl) rfl ?_
   refine AOps.s0 (Cert.extract rfl rfl) rfl ?_
   refine AOps.sL (Cert.allocL (Try.tab_ok _ _ rfl) rfl (by repeat (first | exact Snoc.nil | apply Snoc.cons))) rfl ?_
   refine AOps.sLn (Cert.storeLF (Try.tab_ok _ _ rfl) rfl rfl rfl rfl rfl (by repeat (first | exact SetAt.zero | apply SetAt.succ))) ?_
   refine AOps.s0 (Cert.assign (by conv => lhs; whnf)) rfl ?_
   refine AOps.nil ?_
   refine hK15 _ ?_
   clear hK15 K15
   refine AWp.freeze 10 _ rfl (by repeat (first | exact Snoc.nil | apply Snoc.cons)) (Keeps.c (k := 6) (by conv => lhs; whnf) (by rfl) (Keeps.c (k := 11) (by conv => lhs; whnf) (by rfl) Keeps.nil)) ?_
   refine AWp.seqK fun K17 hK17 => ?_
   refine AWp.seqK fun K18 hK18 => ?_
   refine AWp.region ?_
   refine AOps.s0 (Cert.move (by conv => lhs; whnf)) rfl ?_
   refine AOps.s0 (Cert.notB rfl) rfl ?_
   refine AOps.nil ?_
   refine hK18 _ ?_
   clear hK18 K18
   refine AWp.cond rfl (fun hc19 => ?_) (fun hc19 => ?_)
   ·have hE := condT hc19 hE
    try dsimp only at hc19
    refine AWp.seqK fun K20 hK20 => ?_
    refine AWp.region ?_
    refine AOps.s0 (Cert.build Try.tab_ok rfl rfl rfl rfl rfl rfl) rfl ?_
    refine AOps.sLn (Cert.storeLF (Try.tab_ok _ _ rfl) rfl rfl rfl rfl rfl (by repeat (first | exact SetAt.zero | apply SetAt.succ))) ?_
    refine AOps.s0 (Cert.assign (by conv => lhs; whnf)) rfl ?_
    refine AOps.nil ?_
    refine hK20 _ ?_
    clear hK20 K20
    refine AWp.ret ?_
    repeat (first | refine xBlock_ret ?_ | refine xThen_ret ?_)
    obtain rfl := Option.some.inj hE
    refine retQ.retF H rfl ⟨rfl, rfl⟩ ?_
    exact (fun _ _ h => h)
   ·have hE := condF hc19 hE
    try dsimp only at hc19
    refine AWp.skip ?_
    refine hK17 _ ?_
    clear hK17 K17
    refine AWp.seqK fun K21 hK21 => ?_
    refine AWp.draw rfl ?_
    refine DOps.s0 (Cert.fieldV (Try.tab_ok _ _ rfl) rfl rfl (Try.tab_ok _ _ rfl) rfl rfl (by conv => lhs; whnf)) rfl ?_
    refine DOps.s0 (Cert.fieldV (Try.tab_ok _ _ rfl) rfl rfl (Try.tab_ok _ _ rfl) rfl rfl (by conv => lhs; whnf)) rfl ?_
    refine DOps.s0 (Cert.loadV (Try.tab_ok _ _ rfl) rfl rfl rfl) rfl ?_
    refine DOps.s0 (Cert.fieldV (Try.tab_ok _ _ rfl) rfl rfl (Try.tab_ok _ _ rfl) rfl rfl (by conv => lhs; whnf)) rfl ?_
    refine DOps.s0 (Cert.fieldV (Try.tab_ok _ _ rfl) rfl rfl (Try.tab_ok _ _ rfl) rfl rfl (by conv => lhs; whnf)) rfl ?_
    refine DOps.s0 (Cert.loadV (Try.tab_ok _ _ rfl) rfl rfl rfl) rfl ?_
    obtain ⟨x22, gx22, hE⟩ := bindO_some hE
    refine DOps.s0 (Cert.callP rfl rfl (fun H => slices_Clone_intint_walk gx22 H)) rfl ?_
    refine DOps.s0 (Cert.build Try.tab_ok rfl rfl rfl rfl rfl rfl) rfl ?_
    refine DOps.sLn (Cert.storeLF (Try.tab_ok _ _ rfl) rfl rfl rfl rfl rfl (by repeat (first | exact SetAt.zero | apply SetAt.succ))) ?_
    refine DOps.s0 (Cert.assign (by conv => lhs; whnf)) rfl ?_
    refine DOps.nil (by decide +kernel) ?_
    refine hK21 _ ?_
    clear hK21 K21
    refine AWp.ret ?_
    repeat (first | refine xBlock_ret ?_ | refine xThen_ret ?_)
    obtain rfl := Option.some.inj hE
    refine retQ.retF H rfl ⟨rfl, rfl⟩ ?_
    exact (fun _ _ h => h)
def r05_same_j8 (a0 : (Sl Int)) (a1 : (Sl Int))   : Option Bool := some true
def r05_same_l11 (a0 : (Sl Int)) (a1 : (Sl Int))  : Nat → Nat → Option Bool
 | 0, _ => none
 | n11 + 1, s5_12 => bif (decide (((s5_12 : Nat) : Int) < ((a0.l.length : Nat) : Int))) then ((a0.l[s5_12]?).bind fun x19 => (a1.l[s5_12]?).bind fun x20 => bif (!decide (x19 = x20)) then (some false) else ((r05_same_l11 a0 a1 n11) (s5_12 + 1))) else (r05_same_j8 a0 a1  )
def r05_same (a0 : (Sl Int)) (a1 : (Sl Int)) : Option Bool := bif (!decide (((a0.l.length : Nat) : Int) = ((a1.l.length : Nat) : Int))) then (some false) else (r05_same_l11 a0 a1 (a0.l.length + 1) 0)
set_option maxRecDepth 100000 in
set_option maxHeartbeats 2000000 in
theorem r05_same_walk {a0 : (Sl Int)} {a1 : (Sl Int)} {w0 : Option Nat} {w1 : Option Nat}  {r : Bool} (hE : r05_same a0 a1 = some r) (H : Heap)  : ACalls Try.prog 25 [.d (Sl.d 1 (intE .i64) w0 a0), .d (Sl.d 1 (intE .i64) w1 a1)] H fun v h' => v = .a (.d (.bool r)) ∧ h' = H := by
 unfold r05_same at hE
 refine ACalls.of_wp (fn := Try.f25) (c := _) Try.tab_ok (fun _ _ => Try.call25 _ _) Try.func25 rfl (n := 26) rfl (rs := [.tmp 4]) rfl rfl ?_
 refine AWp.seqK fun K1 hK1 => ?_
 refine AWp.region ?_
 refine AOps.s0 (Cert.assign (by conv => lhs; whnf)) rfl ?_
 refine AOps.nil ?_
 refine hK1 _ ?_
 clear hK1 K1
 refine AWp.seqK fun K2 hK2 => ?_
 refine AWp.seqK fun K3 hK3 => ?_
 refine AWp.region ?_
 refine AOps.s0 (Cert.move (by conv => lhs; whnf)) rfl ?_
 refine AOps.sLen (f := (intE .i64)) (s := a0) (Try.tab_ok _ _ rfl) rfl rfl rfl rfl fun hL4 => ?_
 refine AOps.s0 (Cert.move (by conv => lhs; whnf)) rfl ?_
 refine AOps.sLen (f := (intE .i64)) (s := a1) (Try.tab_ok _ _ rfl) rfl rfl rfl rfl fun hL5 => ?_
 refine AOps.s0 (Cert.binI rfl rfl rfl) rfl ?_
 refine AOps.nil ?_
 refine hK3 _ ?_
 clear hK3 K3
 refine AWp.cond rfl (fun hc6 => ?_) (fun hc6 => ?_)
 ·have hE := condT hc6 hE
  try dsimp only at hc6
  refine AWp.seqK fun K7 hK7 => ?_
  refine AWp.region ?_
  refine AOps.s0 (Cert.assign (by conv => lhs; whnf)) rfl ?_
  refine AOps.nil ?_
  refine hK7 _ ?_
  clear hK7 K7
  refine AWp.ret ?_
  repeat (first | refine xBlock_ret ?_ | refine xThen_ret ?_)
  obtain rfl := Option.some.inj hE
  refine retQ.retF H rfl ⟨rfl, rfl⟩ ?_
  exact (fun _ _ h => h)
 ·have hE := condF hc6 hE
  try dsimp only at hc6
  refine AWp.skip ?_
  refine hK2 _ ?_
  clear hK2 K2
  refine AWp.seqJH KeepsT.nil (fun (z : Unit) => []) (fun z => H) (fun z => r05_same_j8 a0 a1  = some r) ?_ ?_
  ·intro K8 hK8
   refine AWp.seqK fun K10 hK10 => ?_
   refine AWp.region ?_
   refine AOps.s0 (Cert.assign (by conv => lhs; whnf)) rfl ?_
   refine AOps.nil ?_
   refine hK10 _ ?_
   clear hK10 K10
   refine AWp.block ?_
   refine AWp.loopH (KeepsT.cons (k := 0) (by conv => lhs; whnf) (KeepsT.cons (k := 1) (by conv => lhs; whnf) KeepsT.nil)) (fun (z : Nat × Nat) => [(5, .a (.d (.int .i64 ((z.2 : Nat) : Int))))]) (fun z => H) (fun z => z.1) (fun z => r05_same_l11 a0 a1 z.1 z.2 = some r) ((a0.l.length + 1), 0) hE Weak.toA ?_
   rintro ⟨n11, s5_12⟩ hE K11 hK11
   try dsimp only at hE
   cases n11 with
   | zero => cases hE
   | succ n11 =>
     rw [r05_same_l11] at hE
     refine AWp.seqK fun K13 hK13 => ?_
     refine AWp.seqK fun K14 hK14 => ?_
     refine AWp.region ?_
     refine AOps.s0 (Cert.move (by conv => lhs; whnf)) rfl ?_
     refine AOps.s0 (Cert.move (by conv => lhs; whnf)) rfl ?_
     refine AOps.sLen (f := (intE .i64)) (s := a0) (Try.tab_ok _ _ rfl) rfl rfl rfl rfl fun hL15 => ?_
     refine AOps.s0 (Cert.binI rfl rfl rfl) rfl ?_
     refine AOps.nil ?_
     refine hK14 _ ?_
     clear hK14 K14
     refine AWp.cond rfl (fun hc16 => ?_) (fun hc16 => ?_)
     ·have hE := condT hc16 hE
      try dsimp only at hc16
      have hf16 := of_decide_eq_true hc16
      refine AWp.skip ?_
      refine hK13 _ ?_
      clear hK13 K13
      refine AWp.seqK fun K17 hK17 => ?_
      refine AWp.block ?_
      refine AWp.seqK fun K18 hK18 => ?_
      refine AWp.draw rfl ?_
      refine DOps.s0 (Cert.move (by conv => lhs; whnf)) rfl ?_
      refine DOps.s0 (Cert.move (by conv => lhs; whnf)) rfl ?_
      obtain ⟨x19, gx19, hE⟩ := bindO_some hE
      refine DOps.s0 (Cert.idxMn (f := (intE .i64)) (n := s5_12) (Try.tab_ok _ _ rfl) rfl (Try.tab_ok _ _ rfl) rfl rfl rfl gx19) rfl ?_
      refine DOps.s0 (Cert.loadV (Try.tab_ok _ _ rfl) rfl rfl rfl) rfl ?_
      refine DOps.s0 (Cert.move (by conv => lhs; whnf)) rfl ?_
      refine DOps.s0 (Cert.move (by conv => lhs; whnf)) rfl ?_
      obtain ⟨x20, gx20, hE⟩ := bindO_some hE
      refine DOps.s0 (Cert.idxMn (f := (intE .i64)) (n := s5_12) (Try.tab_ok _ _ rfl) rfl (Try.tab_ok _ _ rfl) rfl rfl rfl gx20) rfl ?_
      refine DOps.s0 (Cert.loadV (Try.tab_ok _ _ rfl) rfl rfl rfl) rfl ?_
      refine DOps.s0 (Cert.binI rfl rfl rfl) rfl ?_
      refine DOps.nil (by decide +kernel) ?_
      refine hK18 _ ?_
      clear hK18 K18
      refine AWp.cond rfl (fun hc21 => ?_) (fun hc21 => ?_)
      ·have hE := condT hc21 hE
       try dsimp only at hc21
       refine AWp.seqK fun K22 hK22 => ?_
       refine AWp.region ?_
       refine AOps.s0 (Cert.assign (by conv => lhs; whnf)) rfl ?_
       refine AOps.nil ?_
       refine hK22 _ ?_
       clear hK22 K22
       refine AWp.ret ?_
       repeat (first | refine xBlock_ret ?_ | refine xThen_ret ?_)
       obtain rfl := Option.some.inj hE
       refine retQ.retF H rfl ⟨rfl, rfl⟩ ?_
       exact (fun _ _ h => h)
      ·have hE := condF hc21 hE
       try dsimp only at hc21
       refine AWp.skip ?_
       refine hK17 _ ?_
       clear hK17 K17
       refine AWp.region ?_
       refine AOps.s0 (Cert.move (by conv => lhs; whnf)) rfl ?_
       refine AOps.s0 (Cert.addI rfl rfl (by first | omega | (dsimp only; omega)) (by first | omega | (dsimp only; omega))) rfl ?_
       refine AOps.s0 (Cert.assign (by conv => lhs; whnf)) rfl ?_
       refine AOps.nil ?_
       exact hK11 _ (n11, (s5_12 + 1)) Weak.toA hE (Nat.lt_succ_self _)
     ·have hE := condF hc16 hE
      try dsimp only at hc16
      refine AWp.exit ?_
      exact hK8 _ () Weak.toA hE
  ·rintro _ hE
   try dsimp only at hE
   unfold r05_same_j8 at hE
   refine AWp.seqK fun K9 hK9 => ?_
   refine AWp.region ?_
   refine AOps.s0 (Cert.assign (by conv => lhs; whnf)) rfl ?_
   refine AOps.nil ?_
   refine hK9 _ ?_
   clear hK9 K9
   refine AWp.ret ?_
   repeat (first | refine xBlock_ret ?_ | refine xThen_ret ?_)
   obtain rfl := Option.some.inj hE
   refine retQ.retF H rfl ⟨rfl, rfl⟩ ?_
   exact (fun _ _ h => h)
def r05_Same (a0 : TRef) (a1 : TRef) : Option Bool := guardO (((a0.FName == a1.FName))) (r05_same a0.FWraps a1.FWraps) false fun x3 => some (((a0.FName == a1.FName)) && x3)
set_option maxRecDepth 100000 in
set_option maxHeartbeats 2000000 in
theorem r05_Same_walk {a0 : TRef} {a1 : TRef}   {r : Bool} (hE : r05_Same a0 a1 = some r) (H : Heap)  : ACalls Try.prog 9 [.agg (TRef.c a0), .agg (TRef.c a1)] H fun v h' => v = .a (.d (.bool r)) ∧ h' = H := by
 unfold r05_Same at hE
 refine ACalls.of_wp (fn := Try.f9) (c := _) Try.tab_ok (fun _ _ => Try.call9 _ _) Try.func9 rfl (n := 17) rfl (rs := [.tmp 4]) rfl rfl ?_
 refine AWp.seqK fun K1 hK1 => ?_
 refine AWp.region ?_
 refine AOps.s0 (Cert.boxV rfl) rfl ?_
 refine AOps.s0 (Cert.boxV rfl) rfl ?_
 refine AOps.s0 (Cert.assign (by conv => lhs; whnf)) rfl ?_
 refine AOps.nil ?_
 refine hK1 _ ?_
 clear hK1 K1
 refine AWp.seqK fun K2 hK2 => ?_
 refine AWp.region ?_
 refine AOps.s0 (Cert.fieldV (Try.tab_ok _ _ rfl) rfl rfl (Try.tab_ok _ _ rfl) rfl rfl (by conv => lhs; whnf)) rfl ?_
 refine AOps.s0 (Cert.loadV (Try.tab_ok _ _ rfl) rfl rfl rfl) rfl ?_
 refine AOps.s0 (Cert.fieldV (Try.tab_ok _ _ rfl) rfl rfl (Try.tab_ok _ _ rfl) rfl rfl (by conv => lhs; whnf)) rfl ?_
 refine AOps.s0 (Cert.loadV (Try.tab_ok _ _ rfl) rfl rfl rfl) rfl ?_
 refine AOps.s0 (Cert.binS rfl rfl rfl) rfl ?_
 refine AOps.s0 (Cert.move (by conv => lhs; whnf)) rfl ?_
 refine AOps.gC rfl rfl (fun hC => Cert.fieldV (Try.tab_ok _ _ rfl) rfl rfl (Try.tab_ok _ _ rfl) rfl rfl (by conv => lhs; whnf)) rfl ?_
 refine AOps.gC rfl rfl (fun hC => Cert.ungd (k := 11) rfl (by first | exact hC | exact andL hC | exact andL (andL hC) | exact andL (andL (andL hC)) | exact andR hC | simp_all) (Cert.loadV (Try.tab_ok _ _ rfl) rfl rfl rfl)) rfl ?_
 refine AOps.gC rfl rfl (fun hC => Cert.fieldV (Try.tab_ok _ _ rfl) rfl rfl (Try.tab_ok _ _ rfl) rfl rfl (by conv => lhs; whnf)) rfl ?_
 refine AOps.gC rfl rfl (fun hC => Cert.ungd (k := 13) rfl (by first | exact hC | exact andL hC | exact andL (andL hC) | exact andL (andL (andL hC)) | exact andR hC | simp_all) (Cert.loadV (Try.tab_ok _ _ rfl) rfl rfl rfl)) rfl ?_
 obtain ⟨x3, gx3, hE⟩ := guardO_some hE
 refine AOps.gC rfl rfl (fun hC => Cert.ungd (k := 12) rfl (by first | exact hC | exact andL hC | exact andL (andL hC) | exact andL (andL (andL hC)) | exact andR hC | simp_all) (Cert.ungd (k := 14) rfl (by first | exact hC | exact andL hC | exact andL (andL hC) | exact andL (andL (andL hC)) | exact andR hC | simp_all) (Cert.callP rfl rfl (fun H => r05_same_walk (gx3 hC) H)))) rfl ?_
 refine AOps.s0 (Cert.pickAnd rfl rfl (fun h => by first | exact h | exact notT h | exact andI hC h | exact andI hC (notT h) | simp_all) rfl) rfl ?_
 refine AOps.s0 (Cert.assign (by conv => lhs; whnf)) rfl ?_
 refine AOps.nil ?_
 refine hK2 _ ?_
 clear hK2 K2
 refine AWp.ret ?_
 repeat (first | refine xBlock_ret ?_ | refine xThen_ret ?_)
 obtain rfl := Option.some.inj hE
 refine retQ.retF H rfl ⟨rfl, rfl⟩ ?_
 exact (fun _ _ h => h)
end Go.Proofs

namespace Go.Proofs
open Go Go.Ab
def schema_Root (a0 : Int) : Option Bs := bif (decide (a0 = (1 : Int))) then (some ([81, 117, 101, 114, 121] : Bs)) else (bif (decide (a0 = (2 : Int))) then (some ([77, 117, 116, 97, 116, 105, 111, 110] : Bs)) else (bif (decide (a0 = (3 : Int))) then (some ([83, 117, 98, 115, 99, 114, 105, 112, 116, 105, 111, 110] : Bs)) else (some ([] : Bs))))
set_option maxRecDepth 100000 in
set_option maxHeartbeats 2000000 in
theorem schema_Root_walk {a0 : Int}   {r : Bs} (hE : schema_Root a0 = some r) (H : Heap)  : ACalls Try.prog 29 [.d (.int .i64 a0)] H fun v h' => v = .a (.d (.str r)) ∧ h' = H := by
 unfold schema_Root at hE
 refine ACalls.of_wp (fn := Try.f29) (c := _) Try.tab_ok (fun _ _ => Try.call29 _ _) Try.func29 rfl (n := 10) rfl (rs := [.tmp 2]) rfl rfl ?_
 refine AWp.seqK fun K1 hK1 => ?_
 refine AWp.region ?_
 refine AOps.s0 (Cert.assign (by conv => lhs; whnf)) rfl ?_
 refine AOps.nil ?_
 refine hK1 _ ?_
 clear hK1 K1
 refine AWp.seqK fun K2 hK2 => ?_
 refine AWp.seqK fun K3 hK3 => ?_
 refine AWp.region ?_
 refine AOps.s0 (Cert.move (by conv => lhs; whnf)) rfl ?_
 refine AOps.nil ?_
 refine hK3 _ ?_
 clear hK3 K3
 refine AWp.block ?_
 refine AWp.seqK fun K4 hK4 => ?_
 refine AWp.region ?_
 refine AOps.s0 (Cert.binI rfl rfl rfl) rfl ?_
 refine AOps.s0 (Cert.assign (by conv => lhs; whnf)) rfl ?_
 refine AOps.nil ?_
 refine hK4 _ ?_
 clear hK4 K4
 refine AWp.cond rfl (fun hc5 => ?_) (fun hc5 => ?_)
 ·have hE := condT hc5 hE
  try dsimp only at hc5
  refine AWp.seqK fun K6 hK6 => ?_
  refine AWp.region ?_
  refine AOps.s0 (Cert.assign (by conv => lhs; whnf)) rfl ?_
  refine AOps.nil ?_
  refine hK6 _ ?_
  clear hK6 K6
  refine AWp.ret ?_
  repeat (first | refine xBlock_ret ?_ | refine xThen_ret ?_)
  obtain rfl := Option.some.inj hE
  refine retQ.retF H rfl ⟨rfl, rfl⟩ ?_
  exact (fun _ _ h => h)
 ·have hE := condF hc5 hE
  try dsimp only at hc5
  refine AWp.seqK fun K7 hK7 => ?_
  refine AWp.region ?_
  refine AOps.s0 (Cert.binI rfl rfl rfl) rfl ?_
  refine AOps.s0 (Cert.assign (by conv => lhs; whnf)) rfl ?_
  refine AOps.nil ?_
  refine hK7 _ ?_
  clear hK7 K7
  refine AWp.cond rfl (fun hc8 => ?_) (fun hc8 => ?_)
  ·have hE := condT hc8 hE
   try dsimp only at hc8
   refine AWp.seqK fun K9 hK9 => ?_
   refine AWp.region ?_
   refine AOps.s0 (Cert.assign (by conv => lhs; whnf)) rfl ?_
   refine AOps.nil ?_
   refine hK9 _ ?_
   clear hK9 K9
   refine AWp.ret ?_
   repeat (first | refine xBlock_ret ?_ | refine xThen_ret ?_)
   obtain rfl := Option.some.inj hE
   refine retQ.retF H rfl ⟨rfl, rfl⟩ ?_
   exact (fun _ _ h => h)
  ·have hE := condF hc8 hE
   try dsimp only at hc8
   refine AWp.seqK fun K10 hK10 => ?_
   refine AWp.region ?_
   refine AOps.s0 (Cert.binI rfl rfl rfl) rfl ?_
   refine AOps.s0 (Cert.assign (by conv => lhs; whnf)) rfl ?_
   refine AOps.nil ?_
   refine hK10 _ ?_
   clear hK10 K10
   refine AWp.cond rfl (fun hc11 => ?_) (fun hc11 => ?_)
   ·have hE := condT hc11 hE
    try dsimp only at hc11
    refine AWp.seqK fun K12 hK12 => ?_
    refine AWp.region ?_
    refine AOps.s0 (Cert.assign (by conv => lhs; whnf)) rfl ?_
    refine AOps.nil ?_
    refine hK12 _ ?_
    clear hK12 K12
    refine AWp.ret ?_
    repeat (first | refine xBlock_ret ?_ | refine xThen_ret ?_)
    obtain rfl := Option.some.inj hE
    refine retQ.retF H rfl ⟨rfl, rfl⟩ ?_
    exact (fun _ _ h => h)
   ·have hE := condF hc11 hE
    try dsimp only at hc11
    refine AWp.skip ?_
    refine hK2 _ ?_
    clear hK2 K2
    refine AWp.seqK fun K13 hK13 => ?_
    refine AWp.region ?_
    refine AOps.s0 (Cert.assign (by conv => lhs; whnf)) rfl ?_
    refine AOps.nil ?_
    refine hK13 _ ?_
    clear hK13 K13
    refine AWp.ret ?_
    repeat (first | refine xBlock_ret ?_ | refine xThen_ret ?_)
    obtain rfl := Option.some.inj hE
    refine retQ.retF H rfl ⟨rfl, rfl⟩ ?_
    exact (fun _ _ h => h)
def fields_checker_roots_j10 (a0 : Fields_checker) (a1 : (Sl TSel)) (a2 : (List Bs)) (a3 : (List Bs)) (n3 : Nat) (s14_4 : Nat) (y5_c2 : (List Bs)) (y6_c3 : (List Bs)) (k_next_3 : Nat → (List Bs) → (List Bs) → Option ((List Bs) × (List Bs))) (y11_c2 : (List Bs)) (y12_c3 : (List Bs)) : Option ((List Bs) × (List Bs)) := k_next_3 (s14_4 + 1) y11_c2 y12_c3
def fields_checker_roots_j30 (a0 : Fields_checker) (a1 : (Sl TSel)) (a2 : (List Bs)) (a3 : (List Bs)) (n3 : Nat) (s14_4 : Nat) (y5_c2 : (List Bs)) (y6_c3 : (List Bs)) (x14 : TSel) (n23 : Nat) (s45_24 : Nat) (y25_c2 : (List Bs)) (y26_c3 : (List Bs)) (k_next_23 : Nat → (List Bs) → (List Bs) → Option ((List Bs) × (List Bs))) (y31_c2 : (List Bs)) (y32_c3 : (List Bs)) : Option ((List Bs) × (List Bs)) := k_next_23 (s45_24 + 1) y31_c2 y32_c3
def fields_checker_roots_l23 (a0 : Fields_checker) (a1 : (Sl TSel)) (a2 : (List Bs)) (a3 : (List Bs)) (n3 : Nat) (s14_4 : Nat) (y5_c2 : (List Bs)) (y6_c3 : (List Bs)) (x14 : TSel) (k_next_3 : Nat → (List Bs) → (List Bs) → Option ((List Bs) × (List Bs))) (k_rec_30 : Fields_checker → (Sl TSel) → (List Bs) → (List Bs) → Option ((List Bs) × (List Bs))) : Nat → Nat → (List Bs) → (List Bs) → Option ((List Bs) × (List Bs))
 | 0, _, _, _ => none
 | n23 + 1, s45_24, y25_c2, y26_c3 => bif (decide (((s45_24 : Nat) : Int) < ((a0.Fq.FFrags.l.length : Nat) : Int))) then ((a0.Fq.FFrags.l[s45_24]?).bind fun x34 => bif (((x34.FName == x14.FName)) && (!(y26_c3.contains x14.FName))) then ((k_rec_30 a0 x34.FSels y25_c2 (insS y26_c3 x14.FName)).bind fun x38 => fields_checker_roots_j30 a0 a1 a2 a3 n3 s14_4 y5_c2 y6_c3 x14 n23 s45_24 y25_c2 y26_c3 ((fields_checker_roots_l23 a0 a1 a2 a3 n3 s14_4 y5_c2 y6_c3 x14 k_next_3 k_rec_30 n23)) x38.1 x38.2) else (fields_checker_roots_j30 a0 a1 a2 a3 n3 s14_4 y5_c2 y6_c3 x14 n23 s45_24 y25_c2 y26_c3 ((fields_checker_roots_l23 a0 a1 a2 a3 n3 s14_4 y5_c2 y6_c3 x14 k_next_3 k_rec_30 n23)) y25_c2 y26_c3)) else (fields_checker_roots_j10 a0 a1 a2 a3 n3 s14_4 y5_c2 y6_c3 k_next_3 y25_c2 y26_c3)
def fields_checker_roots_l3 (a0 : Fields_checker) (a1 : (Sl TSel)) (a2 : (List Bs)) (a3 : (List Bs)) (k_rec_30 : Fields_checker → (Sl TSel) → (List Bs) → (List Bs) → Option ((List Bs) × (List Bs))) : Nat → Nat → (List Bs) → (List Bs) → Option ((List Bs) × (List Bs))
 | 0, _, _, _ => none
 | n3 + 1, s14_4, y5_c2, y6_c3 => bif (decide (((s14_4 : Nat) : Int) < ((a1.l.length : Nat) : Int))) then ((a1.l[s14_4]?).bind fun x14 => bif (decide (x14.FKind = (3 : Int))) then ((k_rec_30 a0 x14.FSels y5_c2 y6_c3).bind fun x18 => fields_checker_roots_j10 a0 a1 a2 a3 n3 s14_4 y5_c2 y6_c3 ((fields_checker_roots_l3 a0 a1 a2 a3 k_rec_30 n3)) x18.1 x18.2) else (bif (decide (x14.FKind = (2 : Int))) then (fields_checker_roots_l23 a0 a1 a2 a3 n3 s14_4 y5_c2 y6_c3 x14 ((fields_checker_roots_l3 a0 a1 a2 a3 k_rec_30 n3)) k_rec_30 (a0.Fq.FFrags.l.length + 1) 0 y5_c2 y6_c3) else (bif (!(x14.FAlias == ([] : Bs))) then (fields_checker_roots_j10 a0 a1 a2 a3 n3 s14_4 y5_c2 y6_c3 ((fields_checker_roots_l3 a0 a1 a2 a3 k_rec_30 n3)) (insS y5_c2 x14.FAlias) y6_c3) else (fields_checker_roots_j10 a0 a1 a2 a3 n3 s14_4 y5_c2 y6_c3 ((fields_checker_roots_l3 a0 a1 a2 a3 k_rec_30 n3)) (insS y5_c2 x14.FName) y6_c3)))) else (some (y5_c2, y6_c3))
def fields_checker_roots_n : Nat → Fields_checker → (Sl TSel) → (List Bs) → (List Bs) → Option ((List Bs) × (List Bs))
 | 0, _, _, _, _ => none
 | n + 1, a0, a1, a2, a3 => fields_checker_roots_l3 a0 a1 a2 a3 (fields_checker_roots_n n) (a1.l.length + 1) 0 a2 a3
set_option maxRecDepth 100000 in
set_option maxHeartbeats 2000000 in
theorem fields_checker_roots_step (n : Nat) (ih_30 : ∀ {a0 : Fields_checker} {a1 : (Sl TSel)} {a2 : (List Bs)} {a3 : (List Bs)} {w1 : Option Nat} {q0_2 : Option Nat} {c0 : Nat} {c2 : Nat} {c3 : Nat} {r : ((List Bs) × (List Bs))}, fields_checker_roots_n n a0 a1 a2 a3 = some r → ∀ (H : Heap) (hc0 : H c0 = some (.cells (Fields_checker.cg q0_2 a0))) (hc2 : H c2 = some (.map (seenM a2))) (hc3 : H c3 = some (.map (seenM a3))) (ne_c3_c2 : c3 ≠ c2), ACalls Try.prog 30 [.d (.ptr c0 0), .d (Sl.d 7 TSel.c w1 a1), .d (.map c2), .d (.map c3)] H fun v h' => v = .tup [] ∧ h' = ((H.set c2 (some (.map (seenM r.1)))).set c3 (some (.map (seenM r.2))))) : ∀ {a0 : Fields_checker} {a1 : (Sl TSel)} {a2 : (List Bs)} {a3 : (List Bs)} {w1 : Option Nat} {q0_2 : Option Nat} {c0 : Nat} {c2 : Nat} {c3 : Nat} {r : ((List Bs) × (List Bs))}, fields_checker_roots_n (n + 1) a0 a1 a2 a3 = some r → ∀ (H : Heap) (hc0 : H c0 = some (.cells (Fields_checker.cg q0_2 a0))) (hc2 : H c2 = some (.map (seenM a2))) (hc3 : H c3 = some (.map (seenM a3))) (ne_c3_c2 : c3 ≠ c2), ACalls Try.prog 30 [.d (.ptr c0 0), .d (Sl.d 7 TSel.c w1 a1), .d (.map c2), .d (.map c3)] H fun v h' => v = .tup [] ∧ h' = ((H.set c2 (some (.map (seenM r.1)))).set c3 (some (.map (seenM r.2)))) := by
 intro a0 a1 a2 a3 w1 q0_2 c0 c2 c3 r hE H hc0 hc2 hc3 ne_c3_c2
 rw [fields_checker_roots_n] at hE
 refine ACalls.of_wp (fn := Try.f30) (c := _) Try.tab_ok (fun _ _ => Try.call30 _ _) Try.func30 rfl (n := 72) rfl (rs := []) rfl rfl ?_
 have ne_c2_c0 : c2 ≠ c0 := fun e_ => by subst e_; simp_all
 have ne_c3_c0 : c3 ≠ c0 := fun e_ => by subst e_; simp_all
 refine AWp.heqA (h' := ((H.set c2 (some (.map (seenM a2)))).set c3 (some (.map (seenM a3))))) (by funext n_; simp only [Heap.set]; (repeat' split) <;> simp_all) ?_
 refine AWp.seqK fun K1 hK1 => ?_
 refine AWp.region ?_
 refine AOps.s0 (Cert.move (by conv => lhs; whnf)) rfl ?_
 refine AOps.sLen (f := TSel.c) (s := a1) (Try.tab_ok _ _ rfl) rfl rfl rfl rfl fun hL2 => ?_
 refine AOps.s0 (Cert.move (by conv => lhs; whnf)) rfl ?_
 refine AOps.nil ?_
 refine hK1 _ ?_
 clear hK1 K1
 refine AWp.block ?_
 refine AWp.loopH (KeepsT.cons (k := 0) (by conv => lhs; whnf) (KeepsT.cons (k := 2) (by conv => lhs; whnf) (KeepsT.cons (k := 3) (by conv => lhs; whnf) (KeepsT.cons (k := 12) (by conv => lhs; whnf) (KeepsT.cons (k := 13) (by conv => lhs; whnf) KeepsT.nil))))) (fun (z : Nat × Nat × (List Bs) × (List Bs)) => [(14, .a (.d (.int .i64 ((z.2.1 : Nat) : Int))))]) (fun z => ((H.set c2 (some (.map (seenM z.2.2.1)))).set c3 (some (.map (seenM z.2.2.2))))) (fun z => z.1) (fun z => fields_checker_roots_l3 a0 a1 a2 a3 (fields_checker_roots_n n) z.1 z.2.1 z.2.2.1 z.2.2.2 = some r) ((a1.l.length + 1), 0, a2, a3) hE Weak.toA ?_
 rintro ⟨n3, s14_4, y5_c2, y6_c3⟩ hE K3 hK3
 try dsimp only at hE
 cases n3 with
 | zero => cases hE
 | succ n3 =>
   rw [fields_checker_roots_l3] at hE
   refine AWp.seqK fun K7 hK7 => ?_
   refine AWp.region ?_
   refine AOps.s0 (Cert.binI rfl rfl rfl) rfl ?_
   refine AOps.nil ?_
   refine hK7 _ ?_
   clear hK7 K7
   refine AWp.seqK fun K8 hK8 => ?_
   refine AWp.cond rfl (fun hc9 => ?_) (fun hc9 => ?_)
   ·have hE := condT hc9 hE
    try dsimp only at hc9
    have hf9 := of_decide_eq_true hc9
    refine AWp.skip ?_
    refine hK8 _ ?_
    clear hK8 K8
    refine AWp.seqJH (KeepsT.cons (k := 0) (by conv => lhs; whnf) (KeepsT.cons (k := 2) (by conv => lhs; whnf) (KeepsT.cons (k := 3) (by conv => lhs; whnf) (KeepsT.cons (k := 12) (by conv => lhs; whnf) (KeepsT.cons (k := 13) (by conv => lhs; whnf) (KeepsT.cons (k := 14) (by conv => lhs; whnf) KeepsT.nil)))))) (fun (z : (List Bs) × (List Bs)) => []) (fun z => ((H.set c2 (some (.map (seenM z.1)))).set c3 (some (.map (seenM z.2))))) (fun z => fields_checker_roots_j10 a0 a1 a2 a3 n3 s14_4 y5_c2 y6_c3 ((fields_checker_roots_l3 a0 a1 a2 a3 (fields_checker_roots_n n) n3)) z.1 z.2 = some r) ?_ ?_
    ·intro K10 hK10
     refine AWp.block ?_
     refine AWp.seqK fun K13 hK13 => ?_
     refine AWp.region ?_
     obtain ⟨x14, gx14, hE⟩ := bindO_some hE
     refine AOps.s0 (Cert.idxMn (f := TSel.c) (n := s14_4) (Try.tab_ok _ _ rfl) rfl (Try.tab_ok _ _ rfl) rfl rfl rfl gx14) rfl ?_
     refine AOps.s0 (Cert.loadV (Try.tab_ok _ _ rfl) rfl rfl rfl) rfl ?_
     refine AOps.sL (Cert.allocL (Try.tab_ok _ _ rfl) rfl (by repeat (first | exact Snoc.nil | apply Snoc.cons))) rfl ?_
     refine AOps.sLn (Cert.storeLF (Try.tab_ok _ _ rfl) rfl rfl rfl rfl rfl (by repeat (first | exact SetAt.zero | apply SetAt.succ))) ?_
     refine AOps.nil ?_
     refine hK13 _ ?_
     clear hK13 K13
     refine AWp.freeze 9 _ rfl (by repeat (first | exact Snoc.nil | apply Snoc.cons)) (Keeps.c (k := 0) (by conv => lhs; whnf) (by rfl) (Keeps.c (k := 2) (by conv => lhs; whnf) (by rfl) (Keeps.c (k := 3) (by conv => lhs; whnf) (by rfl) (Keeps.c (k := 12) (by conv => lhs; whnf) (by rfl) (Keeps.c (k := 13) (by conv => lhs; whnf) (by rfl) (Keeps.c (k := 14) (by conv => lhs; whnf) (by rfl) Keeps.nil)))))) ?_
     refine AWp.seqK fun K15 hK15 => ?_
     refine AWp.region ?_
     refine AOps.s0 (Cert.fieldV (Try.tab_ok _ _ rfl) rfl rfl (Try.tab_ok _ _ rfl) rfl rfl (by conv => lhs; whnf)) rfl ?_
     refine AOps.s0 (Cert.loadV (Try.tab_ok _ _ rfl) rfl rfl rfl) rfl ?_
     refine AOps.nil ?_
     refine hK15 _ ?_
     clear hK15 K15
     refine AWp.block ?_
     refine AWp.seqK fun K16 hK16 => ?_
     refine AWp.region ?_
     refine AOps.s0 (Cert.binI rfl rfl rfl) rfl ?_
     refine AOps.s0 (Cert.assign (by conv => lhs; whnf)) rfl ?_
     refine AOps.nil ?_
     refine hK16 _ ?_
     clear hK16 K16
     refine AWp.cond rfl (fun hc17 => ?_) (fun hc17 => ?_)
     ·have hE := condT hc17 hE
      try dsimp only at hc17
      refine AWp.region ?_
      refine AOps.s0 (Cert.move (by conv => lhs; whnf)) rfl ?_
      refine AOps.s0 (Cert.fieldV (Try.tab_ok _ _ rfl) rfl rfl (Try.tab_ok _ _ rfl) rfl rfl (by conv => lhs; whnf)) rfl ?_
      refine AOps.s0 (Cert.loadV (Try.tab_ok _ _ rfl) rfl rfl (congrArg (fun x => some (A.d x)) (TSel.FSelsD_eq _))) rfl ?_
      refine AOps.s0 (Cert.move (by conv => lhs; whnf)) rfl ?_
      refine AOps.s0 (Cert.move (by conv => lhs; whnf)) rfl ?_
      obtain ⟨x18, gx18, hE⟩ := bindO_some hE
      refine AOps.sH (Cert.callH rfl rfl (ih_30 gx18 _ hpG hpG hpG (by assumption))) rfl ?_
      refine AOps.heq (h' := ((H.set c2 (some (.map (seenM x18.1)))).set c3 (some (.map (seenM x18.2))))) (by first | rfl | (rw [Heap.set_set]; rfl) | (funext n_; simp only [Heap.set]; (repeat' split) <;> first | rfl | (exfalso; simp_all; done) | (simp_all; done))) ?_
      refine AOps.nil ?_
      exact hK10 _ (x18.1, x18.2) Weak.toA hE
     ·have hE := condF hc17 hE
      try dsimp only at hc17
      refine AWp.seqK fun K19 hK19 => ?_
      refine AWp.region ?_
      refine AOps.s0 (Cert.binI rfl rfl rfl) rfl ?_
      refine AOps.s0 (Cert.assign (by conv => lhs; whnf)) rfl ?_
      refine AOps.nil ?_
      refine hK19 _ ?_
      clear hK19 K19
      refine AWp.cond rfl (fun hc20 => ?_) (fun hc20 => ?_)
      ·have hE := condT hc20 hE
       try dsimp only at hc20
       refine AWp.seqK fun K21 hK21 => ?_
       refine AWp.region ?_
       refine AOps.s0 (Cert.move (by conv => lhs; whnf)) rfl ?_
       refine AOps.s0 (Cert.nilP rfl) rfl ?_
       refine AOps.s0 (Cert.fieldP (Try.tab_ok _ _ rfl) rfl rfl (Try.tab_ok _ _ rfl) rfl rfl) rfl ?_
       refine AOps.s0 (Cert.fieldP (Try.tab_ok _ _ rfl) rfl rfl (Try.tab_ok _ _ rfl) rfl rfl) rfl ?_
       refine AOps.s0 (Cert.loadP (Try.tab_ok _ _ rfl) rfl rfl hpG rfl) rfl ?_
       refine AOps.sLen (f := TFrag.c) (s := a0.Fq.FFrags) (Try.tab_ok _ _ rfl) rfl rfl rfl rfl fun hL22 => ?_
       refine AOps.s0 (Cert.move (by conv => lhs; whnf)) rfl ?_
       refine AOps.nil ?_
       refine hK21 _ ?_
       clear hK21 K21
       refine AWp.block ?_
       refine AWp.loopH (KeepsT.cons (k := 0) (by conv => lhs; whnf) (KeepsT.cons (k := 2) (by conv => lhs; whnf) (KeepsT.cons (k := 3) (by conv => lhs; whnf) (KeepsT.cons (k := 9) (by conv => lhs; whnf) (KeepsT.cons (k := 12) (by conv => lhs; whnf) (KeepsT.cons (k := 13) (by conv => lhs; whnf) (KeepsT.cons (k := 14) (by conv => lhs; whnf) (KeepsT.cons (k := 43) (by conv => lhs; whnf) (KeepsT.cons (k := 44) (by conv => lhs; whnf) KeepsT.nil))))))))) (fun (z : Nat × Nat × (List Bs) × (List Bs)) => [(45, .a (.d (.int .i64 ((z.2.1 : Nat) : Int))))]) (fun z => ((H.set c2 (some (.map (seenM z.2.2.1)))).set c3 (some (.map (seenM z.2.2.2))))) (fun z => z.1) (fun z => fields_checker_roots_l23 a0 a1 a2 a3 n3 s14_4 y5_c2 y6_c3 x14 ((fields_checker_roots_l3 a0 a1 a2 a3 (fields_checker_roots_n n) n3)) (fields_checker_roots_n n) z.1 z.2.1 z.2.2.1 z.2.2.2 = some r) ((a0.Fq.FFrags.l.length + 1), 0, y5_c2, y6_c3) hE Weak.toA ?_
       rintro ⟨n23, s45_24, y25_c2, y26_c3⟩ hE K23 hK23
       try dsimp only at hE
       cases n23 with
       | zero => cases hE
       | succ n23 =>
         rw [fields_checker_roots_l23] at hE
         refine AWp.seqK fun K27 hK27 => ?_
         refine AWp.region ?_
         refine AOps.s0 (Cert.binI rfl rfl rfl) rfl ?_
         refine AOps.nil ?_
         refine hK27 _ ?_
         clear hK27 K27
         refine AWp.seqK fun K28 hK28 => ?_
         refine AWp.cond rfl (fun hc29 => ?_) (fun hc29 => ?_)
         ·have hE := condT hc29 hE
          try dsimp only at hc29
          have hf29 := of_decide_eq_true hc29
          refine AWp.skip ?_
          refine hK28 _ ?_
          clear hK28 K28
          refine AWp.seqJH (KeepsT.cons (k := 0) (by conv => lhs; whnf) (KeepsT.cons (k := 2) (by conv => lhs; whnf) (KeepsT.cons (k := 3) (by conv => lhs; whnf) (KeepsT.cons (k := 9) (by conv => lhs; whnf) (KeepsT.cons (k := 12) (by conv => lhs; whnf) (KeepsT.cons (k := 13) (by conv => lhs; whnf) (KeepsT.cons (k := 14) (by conv => lhs; whnf) (KeepsT.cons (k := 43) (by conv => lhs; whnf) (KeepsT.cons (k := 44) (by conv => lhs; whnf) (KeepsT.cons (k := 45) (by conv => lhs; whnf) KeepsT.nil)))))))))) (fun (z : (List Bs) × (List Bs)) => []) (fun z => ((H.set c2 (some (.map (seenM z.1)))).set c3 (some (.map (seenM z.2))))) (fun z => fields_checker_roots_j30 a0 a1 a2 a3 n3 s14_4 y5_c2 y6_c3 x14 n23 s45_24 y25_c2 y26_c3 ((fields_checker_roots_l23 a0 a1 a2 a3 n3 s14_4 y5_c2 y6_c3 x14 ((fields_checker_roots_l3 a0 a1 a2 a3 (fields_checker_roots_n n) n3)) (fields_checker_roots_n n) n23)) z.1 z.2 = some r) ?_ ?_
          ·intro K30 hK30
           refine AWp.block ?_
           refine AWp.seqK fun K33 hK33 => ?_
           refine AWp.region ?_
           obtain ⟨x34, gx34, hE⟩ := bindO_some hE
           refine AOps.s0 (Cert.idxMn (f := TFrag.c) (n := s45_24) (Try.tab_ok _ _ rfl) rfl (Try.tab_ok _ _ rfl) rfl rfl rfl gx34) rfl ?_
           refine AOps.s0 (Cert.loadV (Try.tab_ok _ _ rfl) rfl rfl rfl) rfl ?_
           refine AOps.sL (Cert.allocL (Try.tab_ok _ _ rfl) rfl (by repeat (first | exact Snoc.nil | apply Snoc.cons))) rfl ?_
           refine AOps.sLn (Cert.storeLF (Try.tab_ok _ _ rfl) rfl rfl rfl rfl rfl (by repeat (first | exact SetAt.zero | apply SetAt.succ))) ?_
           refine AOps.nil ?_
           refine hK33 _ ?_
           clear hK33 K33
           refine AWp.freeze 11 _ rfl (by repeat (first | exact Snoc.nil | apply Snoc.cons)) (Keeps.c (k := 0) (by conv => lhs; whnf) (by rfl) (Keeps.c (k := 2) (by conv => lhs; whnf) (by rfl) (Keeps.c (k := 3) (by conv => lhs; whnf) (by rfl) (Keeps.c (k := 9) (by conv => lhs; whnf) (by rfl) (Keeps.c (k := 12) (by conv => lhs; whnf) (by rfl) (Keeps.c (k := 13) (by conv => lhs; whnf) (by rfl) (Keeps.c (k := 14) (by conv => lhs; whnf) (by rfl) (Keeps.c (k := 43) (by conv => lhs; whnf) (by rfl) (Keeps.c (k := 44) (by conv => lhs; whnf) (by rfl) (Keeps.c (k := 45) (by conv => lhs; whnf) (by rfl) Keeps.nil)))))))))) ?_
           refine AWp.seqK fun K35 hK35 => ?_
           refine AWp.region ?_
           refine AOps.s0 (Cert.fieldV (Try.tab_ok _ _ rfl) rfl rfl (Try.tab_ok _ _ rfl) rfl rfl (by conv => lhs; whnf)) rfl ?_
           refine AOps.s0 (Cert.loadV (Try.tab_ok _ _ rfl) rfl rfl rfl) rfl ?_
           refine AOps.s0 (Cert.fieldV (Try.tab_ok _ _ rfl) rfl rfl (Try.tab_ok _ _ rfl) rfl rfl (by conv => lhs; whnf)) rfl ?_
           refine AOps.s0 (Cert.loadV (Try.tab_ok _ _ rfl) rfl rfl rfl) rfl ?_
           refine AOps.s0 (Cert.binS rfl rfl rfl) rfl ?_
           refine AOps.s0 (Cert.move (by conv => lhs; whnf)) rfl ?_
           refine AOps.gC rfl rfl (fun hC => Cert.move (by conv => lhs; whnf)) rfl ?_
           refine AOps.gC rfl rfl (fun hC => Cert.fieldV (Try.tab_ok _ _ rfl) rfl rfl (Try.tab_ok _ _ rfl) rfl rfl (by conv => lhs; whnf)) rfl ?_
           refine AOps.gC rfl rfl (fun hC => Cert.ungd (k := 56) rfl (by first | exact hC | exact andL hC | exact andL (andL hC) | exact andL (andL (andL hC)) | exact andR hC | simp_all) (Cert.loadV (Try.tab_ok _ _ rfl) rfl rfl rfl)) rfl ?_
           refine AOps.gC rfl rfl (fun hC => Cert.ungd (k := 55) rfl (by first | exact hC | exact andL hC | exact andL (andL hC) | exact andL (andL (andL hC)) | exact andR hC | simp_all) (Cert.ungd (k := 57) rfl (by first | exact hC | exact andL hC | exact andL (andL hC) | exact andL (andL (andL hC)) | exact andR hC | simp_all) (Cert.lookupSeen (Try.tab_ok _ _ rfl) rfl (Try.tab_ok _ _ rfl) (Try.tab_ok _ _ rfl) rfl rfl rfl rfl hpG))) rfl ?_
           refine AOps.gC rfl rfl (fun hC => Cert.ungd (k := 58) rfl (by first | exact hC | exact andL hC | exact andL (andL hC) | exact andL (andL (andL hC)) | exact andR hC | simp_all) (Cert.notB rfl)) rfl ?_
           refine AOps.s0 (Cert.pickAnd rfl rfl (fun h => by first | exact h | exact notT h | exact andI hC h | exact andI hC (notT h) | simp_all) rfl) rfl ?_
           refine AOps.nil ?_
           refine hK35 _ ?_
           clear hK35 K35
           refine AWp.cond rfl (fun hc36 => ?_) (fun hc36 => ?_)
           ·have hE := condT hc36 hE
            try dsimp only at hc36
            refine AWp.seqK fun K37 hK37 => ?_
            refine AWp.region ?_
            refine AOps.s0 (Cert.move (by conv => lhs; whnf)) rfl ?_
            refine AOps.s0 (Cert.fieldV (Try.tab_ok _ _ rfl) rfl rfl (Try.tab_ok _ _ rfl) rfl rfl (by conv => lhs; whnf)) rfl ?_
            refine AOps.s0 (Cert.loadV (Try.tab_ok _ _ rfl) rfl rfl rfl) rfl ?_
            refine AOps.sHn (Cert.mapUpdate (Try.tab_ok _ _ rfl) rfl (Try.tab_ok _ _ rfl) rfl rfl rfl rfl hpG (seen_upd _ _) rfl) rfl rfl ?_
            refine AOps.heq (h' := ((H.set c2 (some (.map (seenM y25_c2)))).set c3 (some (.map (seenM (insS y26_c3 x14.FName)))))) (by first | rfl | (rw [Heap.set_set]; rfl) | (funext n_; simp only [Heap.set]; (repeat' split) <;> first | rfl | (exfalso; simp_all; done) | (simp_all; done))) ?_
            refine AOps.nil ?_
            refine hK37 _ ?_
            clear hK37 K37
            refine AWp.region ?_
            refine AOps.s0 (Cert.move (by conv => lhs; whnf)) rfl ?_
            refine AOps.s0 (Cert.fieldV (Try.tab_ok _ _ rfl) rfl rfl (Try.tab_ok _ _ rfl) rfl rfl (by conv => lhs; whnf)) rfl ?_
            refine AOps.s0 (Cert.loadV (Try.tab_ok _ _ rfl) rfl rfl rfl) rfl ?_
            refine AOps.s0 (Cert.move (by conv => lhs; whnf)) rfl ?_
            refine AOps.s0 (Cert.move (by conv => lhs; whnf)) rfl ?_
            obtain ⟨x38, gx38, hE⟩ := bindO_some hE
            refine AOps.sH (Cert.callH rfl rfl (ih_30 gx38 _ hpG hpG hpG (by assumption))) rfl ?_
            refine AOps.heq (h' := ((H.set c2 (some (.map (seenM x38.1)))).set c3 (some (.map (seenM x38.2))))) (by first | rfl | (rw [Heap.set_set]; rfl) | (funext n_; simp only [Heap.set]; (repeat' split) <;> first | rfl | (exfalso; simp_all; done) | (simp_all; done))) ?_
            refine AOps.nil ?_
            exact hK30 _ (x38.1, x38.2) Weak.toA hE
           ·have hE := condF hc36 hE
            try dsimp only at hc36
            refine AWp.skip ?_
            exact hK30 _ (y25_c2, y26_c3) Weak.toA hE
          ·rintro ⟨y31_c2, y32_c3⟩ hE
           try dsimp only at hE
           unfold fields_checker_roots_j30 at hE
           refine AWp.region ?_
           refine AOps.s0 (Cert.addI rfl rfl (by first | omega | (dsimp only; omega)) (by first | omega | (dsimp only; omega))) rfl ?_
           refine AOps.s0 (Cert.move (by conv => lhs; whnf)) rfl ?_
           refine AOps.nil ?_
           exact hK23 _ (n23, (s45_24 + 1), y31_c2, y32_c3) Weak.toA hE (Nat.lt_succ_self _)
         ·have hE := condF hc29 hE
          try dsimp only at hc29
          refine AWp.exit ?_
          exact hK10 _ (y25_c2, y26_c3) Weak.toA hE
      ·have hE := condF hc20 hE
       try dsimp only at hc20
       refine AWp.seqK fun K39 hK39 => ?_
       refine AWp.region ?_
       refine AOps.s0 (Cert.fieldV (Try.tab_ok _ _ rfl) rfl rfl (Try.tab_ok _ _ rfl) rfl rfl (by conv => lhs; whnf)) rfl ?_
       refine AOps.s0 (Cert.loadV (Try.tab_ok _ _ rfl) rfl rfl rfl) rfl ?_
       refine AOps.s0 (Cert.binS rfl rfl rfl) rfl ?_
       refine AOps.nil ?_
       refine hK39 _ ?_
       clear hK39 K39
       refine AWp.cond rfl (fun hc40 => ?_) (fun hc40 => ?_)
       ·have hE := condT hc40 hE
        try dsimp only at hc40
        refine AWp.region ?_
        refine AOps.s0 (Cert.move (by conv => lhs; whnf)) rfl ?_
        refine AOps.s0 (Cert.fieldV (Try.tab_ok _ _ rfl) rfl rfl (Try.tab_ok _ _ rfl) rfl rfl (by conv => lhs; whnf)) rfl ?_
        refine AOps.s0 (Cert.loadV (Try.tab_ok _ _ rfl) rfl rfl rfl) rfl ?_
        refine AOps.sHn (Cert.mapUpdate (Try.tab_ok _ _ rfl) rfl (Try.tab_ok _ _ rfl) rfl rfl rfl rfl hpG (seen_upd _ _) rfl) rfl rfl ?_
        refine AOps.heq (h' := ((H.set c2 (some (.map (seenM (insS y5_c2 x14.FAlias))))).set c3 (some (.map (seenM y6_c3))))) (by first | rfl | (rw [Heap.set_set]; rfl) | (funext n_; simp only [Heap.set]; (repeat' split) <;> first | rfl | (exfalso; simp_all; done) | (simp_all; done))) ?_
        refine AOps.nil ?_
        exact hK10 _ ((insS y5_c2 x14.FAlias), y6_c3) Weak.toA hE
       ·have hE := condF hc40 hE
        try dsimp only at hc40
        refine AWp.region ?_
        refine AOps.s0 (Cert.move (by conv => lhs; whnf)) rfl ?_
        refine AOps.s0 (Cert.fieldV (Try.tab_ok _ _ rfl) rfl rfl (Try.tab_ok _ _ rfl) rfl rfl (by conv => lhs; whnf)) rfl ?_
        refine AOps.s0 (Cert.loadV (Try.tab_ok _ _ rfl) rfl rfl rfl) rfl ?_
        refine AOps.sHn (Cert.mapUpdate (Try.tab_ok _ _ rfl) rfl (Try.tab_ok _ _ rfl) rfl rfl rfl rfl hpG (seen_upd _ _) rfl) rfl rfl ?_
        refine AOps.heq (h' := ((H.set c2 (some (.map (seenM (insS y5_c2 x14.FName))))).set c3 (some (.map (seenM y6_c3))))) (by first | rfl | (rw [Heap.set_set]; rfl) | (funext n_; simp only [Heap.set]; (repeat' split) <;> first | rfl | (exfalso; simp_all; done) | (simp_all; done))) ?_
        refine AOps.nil ?_
        exact hK10 _ ((insS y5_c2 x14.FName), y6_c3) Weak.toA hE
    ·rintro ⟨y11_c2, y12_c3⟩ hE
     try dsimp only at hE
     unfold fields_checker_roots_j10 at hE
     refine AWp.region ?_
     refine AOps.s0 (Cert.addI rfl rfl (by first | omega | (dsimp only; omega)) (by first | omega | (dsimp only; omega))) rfl ?_
     refine AOps.s0 (Cert.move (by conv => lhs; whnf)) rfl ?_
     refine AOps.nil ?_
     exact hK3 _ (n3, (s14_4 + 1), y11_c2, y12_c3) Weak.toA hE (Nat.lt_succ_self _)
   ·have hE := condF hc9 hE
    try dsimp only at hc9
    refine AWp.exit ?_
    repeat (first | refine xBlock_normal ?_ | refine xThen_exit ?_ | refine xBlock_exit ?_)
    obtain rfl := Option.some.inj hE
    refine retQ.normalF ((H.set c2 (some (.map (seenM y5_c2)))).set c3 (some (.map (seenM y6_c3)))) (xs := []) rfl ⟨rfl, rfl⟩ ?_
    exact (fun _ _ h => h)
theorem fields_checker_roots_all : ∀ (n : Nat), (∀ {a0 : Fields_checker} {a1 : (Sl TSel)} {a2 : (List Bs)} {a3 : (List Bs)} {w1 : Option Nat} {q0_2 : Option Nat} {c0 : Nat} {c2 : Nat} {c3 : Nat} {r : ((List Bs) × (List Bs))}, fields_checker_roots_n n a0 a1 a2 a3 = some r → ∀ (H : Heap) (hc0 : H c0 = some (.cells (Fields_checker.cg q0_2 a0))) (hc2 : H c2 = some (.map (seenM a2))) (hc3 : H c3 = some (.map (seenM a3))) (ne_c3_c2 : c3 ≠ c2), ACalls Try.prog 30 [.d (.ptr c0 0), .d (Sl.d 7 TSel.c w1 a1), .d (.map c2), .d (.map c3)] H fun v h' => v = .tup [] ∧ h' = ((H.set c2 (some (.map (seenM r.1)))).set c3 (some (.map (seenM r.2)))))
 | 0 => fun hE => by first | cases hE | (rw [fields_checker_roots_n] at hE; cases hE)
 | n + 1 => fields_checker_roots_step n (fields_checker_roots_all n)
def fields_checker_roots (a0 : Fields_checker) (a1 : (Sl TSel)) (a2 : (List Bs)) (a3 : (List Bs)) : Option ((List Bs) × (List Bs)) := fields_checker_roots_n F0 a0 a1 a2 a3
theorem fields_checker_roots_walk {a0 : Fields_checker} {a1 : (Sl TSel)} {a2 : (List Bs)} {a3 : (List Bs)} {w1 : Option Nat} {q0_2 : Option Nat} {c0 : Nat} {c2 : Nat} {c3 : Nat} {r : ((List Bs) × (List Bs))} (hE : fields_checker_roots a0 a1 a2 a3 = some r) (H : Heap) (hc0 : H c0 = some (.cells (Fields_checker.cg q0_2 a0))) (hc2 : H c2 = some (.map (seenM a2))) (hc3 : H c3 = some (.map (seenM a3))) (ne_c3_c2 : c3 ≠ c2) : ACalls Try.prog 30 [.d (.ptr c0 0), .d (Sl.d 7 TSel.c w1 a1), .d (.map c2), .d (.map c3)] H fun v h' => v = .tup [] ∧ h' = ((H.set c2 (some (.map (seenM r.1)))).set c3 (some (.map (seenM r.2)))) := (fields_checker_roots_all F0) hE H hc0 hc2 hc3 ne_c3_c2
def fields_checker_add (a0 : Fields_checker) (a1 : Bool) (a2 : Int) (a3 : Bs) : Option Fields_checker := bif a1 then ((appC 24 a0.Fout (⟨false, [(TFault.mk a2 a3)]⟩ : Sl TFault)).bind fun x3 => some (Fields_checker.mk a0.Fd a0.Fq x3)) else (some a0)
set_option maxRecDepth 100000 in
set_option maxHeartbeats 2000000 in
theorem fields_checker_add_walk {a0 : Fields_checker} {a1 : Bool} {a2 : Int} {a3 : Bs}  {c0 : Nat} {c0_2 : Nat} {r : Fields_checker} (hE : fields_checker_add a0 a1 a2 a3 = some r) (H : Heap) (hc0 : H c0 = some (.cells (Fields_checker.cg (some c0_2) a0))) (ht0_2 : H c0_2 = some (.tok 2 a0.Fout.l.length)) : ACalls Try.prog 31 [.d (.ptr c0 0), .d (.bool a1), .d (.int .i64 a2), .d (.str a3)] H fun v h' => v = .tup [] ∧ h' = ((H.set c0_2 (some (.tok 2 r.Fout.l.length))).set c0 (some (.cells (Fields_checker.cg (some c0_2) r)))) := by
 unfold fields_checker_add at hE
 refine ACalls.of_wp (fn := Try.f31) (c := _) Try.tab_ok (fun _ _ => Try.call31 _ _) Try.func31 rfl (n := 21) rfl (rs := []) rfl rfl ?_
 have ne_c0_c0_2 : c0 ≠ c0_2 := fun e_ => by subst e_; simp_all
 refine AWp.heqA (h' := ((H.set c0_2 (some (.tok 2 a0.Fout.l.length))).set c0 (some (.cells (Fields_checker.cg (some c0_2) a0))))) (by funext n_; simp only [Heap.set]; (repeat' split) <;> simp_all) ?_
 refine AWp.seqK fun K1 hK1 => ?_
 refine AWp.region ?_
 refine AOps.s0 (Cert.move (by conv => lhs; whnf)) rfl ?_
 refine AOps.nil ?_
 refine hK1 _ ?_
 clear hK1 K1
 refine AWp.cond rfl (fun hc2 => ?_) (fun hc2 => ?_)
 ·have hE := condT hc2 hE
  try dsimp only at hc2
  refine AWp.region ?_
  refine AOps.s0 (Cert.move (by conv => lhs; whnf)) rfl ?_
  refine AOps.s0 (Cert.move (by conv => lhs; whnf)) rfl ?_
  refine AOps.s0 (Cert.nilP rfl) rfl ?_
  refine AOps.s0 (Cert.fieldP (Try.tab_ok _ _ rfl) rfl rfl (Try.tab_ok _ _ rfl) rfl rfl) rfl ?_
  refine AOps.s0 (Cert.loadP (Try.tab_ok _ _ rfl) rfl rfl hpG rfl) rfl ?_
  refine AOps.s0 (Cert.move (by conv => lhs; whnf)) rfl ?_
  refine AOps.s0 (Cert.move (by conv => lhs; whnf)) rfl ?_
  refine AOps.s0 (Cert.build Try.tab_ok rfl rfl rfl rfl rfl rfl) rfl ?_
  refine AOps.s0 (Cert.buildSlice (Try.tab_ok _ _ rfl) rfl (Try.tab_ok _ _ rfl) rfl rfl rfl rfl rfl rfl) rfl ?_
  obtain ⟨x3, gx3, hE⟩ := bindO_some hE
  refine AOps.sH (Cert.appM (f := TFault.c) (Try.tab_ok _ _ rfl) rfl (Try.tab_ok _ _ rfl) (Try.tab_ok _ _ rfl) ⟨_, rfl⟩ rfl rfl (by decide) rfl rfl rfl rfl hpG rfl gx3) rfl ?_
  refine AOps.heq (h' := ((H.set c0_2 (some (.tok 2 x3.l.length))).set c0 (some (.cells (Fields_checker.cg (some c0_2) a0))))) (by first | rfl | (rw [Heap.set_set]; rfl) | (funext n_; simp only [Heap.set]; (repeat' split) <;> first | rfl | (exfalso; simp_all; done) | (simp_all; done))) ?_
  refine AOps.s0 (Cert.nilP rfl) rfl ?_
  refine AOps.s0 (Cert.fieldP (Try.tab_ok _ _ rfl) rfl rfl (Try.tab_ok _ _ rfl) rfl rfl) rfl ?_
  refine AOps.sHn (Cert.storeP1 (Try.tab_ok _ _ rfl) rfl rfl hpG rfl (by repeat (first | exact SetAt.zero | apply SetAt.succ))) rfl rfl ?_
  refine AOps.heq (h' := ((H.set c0_2 (some (.tok 2 x3.l.length))).set c0 (some (.cells (Fields_checker.cg (some c0_2) (Fields_checker.mk a0.Fd a0.Fq x3)))))) (by first | rfl | (rw [Heap.set_set]; rfl) | (funext n_; simp only [Heap.set]; (repeat' split) <;> first | rfl | (exfalso; simp_all; done) | (simp_all; done))) ?_
  refine AOps.nil ?_
  repeat (first | refine xBlock_normal ?_ | refine xThen_exit ?_ | refine xBlock_exit ?_)
  obtain rfl := Option.some.inj hE
  refine retQ.normalF ((H.set c0_2 (some (.tok 2 x3.l.length))).set c0 (some (.cells (Fields_checker.cg (some c0_2) (Fields_checker.mk a0.Fd a0.Fq x3))))) (xs := []) rfl ⟨rfl, rfl⟩ ?_
  exact (fun _ _ h => h)
 ·have hE := condF hc2 hE
  try dsimp only at hc2
  refine AWp.skip ?_
  repeat (first | refine xBlock_normal ?_ | refine xThen_exit ?_ | refine xBlock_exit ?_)
  obtain rfl := Option.some.inj hE
  refine retQ.normalF ((H.set c0_2 (some (.tok 2 a0.Fout.l.length))).set c0 (some (.cells (Fields_checker.cg (some c0_2) a0)))) (xs := []) rfl ⟨rfl, rfl⟩ ?_
  exact (fun _ _ h => h)
def fields_needed (a0 : Bs) (a1 : Bs) : Option TInput := (typeref_Named a1).bind fun x3 => (typeref_NonNull x3).bind fun x4 => some (TInput.mk a0 x4 false TValue.zero (Sl.nil : Sl TDir))
set_option maxRecDepth 100000 in
set_option maxHeartbeats 2000000 in
theorem fields_needed_walk {a0 : Bs} {a1 : Bs}   {r : TInput} (hE : fields_needed a0 a1 = some r) (H : Heap)  : ACalls Try.prog 72 [.d (.str a0), .d (.str a1)] H fun v h' => v = .a (.agg (TInput.c r)) ∧ h' = H := by
 unfold fields_needed at hE
 refine ACalls.of_wp (fn := Try.f72) (c := _) Try.tab_ok (fun _ _ => Try.call72 _ _) Try.func72 rfl (n := 10) rfl (rs := [.cell 4 86]) rfl rfl ?_
 refine AWp.seqK fun K1 hK1 => ?_
 refine AWp.region ?_
 refine AOps.sL (Cert.allocL (Try.tab_ok _ _ rfl) rfl (by repeat (first | exact Snoc.nil | apply Snoc.cons))) rfl ?_
 refine AOps.nil ?_
 refine hK1 _ ?_
 clear hK1 K1
 refine AWp.seqK fun K2 hK2 => ?_
 refine AWp.region ?_
 refine AOps.s0 (Cert.move (by conv => lhs; whnf)) rfl ?_
 refine AOps.s0 (Cert.move (by conv => lhs; whnf)) rfl ?_
 obtain ⟨x3, gx3, hE⟩ := bindO_some hE
 refine AOps.s0 (Cert.callP rfl rfl (fun H => typeref_Named_walk gx3 H)) rfl ?_
 obtain ⟨x4, gx4, hE⟩ := bindO_some hE
 refine AOps.s0 (Cert.callP rfl rfl (fun H => typeref_NonNull_walk gx4 H)) rfl ?_
 refine AOps.s0 (Cert.build Try.tab_ok rfl rfl rfl rfl rfl rfl) rfl ?_
 refine AOps.sLn (Cert.storeLF (Try.tab_ok _ _ rfl) rfl rfl rfl rfl rfl (by repeat (first | exact SetAt.zero | apply SetAt.succ))) ?_
 refine AOps.nil ?_
 refine hK2 _ ?_
 clear hK2 K2
 refine AWp.ret ?_
 repeat (first | refine xBlock_ret ?_ | refine xThen_ret ?_)
 obtain rfl := Option.some.inj hE
 refine retQ.retF H rfl ⟨rfl, rfl⟩ ?_
 exact (fun _ _ h => h)
def fields_argsOf (a0 : Bs) (a1 : Bool) : Option (Sl TInput) := bif (((a0 == ([115, 107, 105, 112] : Bs))) || ((a0 == ([105, 110, 99, 108, 117, 100, 101] : Bs)))) then ((fields_needed ([105, 102] : Bs) ([66, 111, 111, 108, 101, 97, 110] : Bs)).bind fun x6 => some (⟨false, [x6]⟩ : Sl TInput)) else (bif (((a0 == ([100, 101, 102, 101, 114] : Bs))) && (!a1)) then ((fields_needed ([108, 97, 98, 101, 108] : Bs) ([83, 116, 114, 105, 110, 103] : Bs)).bind fun x10 => some (⟨false, [x10]⟩ : Sl TInput)) else (bif (((a0 == ([115, 116, 114, 101, 97, 109] : Bs))) && a1) then ((fields_needed ([108, 97, 98, 101, 108] : Bs) ([83, 116, 114, 105, 110, 103] : Bs)).bind fun x14 => (fields_needed ([105, 110, 105, 116, 105, 97, 108, 67, 111, 117, 110, 116] : Bs) ([73, 110, 116] : Bs)).bind fun x15 => some (⟨false, [x14, x15]⟩ : Sl TInput)) else (some (Sl.nil : Sl TInput))))
set_option maxRecDepth 100000 in
set_option maxHeartbeats 2000000 in
theorem fields_argsOf_walk {a0 : Bs} {a1 : Bool}   {r : (Sl TInput)} (hE : fields_argsOf a0 a1 = some r) (H : Heap)  : ACalls Try.prog 58 [.d (.str a0), .d (.bool a1)] H fun v h' => v = .a (.d (Sl.d 10 TInput.c none r)) ∧ h' = H := by
 unfold fields_argsOf at hE
 refine ACalls.of_wp (fn := Try.f58) (c := _) Try.tab_ok (fun _ _ => Try.call58 _ _) Try.func58 rfl (n := 32) rfl (rs := [.tmp 4]) rfl rfl ?_
 refine AWp.seqK fun K1 hK1 => ?_
 refine AWp.region ?_
 refine AOps.s0 (Cert.assignNil (k' := 10) rfl) rfl ?_
 refine AOps.nil ?_
 refine hK1 _ ?_
 clear hK1 K1
 refine AWp.seqK fun K2 hK2 => ?_
 refine AWp.block ?_
 refine AWp.seqK fun K3 hK3 => ?_
 refine AWp.region ?_
 refine AOps.s0 (Cert.move (by conv => lhs; whnf)) rfl ?_
 refine AOps.s0 (Cert.binS rfl rfl rfl) rfl ?_
 refine AOps.s0 (Cert.move (by conv => lhs; whnf)) rfl ?_
 refine AOps.gC rfl rfl (fun hC => Cert.move (by conv => lhs; whnf)) rfl ?_
 refine AOps.gC rfl rfl (fun hC => Cert.ungd (k := 9) rfl (by first | exact hC | exact andL hC | exact andL (andL hC) | exact andL (andL (andL hC)) | exact andR hC | simp_all) (Cert.binS rfl rfl rfl)) rfl ?_
 refine AOps.s0 (Cert.pickOr rfl rfl rfl (fun h => by first | exact h | exact notT h | exact andI hC h | exact andI hC (notT h) | simp_all)) rfl ?_
 refine AOps.s0 (Cert.assign (by conv => lhs; whnf)) rfl ?_
 refine AOps.nil ?_
 refine hK3 _ ?_
 clear hK3 K3
 refine AWp.cond rfl (fun hc4 => ?_) (fun hc4 => ?_)
 ·have hE := condT hc4 hE
  try dsimp only at hc4
  refine AWp.seqK fun K5 hK5 => ?_
  refine AWp.region ?_
  obtain ⟨x6, gx6, hE⟩ := bindO_some hE
  refine AOps.s0 (Cert.callP rfl rfl (fun H => fields_needed_walk gx6 H)) rfl ?_
  refine AOps.s0 (Cert.buildSlice (Try.tab_ok _ _ rfl) rfl (Try.tab_ok _ _ rfl) rfl rfl rfl rfl rfl rfl) rfl ?_
  refine AOps.s0 (Cert.assign (by conv => lhs; whnf)) rfl ?_
  refine AOps.nil ?_
  refine hK5 _ ?_
  clear hK5 K5
  refine AWp.ret ?_
  repeat (first | refine xBlock_ret ?_ | refine xThen_ret ?_)
  obtain rfl := Option.some.inj hE
  refine retQ.retF H rfl ⟨rfl, rfl⟩ ?_
  exact (fun _ _ h => h)
 ·have hE := condF hc4 hE
  try dsimp only at hc4
  refine AWp.seqK fun K7 hK7 => ?_
  refine AWp.region ?_
  refine AOps.s0 (Cert.move (by conv => lhs; whnf)) rfl ?_
  refine AOps.s0 (Cert.binS rfl rfl rfl) rfl ?_
  refine AOps.s0 (Cert.move (by conv => lhs; whnf)) rfl ?_
  refine AOps.gC rfl rfl (fun hC => Cert.move (by conv => lhs; whnf)) rfl ?_
  refine AOps.gC rfl rfl (fun hC => Cert.ungd (k := 18) rfl (by first | exact hC | exact andL hC | exact andL (andL hC) | exact andL (andL (andL hC)) | exact andR hC | simp_all) (Cert.notB rfl)) rfl ?_
  refine AOps.s0 (Cert.pickAnd rfl rfl (fun h => by first | exact h | exact notT h | exact andI hC h | exact andI hC (notT h) | simp_all) rfl) rfl ?_
  refine AOps.s0 (Cert.assign (by conv => lhs; whnf)) rfl ?_
  refine AOps.nil ?_
  refine hK7 _ ?_
  clear hK7 K7
  refine AWp.cond rfl (fun hc8 => ?_) (fun hc8 => ?_)
  ·have hE := condT hc8 hE
   try dsimp only at hc8
   refine AWp.seqK fun K9 hK9 => ?_
   refine AWp.region ?_
   obtain ⟨x10, gx10, hE⟩ := bindO_some hE
   refine AOps.s0 (Cert.callP rfl rfl (fun H => fields_needed_walk gx10 H)) rfl ?_
   refine AOps.s0 (Cert.buildSlice (Try.tab_ok _ _ rfl) rfl (Try.tab_ok _ _ rfl) rfl rfl rfl rfl rfl rfl) rfl ?_
   refine AOps.s0 (Cert.assign (by conv => lhs; whnf)) rfl ?_
   refine AOps.nil ?_
   refine hK9 _ ?_
   clear hK9 K9
   refine AWp.ret ?_
   repeat (first | refine xBlock_ret ?_ | refine xThen_ret ?_)
   obtain rfl := Option.some.inj hE
   refine retQ.retF H rfl ⟨rfl, rfl⟩ ?_
   exact (fun _ _ h => h)
  ·have hE := condF hc8 hE
   try dsimp only at hc8
   refine AWp.seqK fun K11 hK11 => ?_
   refine AWp.region ?_
   refine AOps.s0 (Cert.move (by conv => lhs; whnf)) rfl ?_
   refine AOps.s0 (Cert.binS rfl rfl rfl) rfl ?_
   refine AOps.s0 (Cert.move (by conv => lhs; whnf)) rfl ?_
   refine AOps.gC rfl rfl (fun hC => Cert.move (by conv => lhs; whnf)) rfl ?_
   refine AOps.s0 (Cert.pickAnd rfl rfl (fun h => by first | exact h | exact notT h | exact andI hC h | exact andI hC (notT h) | simp_all) rfl) rfl ?_
   refine AOps.s0 (Cert.assign (by conv => lhs; whnf)) rfl ?_
   refine AOps.nil ?_
   refine hK11 _ ?_
   clear hK11 K11
   refine AWp.cond rfl (fun hc12 => ?_) (fun hc12 => ?_)
   ·have hE := condT hc12 hE
    try dsimp only at hc12
    refine AWp.seqK fun K13 hK13 => ?_
    refine AWp.region ?_
    obtain ⟨x14, gx14, hE⟩ := bindO_some hE
    refine AOps.s0 (Cert.callP rfl rfl (fun H => fields_needed_walk gx14 H)) rfl ?_
    obtain ⟨x15, gx15, hE⟩ := bindO_some hE
    refine AOps.s0 (Cert.callP rfl rfl (fun H => fields_needed_walk gx15 H)) rfl ?_
    refine AOps.s0 (Cert.buildSlice (Try.tab_ok _ _ rfl) rfl (Try.tab_ok _ _ rfl) rfl rfl rfl rfl rfl rfl) rfl ?_
    refine AOps.s0 (Cert.assign (by conv => lhs; whnf)) rfl ?_
    refine AOps.nil ?_
    refine hK13 _ ?_
    clear hK13 K13
    refine AWp.ret ?_
    repeat (first | refine xBlock_ret ?_ | refine xThen_ret ?_)
    obtain rfl := Option.some.inj hE
    refine retQ.retF H rfl ⟨rfl, rfl⟩ ?_
    exact (fun _ _ h => h)
   ·have hE := condF hc12 hE
    try dsimp only at hc12
    refine AWp.skip ?_
    refine hK2 _ ?_
    clear hK2 K2
    refine AWp.seqK fun K16 hK16 => ?_
    refine AWp.region ?_
    refine AOps.s0 (Cert.assignNil (k' := 10) rfl) rfl ?_
    refine AOps.nil ?_
    refine hK16 _ ?_
    clear hK16 K16
    refine AWp.ret ?_
    repeat (first | refine xBlock_ret ?_ | refine xThen_ret ?_)
    obtain rfl := Option.some.inj hE
    refine retQ.retF H rfl ⟨rfl, rfl⟩ ?_
    exact (fun _ _ h => h)
def typeref_Nullable_j3 (a0 : TRef)  (s3_4 : (Sl Int)) : Option TRef := (slices_Clone_intint s3_4).bind fun x6 => some (TRef.mk a0.FName x6)
def typeref_Nullable (a0 : TRef) : Option TRef := (typeref_IsNonNull a0).bind fun x8 => bif x8 then ((partC a0.FWraps (some (1 : Int)) none).bind fun x10 => typeref_Nullable_j3 a0  x10) else (typeref_Nullable_j3 a0  a0.FWraps)
set_option maxRecDepth 100000 in
set_option maxHeartbeats 2000000 in
theorem typeref_Nullable_walk {a0 : TRef}   {r : TRef} (hE : typeref_Nullable a0 = some r) (H : Heap)  : ACalls Try.prog 73 [.agg (TRef.c a0)] H fun v h' => v = .a (.agg (TRef.c r)) ∧ h' = H := by
 unfold typeref_Nullable at hE
 refine ACalls.of_wp (fn := Try.f73) (c := _) Try.tab_ok (fun _ _ => Try.call73 _ _) Try.func73 rfl (n := 15) rfl (rs := [.cell 2 29]) rfl rfl ?_
 refine AWp.seqK fun K1 hK1 => ?_
 refine AWp.region ?_
 refine AOps.s0 (Cert.boxV rfl) rfl ?_
 refine AOps.sL (Cert.allocL (Try.tab_ok _ _ rfl) rfl (by repeat (first | exact Snoc.nil | apply Snoc.cons))) rfl ?_
 refine AOps.nil ?_
 refine hK1 _ ?_
 clear hK1 K1
 refine AWp.seqK fun K2 hK2 => ?_
 refine AWp.region ?_
 refine AOps.s0 (Cert.fieldV (Try.tab_ok _ _ rfl) rfl rfl (Try.tab_ok _ _ rfl) rfl rfl (by conv => lhs; whnf)) rfl ?_
 refine AOps.s0 (Cert.loadV (Try.tab_ok _ _ rfl) rfl rfl rfl) rfl ?_
 refine AOps.s0 (Cert.assign (by conv => lhs; whnf)) rfl ?_
 refine AOps.nil ?_
 refine hK2 _ ?_
 clear hK2 K2
 refine AWp.seqJH (KeepsT.cons (k := 1) (by conv => lhs; whnf) (KeepsT.cons (k := 2) (by conv => lhs; whnf) KeepsT.nil)) (fun (z : (Sl Int)) => [(3, .a (.d (Sl.d 1 (intE .i64) none z)))]) (fun z => H) (fun z => typeref_Nullable_j3 a0 z = some r) ?_ ?_
 ·intro K3 hK3
  refine AWp.seqK fun K7 hK7 => ?_
  refine AWp.region ?_
  refine AOps.s0 (Cert.loadV (Try.tab_ok _ _ rfl) rfl rfl rfl) rfl ?_
  obtain ⟨x8, gx8, hE⟩ := bindO_some hE
  refine AOps.s0 (Cert.callP rfl rfl (fun H => typeref_IsNonNull_walk gx8 H)) rfl ?_
  refine AOps.nil ?_
  refine hK7 _ ?_
  clear hK7 K7
  refine AWp.cond rfl (fun hc9 => ?_) (fun hc9 => ?_)
  ·have hE := condT hc9 hE
   try dsimp only at hc9
   refine AWp.region ?_
   refine AOps.s0 (Cert.move (by conv => lhs; whnf)) rfl ?_
   obtain ⟨x10, gx10, hE⟩ := bindO_some hE
   refine AOps.s0 (Cert.partM (f := (intE .i64)) (l := (some (1 : Int))) (r := none) (Try.tab_ok _ _ rfl) rfl (Try.tab_ok _ _ rfl) rfl rfl rfl trivial gx10) rfl ?_
   refine AOps.s0 (Cert.assign (by conv => lhs; whnf)) rfl ?_
   refine AOps.nil ?_
   exact hK3 _ x10 Weak.toA hE
  ·have hE := condF hc9 hE
   try dsimp only at hc9
   refine AWp.skip ?_
   exact hK3 _ a0.FWraps Weak.toA hE
 ·rintro s3_4 hE
  try dsimp only at hE
  unfold typeref_Nullable_j3 at hE
  refine AWp.seqK fun K5 hK5 => ?_
  refine AWp.draw rfl ?_
  refine DOps.s0 (Cert.fieldV (Try.tab_ok _ _ rfl) rfl rfl (Try.tab_ok _ _ rfl) rfl rfl (by conv => lhs; whnf)) rfl ?_
  refine DOps.s0 (Cert.loadV (Try.tab_ok _ _ rfl) rfl rfl rfl) rfl ?_
  refine DOps.s0 (Cert.move (by conv => lhs; whnf)) rfl ?_
  obtain ⟨x6, gx6, hE⟩ := bindO_some hE
  refine DOps.s0 (Cert.callP rfl rfl (fun H => slices_Clone_intint_walk gx6 H)) rfl ?_
  refine DOps.s0 (Cert.build Try.tab_ok rfl rfl rfl rfl rfl rfl) rfl ?_
  refine DOps.sLn (Cert.storeLF (Try.tab_ok _ _ rfl) rfl rfl rfl rfl rfl (by repeat (first | exact SetAt.zero | apply SetAt.succ))) ?_
  refine DOps.nil (by decide +kernel) ?_
  refine hK5 _ ?_
  clear hK5 K5
  refine AWp.ret ?_
  repeat (first | refine xBlock_ret ?_ | refine xThen_ret ?_)
  obtain rfl := Option.some.inj hE
  refine retQ.retF H rfl ⟨rfl, rfl⟩ ?_
  exact (fun _ _ h => h)
def typeref_IsList (a0 : TRef) : Option Bool := (typeref_Nullable a0).bind fun x3 => guardO ((decide ((0 : Int) < ((x3.FWraps.l.length : Nat) : Int)))) (x3.FWraps.l[0]?) (0 : Int) fun x6 => some ((decide ((0 : Int) < ((x3.FWraps.l.length : Nat) : Int))) && (decide (x6 = (2 : Int))))
set_option maxRecDepth 100000 in
set_option maxHeartbeats 2000000 in
theorem typeref_IsList_walk {a0 : TRef}   {r : Bool} (hE : typeref_IsList a0 = some r) (H : Heap)  : ACalls Try.prog 59 [.agg (TRef.c a0)] H fun v h' => v = .a (.d (.bool r)) ∧ h' = H := by
 unfold typeref_IsList at hE
 refine ACalls.of_wp (fn := Try.f59) (c := _) Try.tab_ok (fun _ _ => Try.call59 _ _) Try.func59 rfl (n := 16) rfl (rs := [.tmp 2]) rfl rfl ?_
 refine AWp.seqK fun K1 hK1 => ?_
 refine AWp.region ?_
 refine AOps.sL (Cert.boxL rfl (by repeat (first | exact Snoc.nil | apply Snoc.cons))) rfl ?_
 refine AOps.s0 (Cert.assign (by conv => lhs; whnf)) rfl ?_
 refine AOps.nil ?_
 refine hK1 _ ?_
 clear hK1 K1
 refine AWp.seqK fun K2 hK2 => ?_
 refine AWp.region ?_
 refine AOps.s0 (Cert.loadL (Try.tab_ok _ _ rfl) rfl rfl rfl rfl) rfl ?_
 obtain ⟨x3, gx3, hE⟩ := bindO_some hE
 refine AOps.s0 (Cert.callP rfl rfl (fun H => typeref_Nullable_walk gx3 H)) rfl ?_
 refine AOps.sLn (Cert.storeLF (Try.tab_ok _ _ rfl) rfl rfl rfl rfl rfl (by repeat (first | exact SetAt.zero | apply SetAt.succ))) ?_
 refine AOps.nil ?_
 refine hK2 _ ?_
 clear hK2 K2
 refine AWp.seqK fun K4 hK4 => ?_
 refine AWp.region ?_
 refine AOps.s0 (Cert.fieldL (Try.tab_ok _ _ rfl) rfl rfl (Try.tab_ok _ _ rfl) rfl rfl) rfl ?_
 refine AOps.s0 (Cert.loadL (Try.tab_ok _ _ rfl) rfl rfl rfl rfl) rfl ?_
 refine AOps.sLen (f := (intE .i64)) (s := x3.FWraps) (Try.tab_ok _ _ rfl) rfl rfl rfl rfl fun hL5 => ?_
 refine AOps.s0 (Cert.binI rfl rfl rfl) rfl ?_
 refine AOps.s0 (Cert.move (by conv => lhs; whnf)) rfl ?_
 refine AOps.gC rfl rfl (fun hC => Cert.fieldL (Try.tab_ok _ _ rfl) rfl rfl (Try.tab_ok _ _ rfl) rfl rfl) rfl ?_
 refine AOps.gC rfl rfl (fun hC => Cert.ungdL (k := 10) rfl (by first | exact hC | exact andL hC | exact andL (andL hC) | exact andL (andL (andL hC)) | exact andR hC | simp_all) (Cert.loadL (Try.tab_ok _ _ rfl) rfl rfl rfl rfl)) rfl ?_
 obtain ⟨x6, gx6, hE⟩ := guardO_some hE
 refine AOps.gC rfl rfl (fun hC => Cert.ungd (k := 11) rfl (by first | exact hC | exact andL hC | exact andL (andL hC) | exact andL (andL (andL hC)) | exact andR hC | simp_all) (Cert.idxMn (f := (intE .i64)) (n := 0) (Try.tab_ok _ _ rfl) rfl (Try.tab_ok _ _ rfl) rfl rfl rfl (gx6 hC))) rfl ?_
 refine AOps.gC rfl rfl (fun hC => Cert.ungd (k := 12) rfl (by first | exact hC | exact andL hC | exact andL (andL hC) | exact andL (andL (andL hC)) | exact andR hC | simp_all) (Cert.loadV (Try.tab_ok _ _ rfl) rfl rfl rfl)) rfl ?_
 refine AOps.gC rfl rfl (fun hC => Cert.ungd (k := 13) rfl (by first | exact hC | exact andL hC | exact andL (andL hC) | exact andL (andL (andL hC)) | exact andR hC | simp_all) (Cert.binI rfl rfl rfl)) rfl ?_
 refine AOps.s0 (Cert.pickAnd rfl rfl (fun h => by first | exact h | exact notT h | exact andI hC h | exact andI hC (notT h) | simp_all) rfl) rfl ?_
 refine AOps.s0 (Cert.assign (by conv => lhs; whnf)) rfl ?_
 refine AOps.nil ?_
 refine hK4 _ ?_
 clear hK4 K4
 refine AWp.ret ?_
 repeat (first | refine xBlock_ret ?_ | refine xThen_ret ?_)
 obtain rfl := Option.some.inj hE
 refine retQ.retF H rfl ⟨rfl, rfl⟩ ?_
 exact (fun _ _ h => h)
def slices_IndexFunc_apiDirapiDir_j2 (a0 : (Sl TDir)) (a1 : (TDir → Option Bool))   : Option Int := some (-1 : Int)
def slices_IndexFunc_apiDirapiDir_l6 (a0 : (Sl TDir)) (a1 : (TDir → Option Bool))  : Nat → Nat → Option Int
 | 0, _ => none
 | n6 + 1, s8_7 => bif (decide (((s8_7 : Nat) : Int) < ((a0.l.length : Nat) : Int))) then ((a0.l[s8_7]?).bind fun x14 => (a1 x14).bind fun x15 => bif x15 then (some ((s8_7 : Nat) : Int)) else ((slices_IndexFunc_apiDirapiDir_l6 a0 a1 n6) (s8_7 + 1))) else (slices_IndexFunc_apiDirapiDir_j2 a0 a1  )
def slices_IndexFunc_apiDirapiDir (a0 : (Sl TDir)) (a1 : (TDir → Option Bool)) : Option Int := slices_IndexFunc_apiDirapiDir_l6 a0 a1 (a0.l.length + 1) 0
set_option maxRecDepth 100000 in
set_option maxHeartbeats 2000000 in
theorem slices_IndexFunc_apiDirapiDir_walk {a0 : (Sl TDir)} {a1 : (TDir → Option Bool)} {w0 : Option Nat} {cl1 : List D} {k1 : Nat} {r : Int} (hE : slices_IndexFunc_apiDirapiDir a0 a1 = some r) (H : Heap) (hf1 : ∀ x0 r, a1 x0 = some r → ∀ H, ACalls Try.prog k1 ([.agg (TDir.c x0)] ++ cl1.map A.d) H fun v h' => v = .a (.d (.bool r)) ∧ h' = H) : ACalls Try.prog 74 [.d (Sl.d 2 TDir.c w0 a0), .d (.func k1 cl1)] H fun v h' => v = .a (.d (.int .i64 r)) ∧ h' = H := by
 unfold slices_IndexFunc_apiDirapiDir at hE
 refine ACalls.of_wp (fn := Try.f74) (c := _) Try.tab_ok (fun _ _ => Try.call74 _ _) Try.func74 rfl (n := 19) rfl (rs := [.tmp 4]) rfl rfl ?_
 refine AWp.seqK fun K1 hK1 => ?_
 refine AWp.region ?_
 refine AOps.s0 (Cert.assign (by conv => lhs; whnf)) rfl ?_
 refine AOps.nil ?_
 refine hK1 _ ?_
 clear hK1 K1
 refine AWp.seqJH KeepsT.nil (fun (z : Unit) => []) (fun z => H) (fun z => slices_IndexFunc_apiDirapiDir_j2 a0 a1  = some r) ?_ ?_
 ·intro K2 hK2
  refine AWp.seqK fun K4 hK4 => ?_
  refine AWp.region ?_
  refine AOps.s0 (Cert.move (by conv => lhs; whnf)) rfl ?_
  refine AOps.sLen (f := TDir.c) (s := a0) (Try.tab_ok _ _ rfl) rfl rfl rfl rfl fun hL5 => ?_
  refine AOps.s0 (Cert.move (by conv => lhs; whnf)) rfl ?_
  refine AOps.nil ?_
  refine hK4 _ ?_
  clear hK4 K4
  refine AWp.block ?_
  refine AWp.loopH (KeepsT.cons (k := 0) (by conv => lhs; whnf) (KeepsT.cons (k := 1) (by conv => lhs; whnf) (KeepsT.cons (k := 7) (by conv => lhs; whnf) KeepsT.nil))) (fun (z : Nat × Nat) => [(8, .a (.d (.int .i64 ((z.2 : Nat) : Int))))]) (fun z => H) (fun z => z.1) (fun z => slices_IndexFunc_apiDirapiDir_l6 a0 a1 z.1 z.2 = some r) ((a0.l.length + 1), 0) hE Weak.toA ?_
  rintro ⟨n6, s8_7⟩ hE K6 hK6
  try dsimp only at hE
  cases n6 with
  | zero => cases hE
  | succ n6 =>
    rw [slices_IndexFunc_apiDirapiDir_l6] at hE
    refine AWp.seqK fun K8 hK8 => ?_
    refine AWp.region ?_
    refine AOps.s0 (Cert.binI rfl rfl rfl) rfl ?_
    refine AOps.nil ?_
    refine hK8 _ ?_
    clear hK8 K8
    refine AWp.seqK fun K9 hK9 => ?_
    refine AWp.cond rfl (fun hc10 => ?_) (fun hc10 => ?_)
    ·have hE := condT hc10 hE
     try dsimp only at hc10
     have hf10 := of_decide_eq_true hc10
     refine AWp.skip ?_
     refine hK9 _ ?_
     clear hK9 K9
     refine AWp.seqK fun K11 hK11 => ?_
     refine AWp.block ?_
     refine AWp.seqK fun K12 hK12 => ?_
     refine AWp.region ?_
     refine AOps.s0 (Cert.move (by conv => lhs; whnf)) rfl ?_
     refine AOps.s0 (Cert.assign (by conv => lhs; whnf)) rfl ?_
     refine AOps.nil ?_
     refine hK12 _ ?_
     clear hK12 K12
     refine AWp.seqK fun K13 hK13 => ?_
     refine AWp.region ?_
     refine AOps.s0 (Cert.move (by conv => lhs; whnf)) rfl ?_
     refine AOps.s0 (Cert.move (by conv => lhs; whnf)) rfl ?_
     refine AOps.s0 (Cert.move (by conv => lhs; whnf)) rfl ?_
     obtain ⟨x14, gx14, hE⟩ := bindO_some hE
     refine AOps.s0 (Cert.idxMn (f := TDir.c) (n := s8_7) (Try.tab_ok _ _ rfl) rfl (Try.tab_ok _ _ rfl) rfl rfl rfl gx14) rfl ?_
     refine AOps.s0 (Cert.loadV (Try.tab_ok _ _ rfl) rfl rfl rfl) rfl ?_
     obtain ⟨x15, gx15, hE⟩ := bindO_some hE
     refine AOps.s0 (Cert.callP rfl rfl (hf1 _ _ gx15)) rfl ?_
     refine AOps.nil ?_
     refine hK13 _ ?_
     clear hK13 K13
     refine AWp.cond rfl (fun hc16 => ?_) (fun hc16 => ?_)
     ·have hE := condT hc16 hE
      try dsimp only at hc16
      refine AWp.seqK fun K17 hK17 => ?_
      refine AWp.region ?_
      refine AOps.s0 (Cert.move (by conv => lhs; whnf)) rfl ?_
      refine AOps.s0 (Cert.assign (by conv => lhs; whnf)) rfl ?_
      refine AOps.nil ?_
      refine hK17 _ ?_
      clear hK17 K17
      refine AWp.ret ?_
      repeat (first | refine xBlock_ret ?_ | refine xThen_ret ?_)
      obtain rfl := Option.some.inj hE
      refine retQ.retF H rfl ⟨rfl, rfl⟩ ?_
      exact (fun _ _ h => h)
     ·have hE := condF hc16 hE
      try dsimp only at hc16
      refine AWp.skip ?_
      refine hK11 _ ?_
      clear hK11 K11
      refine AWp.region ?_
      refine AOps.s0 (Cert.addI rfl rfl (by first | omega | (dsimp only; omega)) (by first | omega | (dsimp only; omega))) rfl ?_
      refine AOps.s0 (Cert.move (by conv => lhs; whnf)) rfl ?_
      refine AOps.nil ?_
      exact hK6 _ (n6, (s8_7 + 1)) Weak.toA hE (Nat.lt_succ_self _)
    ·have hE := condF hc10 hE
     try dsimp only at hc10
     refine AWp.exit ?_
     exact hK2 _ () Weak.toA hE
 ·rintro _ hE
  try dsimp only at hE
  unfold slices_IndexFunc_apiDirapiDir_j2 at hE
  refine AWp.seqK fun K3 hK3 => ?_
  refine AWp.region ?_
  refine AOps.s0 (Cert.assign (by conv => lhs; whnf)) rfl ?_
  refine AOps.nil ?_
  refine hK3 _ ?_
  clear hK3 K3
  refine AWp.ret ?_
  repeat (first | refine xBlock_ret ?_ | refine xThen_ret ?_)
  obtain rfl := Option.some.inj hE
  refine retQ.retF H rfl ⟨rfl, rfl⟩ ?_
  exact (fun _ _ h => h)
def slices_ContainsFunc_apiDirapiDir (a0 : (Sl TDir)) (a1 : (TDir → Option Bool)) : Option Bool := (slices_IndexFunc_apiDirapiDir a0 a1).bind fun x3 => some (decide ((0 : Int) ≤ x3))
set_option maxRecDepth 100000 in
set_option maxHeartbeats 2000000 in
theorem slices_ContainsFunc_apiDirapiDir_walk {a0 : (Sl TDir)} {a1 : (TDir → Option Bool)} {w0 : Option Nat} {cl1 : List D} {k1 : Nat} {r : Bool} (hE : slices_ContainsFunc_apiDirapiDir a0 a1 = some r) (H : Heap) (hf1 : ∀ x0 r, a1 x0 = some r → ∀ H, ACalls Try.prog k1 ([.agg (TDir.c x0)] ++ cl1.map A.d) H fun v h' => v = .a (.d (.bool r)) ∧ h' = H) : ACalls Try.prog 60 [.d (Sl.d 2 TDir.c w0 a0), .d (.func k1 cl1)] H fun v h' => v = .a (.d (.bool r)) ∧ h' = H := by
 unfold slices_ContainsFunc_apiDirapiDir at hE
 refine ACalls.of_wp (fn := Try.f60) (c := _) Try.tab_ok (fun _ _ => Try.call60 _ _) Try.func60 rfl (n := 9) rfl (rs := [.tmp 4]) rfl rfl ?_
 refine AWp.seqK fun K1 hK1 => ?_
 refine AWp.region ?_
 refine AOps.s0 (Cert.assign (by conv => lhs; whnf)) rfl ?_
 refine AOps.nil ?_
 refine hK1 _ ?_
 clear hK1 K1
 refine AWp.seqK fun K2 hK2 => ?_
 refine AWp.region ?_
 refine AOps.s0 (Cert.move (by conv => lhs; whnf)) rfl ?_
 refine AOps.s0 (Cert.move (by conv => lhs; whnf)) rfl ?_
 obtain ⟨x3, gx3, hE⟩ := bindO_some hE
 refine AOps.s0 (Cert.callP rfl rfl (fun H => slices_IndexFunc_apiDirapiDir_walk gx3 H hf1)) rfl ?_
 refine AOps.s0 (Cert.binI rfl rfl rfl) rfl ?_
 refine AOps.s0 (Cert.assign (by conv => lhs; whnf)) rfl ?_
 refine AOps.nil ?_
 refine hK2 _ ?_
 clear hK2 K2
 refine AWp.ret ?_
 repeat (first | refine xBlock_ret ?_ | refine xThen_ret ?_)
 obtain rfl := Option.some.inj hE
 refine retQ.retF H rfl ⟨rfl, rfl⟩ ?_
 exact (fun _ _ h => h)
def fields_checker_dirs_1 (a0 : TDir) (a1 : TDir) : Option Bool := some ((a0.FName == a1.FName))
set_option maxRecDepth 100000 in
set_option maxHeartbeats 2000000 in
theorem fields_checker_dirs_1_walk {a0 : TDir} {a1 : TDir}   {r : Bool} (hE : fields_checker_dirs_1 a0 a1 = some r) (H : Heap)  : ACalls Try.prog 61 [.agg (TDir.c a0), .d (.view (TDir.c a1))] H fun v h' => v = .a (.d (.bool r)) ∧ h' = H := by
 unfold fields_checker_dirs_1 at hE
 refine ACalls.of_wp (fn := Try.f61) (c := _) Try.tab_ok (fun _ _ => Try.call61 _ _) Try.func61 rfl (n := 9) rfl (rs := [.tmp 3]) rfl rfl ?_
 refine AWp.seqK fun K1 hK1 => ?_
 refine AWp.region ?_
 refine AOps.s0 (Cert.boxV rfl) rfl ?_
 refine AOps.s0 (Cert.assign (by conv => lhs; whnf)) rfl ?_
 refine AOps.nil ?_
 refine hK1 _ ?_
 clear hK1 K1
 refine AWp.seqK fun K2 hK2 => ?_
 refine AWp.region ?_
 refine AOps.s0 (Cert.fieldV (Try.tab_ok _ _ rfl) rfl rfl (Try.tab_ok _ _ rfl) rfl rfl (by conv => lhs; whnf)) rfl ?_
 refine AOps.s0 (Cert.loadV (Try.tab_ok _ _ rfl) rfl rfl rfl) rfl ?_
 refine AOps.s0 (Cert.fieldV (Try.tab_ok _ _ rfl) rfl rfl (Try.tab_ok _ _ rfl) rfl rfl (by conv => lhs; whnf)) rfl ?_
 refine AOps.s0 (Cert.loadV (Try.tab_ok _ _ rfl) rfl rfl rfl) rfl ?_
 refine AOps.s0 (Cert.binS rfl rfl rfl) rfl ?_
 refine AOps.s0 (Cert.assign (by conv => lhs; whnf)) rfl ?_
 refine AOps.nil ?_
 refine hK2 _ ?_
 clear hK2 K2
 refine AWp.ret ?_
 repeat (first | refine xBlock_ret ?_ | refine xThen_ret ?_)
 obtain rfl := Option.some.inj hE
 refine retQ.retF H rfl ⟨rfl, rfl⟩ ?_
 exact (fun _ _ h => h)
end Go.Proofs
