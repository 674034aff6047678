import Derived.Test.YtjghdpblmakljaaE3
import Derived.Test.YtjghdpblmakljaaTab
set_option linter.unusedVariables false
set_option linter.unusedSimpArgs false
namespace Go.Proofs
open Go Go.Ab
inductive TValue where
  | mk (FKind : Int) (FInt : Int) (FText : Bs) (FItems_nl : Bool) (FItems_l : List TValue) (FKeys : (Sl Bs))
def TValue.FKind : TValue → Int | .mk x _ _ _ _ _ => x
def TValue.FInt : TValue → Int | .mk _ x _ _ _ _ => x
def TValue.FText : TValue → Bs | .mk _ _ x _ _ _ => x
def TValue.FItems : TValue → (Sl TValue) | .mk _ _ _ nl l _ => ⟨nl, l⟩
def TValue.FKeys : TValue → (Sl Bs) | .mk _ _ _ _ _ x => x
noncomputable def TValue.FItemsD : TValue → D := @TValue.rec (fun _ => D) (fun _ => List (List D)) (fun _ _ _ nl _ _ ih => .slice 5 none nl ih) [] (fun v _ ih ihl => ((intE .i64) v.FKind ++ (intE .i64) v.FInt ++ strE v.FText ++ [ih] ++ (fun s => [Sl.d 1 strE none s]) v.FKeys) :: ihl)
noncomputable def TValue.c (v : TValue) : List D := (intE .i64) v.FKind ++ (intE .i64) v.FInt ++ strE v.FText ++ [v.FItemsD] ++ (fun s => [Sl.d 1 strE none s]) v.FKeys
theorem TValue.FItemsD_eq (v : TValue) : v.FItemsD = Sl.d 5 TValue.c none v.FItems := by
  cases v with
  | mk y_Kind y_Int y_Text nl l y_Keys =>
    show D.slice 5 none nl _ = D.slice 5 none nl (l.map TValue.c)
    congr 1
    induction l with
    | nil => rfl
    | cons a r ih => exact congrArg (TValue.c a :: ·) ih
def TValue.zero : TValue := .mk (0 : Int) (0 : Int) ([] : Bs) true [] (Sl.nil : Sl Bs)
structure TArg where
  FName : Bs
  FValue : TValue
noncomputable def TArg.c (x : TArg) : List D := strE x.FName ++ TValue.c x.FValue
def TArg.zero : TArg := ⟨([] : Bs), TValue.zero⟩
structure TDir where
  FName : Bs
  FArgs : (Sl TArg)
noncomputable def TDir.c (x : TDir) : List D := [.str x.FName, Sl.d 6 TArg.c none x.FArgs]
def TDir.zero : TDir := ⟨([] : Bs), (Sl.nil : Sl TArg)⟩
structure TRef where
  FName : Bs
  FWraps : (Sl Int)
noncomputable def TRef.c (x : TRef) : List D := [.str x.FName, Sl.d 1 (intE .i64) none x.FWraps]
def TRef.zero : TRef := ⟨([] : Bs), (Sl.nil : Sl Int)⟩
structure TInput where
  FName : Bs
  FType : TRef
  FHas : Bool
  FDefault : TValue
  FDirs : (Sl TDir)
noncomputable def TInput.c (x : TInput) : List D := strE x.FName ++ TRef.c x.FType ++ boolE x.FHas ++ TValue.c x.FDefault ++ (fun s => [Sl.d 2 TDir.c none s]) x.FDirs
def TInput.zero : TInput := ⟨([] : Bs), TRef.zero, false, TValue.zero, (Sl.nil : Sl TDir)⟩
structure TField where
  FName : Bs
  FArgs : (Sl TInput)
  FType : TRef
  FDirs : (Sl TDir)
noncomputable def TField.c (x : TField) : List D := strE x.FName ++ (fun s => [Sl.d 10 TInput.c none s]) x.FArgs ++ TRef.c x.FType ++ (fun s => [Sl.d 2 TDir.c none s]) x.FDirs
def TField.zero : TField := ⟨([] : Bs), (Sl.nil : Sl TInput), TRef.zero, (Sl.nil : Sl TDir)⟩
structure TMember where
  FName : Bs
  FDirs : (Sl TDir)
noncomputable def TMember.c (x : TMember) : List D := [.str x.FName, Sl.d 2 TDir.c none x.FDirs]
def TMember.zero : TMember := ⟨([] : Bs), (Sl.nil : Sl TDir)⟩
structure TDef where
  FKind : Int
  FName : Bs
  FImplements : (Sl Bs)
  FDirs : (Sl TDir)
  FFields : (Sl TField)
  FMembers : (Sl TMember)
  FInputs : (Sl TInput)
noncomputable def TDef.c (x : TDef) : List D := [.int .i64 x.FKind, .str x.FName, Sl.d 1 strE none x.FImplements, Sl.d 2 TDir.c none x.FDirs, Sl.d 5 TField.c none x.FFields, Sl.d 2 TMember.c none x.FMembers, Sl.d 10 TInput.c none x.FInputs]
def TDef.zero : TDef := ⟨(0 : Int), ([] : Bs), (Sl.nil : Sl Bs), (Sl.nil : Sl TDir), (Sl.nil : Sl TField), (Sl.nil : Sl TMember), (Sl.nil : Sl TInput)⟩
structure TDoc where
  FDefs : (Sl TDef)
noncomputable def TDoc.c (x : TDoc) : List D := [Sl.d 7 TDef.c none x.FDefs]
def TDoc.zero : TDoc := ⟨(Sl.nil : Sl TDef)⟩
structure TVar where
  FName : Bs
  FType : TRef
  FHas : Bool
  FDefault : TValue
noncomputable def TVar.c (x : TVar) : List D := strE x.FName ++ TRef.c x.FType ++ boolE x.FHas ++ TValue.c x.FDefault
def TVar.zero : TVar := ⟨([] : Bs), TRef.zero, false, TValue.zero⟩
inductive TSel where
  | mk (FKind : Int) (FAlias : Bs) (FName : Bs) (FOn : Bs) (FArgs : (Sl TArg)) (FDirs : (Sl TDir)) (FSels_nl : Bool) (FSels_l : List TSel)
def TSel.FKind : TSel → Int | .mk x _ _ _ _ _ _ _ => x
def TSel.FAlias : TSel → Bs | .mk _ x _ _ _ _ _ _ => x
def TSel.FName : TSel → Bs | .mk _ _ x _ _ _ _ _ => x
def TSel.FOn : TSel → Bs | .mk _ _ _ x _ _ _ _ => x
def TSel.FArgs : TSel → (Sl TArg) | .mk _ _ _ _ x _ _ _ => x
def TSel.FDirs : TSel → (Sl TDir) | .mk _ _ _ _ _ x _ _ => x
def TSel.FSels : TSel → (Sl TSel) | .mk _ _ _ _ _ _ nl l => ⟨nl, l⟩
noncomputable def TSel.FSelsD : TSel → D := @TSel.rec (fun _ => D) (fun _ => List (List D)) (fun _ _ _ _ _ _ nl _ ih => .slice 7 none nl ih) [] (fun v _ ih ihl => ((intE .i64) v.FKind ++ strE v.FAlias ++ strE v.FName ++ strE v.FOn ++ (fun s => [Sl.d 6 TArg.c none s]) v.FArgs ++ (fun s => [Sl.d 2 TDir.c none s]) v.FDirs ++ [ih]) :: ihl)
noncomputable def TSel.c (v : TSel) : List D := (intE .i64) v.FKind ++ strE v.FAlias ++ strE v.FName ++ strE v.FOn ++ (fun s => [Sl.d 6 TArg.c none s]) v.FArgs ++ (fun s => [Sl.d 2 TDir.c none s]) v.FDirs ++ [v.FSelsD]
theorem TSel.FSelsD_eq (v : TSel) : v.FSelsD = Sl.d 7 TSel.c none v.FSels := by
  cases v with
  | mk y_Kind y_Alias y_Name y_On y_Args y_Dirs nl l =>
    show D.slice 7 none nl _ = D.slice 7 none nl (l.map TSel.c)
    congr 1
    induction l with
    | nil => rfl
    | cons a r ih => exact congrArg (TSel.c a :: ·) ih
def TSel.zero : TSel := .mk (0 : Int) ([] : Bs) ([] : Bs) ([] : Bs) (Sl.nil : Sl TArg) (Sl.nil : Sl TDir) true []
structure TOp where
  FKind : Int
  FName : Bs
  FVars : (Sl TVar)
  FSels : (Sl TSel)
noncomputable def TOp.c (x : TOp) : List D := [.int .i64 x.FKind, .str x.FName, Sl.d 9 TVar.c none x.FVars, Sl.d 7 TSel.c none x.FSels]
def TOp.zero : TOp := ⟨(0 : Int), ([] : Bs), (Sl.nil : Sl TVar), (Sl.nil : Sl TSel)⟩
structure TFrag where
  FName : Bs
  FOn : Bs
  FSels : (Sl TSel)
noncomputable def TFrag.c (x : TFrag) : List D := [.str x.FName, .str x.FOn, Sl.d 7 TSel.c none x.FSels]
def TFrag.zero : TFrag := ⟨([] : Bs), ([] : Bs), (Sl.nil : Sl TSel)⟩
structure TQuery where
  FOps : (Sl TOp)
  FFrags : (Sl TFrag)
noncomputable def TQuery.c (x : TQuery) : List D := [Sl.d 4 TOp.c none x.FOps, Sl.d 3 TFrag.c none x.FFrags]
def TQuery.zero : TQuery := ⟨(Sl.nil : Sl TOp), (Sl.nil : Sl TFrag)⟩
structure TFault where
  FErr : Int
  FAt : Bs
noncomputable def TFault.c (x : TFault) : List D := [.int .i64 x.FErr, .str x.FAt]
def TFault.zero : TFault := ⟨(0 : Int), ([] : Bs)⟩
structure Fields_checker where
  Fd : TDoc
  Fq : TQuery
  Fout : (Sl TFault)
noncomputable def Fields_checker.c (x : Fields_checker) : List D := TDoc.c x.Fd ++ TQuery.c x.Fq ++ (fun s => [Sl.d 2 TFault.c none s]) x.Fout
def Fields_checker.zero : Fields_checker := ⟨TDoc.zero, TQuery.zero, (Sl.nil : Sl TFault)⟩
noncomputable def Fields_checker.cg (t2 : Option Nat) (x : Fields_checker) : List D := TDoc.c x.Fd ++ TQuery.c x.Fq ++ [Sl.d 2 TFault.c t2 x.Fout]
end Go.Proofs

namespace Go.Proofs
open Go Go.Ab Go.RowKit
section
variable {H : Type} {B : DataW H → Nat} (hB : Bulk B)
noncomputable def TValue.sz : TValue → Nat := @TValue.rec (fun _ => Nat) (fun _ => Nat) (fun y_Kind y_Int y_Text nl l y_Keys ih => (fun _ => 1) y_Kind + ((fun _ => 1) y_Int + (Bs.sz y_Text + ((1 + ih) + ((Sl.sz Bs.sz) y_Keys + (0)))))) 0 (fun _ _ ih ihl => ih + ihl)
noncomputable def TValue.szL : List TValue → Nat := @TValue.rec_1 (fun _ => Nat) (fun _ => Nat) (fun y_Kind y_Int y_Text nl l y_Keys ih => (fun _ => 1) y_Kind + ((fun _ => 1) y_Int + (Bs.sz y_Text + ((1 + ih) + ((Sl.sz Bs.sz) y_Keys + (0)))))) 0 (fun _ _ ih ihl => ih + ihl)
theorem TValue.szL_eq (l : List TValue) : TValue.szL l = (l.map TValue.sz).sum := by
  induction l with
  | nil => rfl
  | cons a r ih => exact congrArg (TValue.sz a + ·) ih
theorem TValue.sz_eq (x : TValue) : x.sz = (fun _ => 1) x.FKind + ((fun _ => 1) x.FInt + (Bs.sz x.FText + ((Sl.sz TValue.sz) x.FItems + ((Sl.sz Bs.sz) x.FKeys + (0))))) := by
  cases x with
  | mk y_Kind y_Int y_Text nl l y_Keys =>
    show (fun _ => 1) y_Kind + ((fun _ => 1) y_Int + (Bs.sz y_Text + ((1 + TValue.szL l) + ((Sl.sz Bs.sz) y_Keys + (0))))) = _
    rw [TValue.szL_eq]; rfl
def TValue.wf : TValue → Prop := @TValue.rec (fun _ => Prop) (fun _ => Prop) (fun y_Kind y_Int y_Text nl l y_Keys ih => i64 y_Kind ∧ (i64 y_Int ∧ ((fun _ => True) y_Text ∧ (((nl = true → l = []) ∧ l.length ≤ maxN ∧ ih) ∧ ((Sl.wf (fun _ => True)) y_Keys ∧ (True)))))) True (fun _ _ ih ihl => ih ∧ ihl)
def TValue.wfL : List TValue → Prop := @TValue.rec_1 (fun _ => Prop) (fun _ => Prop) (fun y_Kind y_Int y_Text nl l y_Keys ih => i64 y_Kind ∧ (i64 y_Int ∧ ((fun _ => True) y_Text ∧ (((nl = true → l = []) ∧ l.length ≤ maxN ∧ ih) ∧ ((Sl.wf (fun _ => True)) y_Keys ∧ (True)))))) True (fun _ _ ih ihl => ih ∧ ihl)
theorem TValue.wfL_iff (l : List TValue) : TValue.wfL l ↔ ∀ x ∈ l, TValue.wf x := by
  induction l with
  | nil => exact ⟨fun _ _ h => (by cases h), fun _ => trivial⟩
  | cons a r ih =>
    show (TValue.wf a ∧ TValue.wfL r) ↔ _
    rw [ih]; simp
theorem TValue.wf_iff (x : TValue) : x.wf ↔ i64 x.FKind ∧ (i64 x.FInt ∧ ((fun _ => True) x.FText ∧ ((Sl.wf TValue.wf) x.FItems ∧ ((Sl.wf (fun _ => True)) x.FKeys ∧ (True))))) := by
  cases x with
  | mk y_Kind y_Int y_Text nl l y_Keys =>
    show (i64 y_Kind ∧ (i64 y_Int ∧ ((fun _ => True) y_Text ∧ (((nl = true → l = []) ∧ l.length ≤ maxN ∧ TValue.wfL l) ∧ ((Sl.wf (fun _ => True)) y_Keys ∧ (True)))))) ↔ _
    rw [TValue.wfL_iff]; exact Iff.rfl
include hB in
theorem rd_TValue_84 : ∀ N, RdN Try.prog B N 84 TValue.c TValue.sz TValue.wf := by
  have key : ∀ N M, M ≤ N → RdN Try.prog B M 84 TValue.c TValue.sz TValue.wf := by
    intro N
    induction N with
    | zero => intro M hM; rw [Nat.le_zero.1 hM]; exact .zero
    | succ N ih =>
      intro M hM
      cases M with
      | zero => exact .zero
      | succ N_ =>
        have hit : RdN Try.prog B N_ 82 (fun s : Sl TValue => [Sl.d 5 TValue.c none s]) (Sl.sz TValue.sz) (Sl.wf TValue.wf) := by
          cases N_ with
          | zero => exact .zero
          | succ M => exact RdS.sliceN hB (Try.tab_ok 82 _ rfl) rfl (Try.tab_ok 84 _ rfl) rfl (by decide) (fun _ => rfl) (ih M (by omega))
        refine RdN.struct hB (Try.tab_ok 84 _ rfl) rfl (RdP.cons (n := 5) (o := 0) (o' := 1) (Try.tab_ok 3 _ rfl) rfl ((RdS.int hB (Try.tab_ok 3 _ rfl) rfl) N_) (RdP.cons (n := 5) (o := 1) (o' := 2) (Try.tab_ok 3 _ rfl) rfl ((RdS.int hB (Try.tab_ok 3 _ rfl) rfl) N_) (RdP.cons (n := 5) (o := 2) (o' := 3) (Try.tab_ok 9 _ rfl) rfl ((RdS.str hB (Try.tab_ok 9 _ rfl) rfl) N_) (RdP.cons (n := 5) (o := 3) (o' := 4) (Try.tab_ok 82 _ rfl) rfl hit (RdP.cons (n := 5) (o := 4) (o' := 5) (Try.tab_ok 42 _ rfl) rfl ((RdS.slice hB (Try.tab_ok 42 _ rfl) rfl (Try.tab_ok 9 _ rfl) rfl (by decide) (fun _ => rfl) (RdS.str hB (Try.tab_ok 9 _ rfl) rfl)) N_) (RdP.nil (n := 5))))))) (fun a => TValue.mk a.1 a.2.1 a.2.2.1 a.2.2.2.1.nl a.2.2.2.1.l a.2.2.2.2.1) (fun a => ?_) (fun a => by rw [TValue.sz_eq]; exact Nat.le_refl _) (fun a h => by rw [TValue.wf_iff]; exact h)
        unfold TValue.c
        rw [TValue.FItemsD_eq]
        rfl
  exact fun N => key N N (Nat.le_refl _)
noncomputable def TArg.sz (x : TArg) : Nat := Bs.sz x.FName + (TValue.sz x.FValue + (0))
def TArg.wf (x : TArg) : Prop := (fun _ => True) x.FName ∧ (TValue.wf x.FValue ∧ (True))
include hB in
theorem rd_TArg_101 : ∀ N, RdN Try.prog B N 101 TArg.c TArg.sz TArg.wf := RdA.struct hB (Try.tab_ok 101 _ rfl) rfl (fun N_ => (RdP.cons (n := 6) (o := 0) (o' := 1) (Try.tab_ok 9 _ rfl) rfl ((RdS.str hB (Try.tab_ok 9 _ rfl) rfl) N_) (RdP.cons (n := 6) (o := 1) (o' := 6) (Try.tab_ok 84 _ rfl) rfl ((rd_TValue_84 hB) N_) (RdP.nil (n := 6))))) (fun a => (⟨a.1, a.2.1⟩ : TArg)) (fun _ => rfl) (fun _ => Nat.le_refl _) (fun _ h => h)
noncomputable def TDir.sz (x : TDir) : Nat := Bs.sz x.FName + ((Sl.sz TArg.sz) x.FArgs + (0))
def TDir.wf (x : TDir) : Prop := (fun _ => True) x.FName ∧ ((Sl.wf TArg.wf) x.FArgs ∧ (True))
include hB in
theorem rd_TDir_112 : ∀ N, RdN Try.prog B N 112 TDir.c TDir.sz TDir.wf := RdA.struct hB (Try.tab_ok 112 _ rfl) rfl (fun N_ => (RdP.cons (n := 2) (o := 0) (o' := 1) (Try.tab_ok 9 _ rfl) rfl ((RdS.str hB (Try.tab_ok 9 _ rfl) rfl) N_) (RdP.cons (n := 2) (o := 1) (o' := 2) (Try.tab_ok 51 _ rfl) rfl ((RdS.slice hB (Try.tab_ok 51 _ rfl) rfl (Try.tab_ok 101 _ rfl) rfl (by decide) (fun _ => rfl) (rd_TArg_101 hB)) N_) (RdP.nil (n := 2))))) (fun a => (⟨a.1, a.2.1⟩ : TDir)) (fun _ => rfl) (fun _ => Nat.le_refl _) (fun _ h => h)
noncomputable def TRef.sz (x : TRef) : Nat := Bs.sz x.FName + ((Sl.sz (fun _ => 1)) x.FWraps + (0))
def TRef.wf (x : TRef) : Prop := (fun _ => True) x.FName ∧ ((Sl.wf i64) x.FWraps ∧ (True))
include hB in
theorem rd_TRef_29 : ∀ N, RdN Try.prog B N 29 TRef.c TRef.sz TRef.wf := RdA.struct hB (Try.tab_ok 29 _ rfl) rfl (fun N_ => (RdP.cons (n := 2) (o := 0) (o' := 1) (Try.tab_ok 9 _ rfl) rfl ((RdS.str hB (Try.tab_ok 9 _ rfl) rfl) N_) (RdP.cons (n := 2) (o := 1) (o' := 2) (Try.tab_ok 27 _ rfl) rfl ((RdS.slice hB (Try.tab_ok 27 _ rfl) rfl (Try.tab_ok 3 _ rfl) rfl (by decide) (fun _ => rfl) (RdS.int hB (Try.tab_ok 3 _ rfl) rfl)) N_) (RdP.nil (n := 2))))) (fun a => (⟨a.1, a.2.1⟩ : TRef)) (fun _ => rfl) (fun _ => Nat.le_refl _) (fun _ h => h)
noncomputable def TInput.sz (x : TInput) : Nat := Bs.sz x.FName + (TRef.sz x.FType + ((fun _ => 1) x.FHas + (TValue.sz x.FDefault + ((Sl.sz TDir.sz) x.FDirs + (0)))))
def TInput.wf (x : TInput) : Prop := (fun _ => True) x.FName ∧ (TRef.wf x.FType ∧ ((fun _ => True) x.FHas ∧ (TValue.wf x.FDefault ∧ ((Sl.wf TDir.wf) x.FDirs ∧ (True)))))
include hB in
theorem rd_TInput_86 : ∀ N, RdN Try.prog B N 86 TInput.c TInput.sz TInput.wf := RdA.struct hB (Try.tab_ok 86 _ rfl) rfl (fun N_ => (RdP.cons (n := 10) (o := 0) (o' := 1) (Try.tab_ok 9 _ rfl) rfl ((RdS.str hB (Try.tab_ok 9 _ rfl) rfl) N_) (RdP.cons (n := 10) (o := 1) (o' := 3) (Try.tab_ok 29 _ rfl) rfl ((rd_TRef_29 hB) N_) (RdP.cons (n := 10) (o := 3) (o' := 4) (Try.tab_ok 4 _ rfl) rfl ((RdS.bool hB (Try.tab_ok 4 _ rfl) rfl) N_) (RdP.cons (n := 10) (o := 4) (o' := 9) (Try.tab_ok 84 _ rfl) rfl ((rd_TValue_84 hB) N_) (RdP.cons (n := 10) (o := 9) (o' := 10) (Try.tab_ok 43 _ rfl) rfl ((RdS.slice hB (Try.tab_ok 43 _ rfl) rfl (Try.tab_ok 112 _ rfl) rfl (by decide) (fun _ => rfl) (rd_TDir_112 hB)) N_) (RdP.nil (n := 10)))))))) (fun a => (⟨a.1, a.2.1, a.2.2.1, a.2.2.2.1, a.2.2.2.2.1⟩ : TInput)) (fun _ => rfl) (fun _ => Nat.le_refl _) (fun _ h => h)
noncomputable def TField.sz (x : TField) : Nat := Bs.sz x.FName + ((Sl.sz TInput.sz) x.FArgs + (TRef.sz x.FType + ((Sl.sz TDir.sz) x.FDirs + (0))))
def TField.wf (x : TField) : Prop := (fun _ => True) x.FName ∧ ((Sl.wf TInput.wf) x.FArgs ∧ (TRef.wf x.FType ∧ ((Sl.wf TDir.wf) x.FDirs ∧ (True))))
include hB in
theorem rd_TField_50 : ∀ N, RdN Try.prog B N 50 TField.c TField.sz TField.wf := RdA.struct hB (Try.tab_ok 50 _ rfl) rfl (fun N_ => (RdP.cons (n := 5) (o := 0) (o' := 1) (Try.tab_ok 9 _ rfl) rfl ((RdS.str hB (Try.tab_ok 9 _ rfl) rfl) N_) (RdP.cons (n := 5) (o := 1) (o' := 2) (Try.tab_ok 46 _ rfl) rfl ((RdS.slice hB (Try.tab_ok 46 _ rfl) rfl (Try.tab_ok 86 _ rfl) rfl (by decide) (fun _ => rfl) (rd_TInput_86 hB)) N_) (RdP.cons (n := 5) (o := 2) (o' := 4) (Try.tab_ok 29 _ rfl) rfl ((rd_TRef_29 hB) N_) (RdP.cons (n := 5) (o := 4) (o' := 5) (Try.tab_ok 43 _ rfl) rfl ((RdS.slice hB (Try.tab_ok 43 _ rfl) rfl (Try.tab_ok 112 _ rfl) rfl (by decide) (fun _ => rfl) (rd_TDir_112 hB)) N_) (RdP.nil (n := 5))))))) (fun a => (⟨a.1, a.2.1, a.2.2.1, a.2.2.2.1⟩ : TField)) (fun _ => rfl) (fun _ => Nat.le_refl _) (fun _ h => h)
noncomputable def TMember.sz (x : TMember) : Nat := Bs.sz x.FName + ((Sl.sz TDir.sz) x.FDirs + (0))
def TMember.wf (x : TMember) : Prop := (fun _ => True) x.FName ∧ ((Sl.wf TDir.wf) x.FDirs ∧ (True))
include hB in
theorem rd_TMember_88 : ∀ N, RdN Try.prog B N 88 TMember.c TMember.sz TMember.wf := RdA.struct hB (Try.tab_ok 88 _ rfl) rfl (fun N_ => (RdP.cons (n := 2) (o := 0) (o' := 1) (Try.tab_ok 9 _ rfl) rfl ((RdS.str hB (Try.tab_ok 9 _ rfl) rfl) N_) (RdP.cons (n := 2) (o := 1) (o' := 2) (Try.tab_ok 43 _ rfl) rfl ((RdS.slice hB (Try.tab_ok 43 _ rfl) rfl (Try.tab_ok 112 _ rfl) rfl (by decide) (fun _ => rfl) (rd_TDir_112 hB)) N_) (RdP.nil (n := 2))))) (fun a => (⟨a.1, a.2.1⟩ : TMember)) (fun _ => rfl) (fun _ => Nat.le_refl _) (fun _ h => h)
noncomputable def TDef.sz (x : TDef) : Nat := (fun _ => 1) x.FKind + (Bs.sz x.FName + ((Sl.sz Bs.sz) x.FImplements + ((Sl.sz TDir.sz) x.FDirs + ((Sl.sz TField.sz) x.FFields + ((Sl.sz TMember.sz) x.FMembers + ((Sl.sz TInput.sz) x.FInputs + (0)))))))
def TDef.wf (x : TDef) : Prop := i64 x.FKind ∧ ((fun _ => True) x.FName ∧ ((Sl.wf (fun _ => True)) x.FImplements ∧ ((Sl.wf TDir.wf) x.FDirs ∧ ((Sl.wf TField.wf) x.FFields ∧ ((Sl.wf TMember.wf) x.FMembers ∧ ((Sl.wf TInput.wf) x.FInputs ∧ (True)))))))
include hB in
theorem rd_TDef_48 : ∀ N, RdN Try.prog B N 48 TDef.c TDef.sz TDef.wf := RdA.struct hB (Try.tab_ok 48 _ rfl) rfl (fun N_ => (RdP.cons (n := 7) (o := 0) (o' := 1) (Try.tab_ok 3 _ rfl) rfl ((RdS.int hB (Try.tab_ok 3 _ rfl) rfl) N_) (RdP.cons (n := 7) (o := 1) (o' := 2) (Try.tab_ok 9 _ rfl) rfl ((RdS.str hB (Try.tab_ok 9 _ rfl) rfl) N_) (RdP.cons (n := 7) (o := 2) (o' := 3) (Try.tab_ok 42 _ rfl) rfl ((RdS.slice hB (Try.tab_ok 42 _ rfl) rfl (Try.tab_ok 9 _ rfl) rfl (by decide) (fun _ => rfl) (RdS.str hB (Try.tab_ok 9 _ rfl) rfl)) N_) (RdP.cons (n := 7) (o := 3) (o' := 4) (Try.tab_ok 43 _ rfl) rfl ((RdS.slice hB (Try.tab_ok 43 _ rfl) rfl (Try.tab_ok 112 _ rfl) rfl (by decide) (fun _ => rfl) (rd_TDir_112 hB)) N_) (RdP.cons (n := 7) (o := 4) (o' := 5) (Try.tab_ok 44 _ rfl) rfl ((RdS.slice hB (Try.tab_ok 44 _ rfl) rfl (Try.tab_ok 50 _ rfl) rfl (by decide) (fun _ => rfl) (rd_TField_50 hB)) N_) (RdP.cons (n := 7) (o := 5) (o' := 6) (Try.tab_ok 45 _ rfl) rfl ((RdS.slice hB (Try.tab_ok 45 _ rfl) rfl (Try.tab_ok 88 _ rfl) rfl (by decide) (fun _ => rfl) (rd_TMember_88 hB)) N_) (RdP.cons (n := 7) (o := 6) (o' := 7) (Try.tab_ok 46 _ rfl) rfl ((RdS.slice hB (Try.tab_ok 46 _ rfl) rfl (Try.tab_ok 86 _ rfl) rfl (by decide) (fun _ => rfl) (rd_TInput_86 hB)) N_) (RdP.nil (n := 7)))))))))) (fun a => (⟨a.1, a.2.1, a.2.2.1, a.2.2.2.1, a.2.2.2.2.1, a.2.2.2.2.2.1, a.2.2.2.2.2.2.1⟩ : TDef)) (fun _ => rfl) (fun _ => Nat.le_refl _) (fun _ h => h)
noncomputable def TDoc.sz (x : TDoc) : Nat := (Sl.sz TDef.sz) x.FDefs + (0)
def TDoc.wf (x : TDoc) : Prop := (Sl.wf TDef.wf) x.FDefs ∧ (True)
include hB in
theorem rd_TDoc_24 : ∀ N, RdN Try.prog B N 24 TDoc.c TDoc.sz TDoc.wf := RdA.struct hB (Try.tab_ok 24 _ rfl) rfl (fun N_ => (RdP.cons (n := 1) (o := 0) (o' := 1) (Try.tab_ok 22 _ rfl) rfl ((RdS.slice hB (Try.tab_ok 22 _ rfl) rfl (Try.tab_ok 48 _ rfl) rfl (by decide) (fun _ => rfl) (rd_TDef_48 hB)) N_) (RdP.nil (n := 1)))) (fun a => (⟨a.1⟩ : TDoc)) (fun _ => rfl) (fun _ => Nat.le_refl _) (fun _ h => h)
end
end Go.Proofs

namespace Go.Proofs
open Go Go.Ab
def r10_Large_j8 (a0 : TDoc)  (s3_9 : Int) : Option Bool := some (decide ((1000 : Int) < s3_9))
def r10_Large_j19 (a0 : TDoc) (n12 : Nat) (s3_13 : Int) (s4_14 : Nat) (k_next_12 : Int → Nat → Option Bool) (s3_20 : Int) : Option Bool := k_next_12 s3_20 (s4_14 + 1)
def r10_Large_l36 (a0 : TDoc) (n12 : Nat) (s3_13 : Int) (s4_14 : Nat) (x22 : TDef) (x25 : Int) (x27 : Int) (x29 : Int) (x31 : Int) (x33 : Int) (x34 : Int) (k_next_12 : Int → Nat → Option Bool) : Nat → Int → Nat → Option Bool
  | 0, _, _ => none
  | n36 + 1, s3_37, s6_38 => bif (decide (((s6_38 : Nat) : Int) < ((x22.FFields.l.length : Nat) : Int))) then ((x22.FFields.l[s6_38]?).bind fun x44 => (x22.FFields.l[s6_38]?).bind fun x45 => (addC ((x44.FArgs.l.length : Nat) : Int) ((x45.FDirs.l.length : Nat) : Int)).bind fun x46 => (addC s3_37 x46).bind fun x47 => (r10_Large_l36 a0 n12 s3_13 s4_14 x22 x25 x27 x29 x31 x33 x34 k_next_12 n36) x47 (s6_38 + 1)) else (r10_Large_j19 a0 n12 s3_13 s4_14 k_next_12 s3_37)
def r10_Large_l12 (a0 : TDoc)  : Nat → Int → Nat → Option Bool
  | 0, _, _ => none
  | n12 + 1, s3_13, s4_14 => bif (decide (((s4_14 : Nat) : Int) < ((a0.FDefs.l.length : Nat) : Int))) then ((a0.FDefs.l[s4_14]?).bind fun x22 => (addC (1 : Int) ((x22.FFields.l.length : Nat) : Int)).bind fun x25 => (addC x25 ((x22.FMembers.l.length : Nat) : Int)).bind fun x27 => (addC x27 ((x22.FInputs.l.length : Nat) : Int)).bind fun x29 => (addC x29 ((x22.FDirs.l.length : Nat) : Int)).bind fun x31 => (addC x31 ((x22.FImplements.l.length : Nat) : Int)).bind fun x33 => (addC s3_13 x33).bind fun x34 => r10_Large_l36 a0 n12 s3_13 s4_14 x22 x25 x27 x29 x31 x33 x34 ((r10_Large_l12 a0 n12)) F0 x34 0) else (r10_Large_j8 a0  s3_13)
def r10_Large (a0 : TDoc) : Option Bool := bif (decide ((70 : Int) < ((a0.FDefs.l.length : Nat) : Int))) then (some true) else (r10_Large_l12 a0 F0 (0 : Int) 0)
set_option maxRecDepth 100000 in
set_option maxHeartbeats 2000000 in
theorem r10_Large_walk {a0 : TDoc}   {r : Bool} (hE : r10_Large a0 = some r) (H : Heap)  : ACalls Try.prog 5 [.agg (TDoc.c a0)] H fun v h' => v = .a (.d (.bool r)) ∧ h' = H := by
  unfold r10_Large at hE
  refine ACalls.of_wp (fn := Try.f5) (c := _) Try.tab_ok (fun _ _ => Try.call5 _ _) Try.func5 rfl (n := 71) rfl (rs := [.tmp 2]) rfl rfl ?_
  refine AWp.seqK fun K1 hK1 => ?_
  refine AWp.region ?_
  refine AOps.s0 (Cert.boxV rfl) rfl ?_
  refine AOps.s0 (Cert.assign (by conv => lhs; whnf)) rfl ?_
  refine AOps.nil ?_
  refine hK1 _ ?_
  clear hK1 K1
  refine AWp.seqK fun K2 hK2 => ?_
  refine AWp.seqK fun K3 hK3 => ?_
  refine AWp.region ?_
  refine AOps.s0 (Cert.fieldV (Try.tab_ok _ _ rfl) rfl rfl (Try.tab_ok _ _ rfl) rfl rfl (by conv => lhs; whnf)) rfl ?_
  refine AOps.s0 (Cert.loadV (Try.tab_ok _ _ rfl) rfl rfl rfl) rfl ?_
  refine AOps.sLen (f := TDef.c) (s := a0.FDefs) (Try.tab_ok _ _ rfl) rfl rfl rfl rfl fun hL4 => ?_
  refine AOps.s0 (Cert.binI rfl rfl rfl) rfl ?_
  refine AOps.nil ?_
  refine hK3 _ ?_
  clear hK3 K3
  refine AWp.cond rfl (fun hc5 => ?_) (fun hc5 => ?_)
  · have hE := condT hc5 hE
    try dsimp only at hc5
    refine AWp.seqK fun K6 hK6 => ?_
    refine AWp.region ?_
    refine AOps.s0 (Cert.assign (by conv => lhs; whnf)) rfl ?_
    refine AOps.nil ?_
    refine hK6 _ ?_
    clear hK6 K6
    refine AWp.ret ?_
    repeat (first | refine xBlock_ret ?_ | refine xThen_ret ?_)
    obtain rfl := Option.some.inj hE
    refine retQ.retF H rfl ⟨rfl, rfl⟩ ?_
    exact (fun _ _ h => h)
  · have hE := condF hc5 hE
    try dsimp only at hc5
    refine AWp.skip ?_
    refine hK2 _ ?_
    clear hK2 K2
    refine AWp.seqK fun K7 hK7 => ?_
    refine AWp.region ?_
    refine AOps.s0 (Cert.assign (by conv => lhs; whnf)) rfl ?_
    refine AOps.nil ?_
    refine hK7 _ ?_
    clear hK7 K7
    refine AWp.seqJH KeepsT.nil (fun (z : Int) => [(3, .a (.d (.int .i64 z)))]) (fun z => H) (fun z => r10_Large_j8 a0 z = some r) ?_ ?_
    · intro K8 hK8
      refine AWp.seqK fun K11 hK11 => ?_
      refine AWp.region ?_
      refine AOps.s0 (Cert.assign (by conv => lhs; whnf)) rfl ?_
      refine AOps.nil ?_
      refine hK11 _ ?_
      clear hK11 K11
      refine AWp.block ?_
      refine AWp.loopH (KeepsT.cons (k := 1) (by conv => lhs; whnf) KeepsT.nil) (fun (z : Nat × Int × Nat) => [(3, .a (.d (.int .i64 z.2.1))), (4, .a (.d (.int .i64 ((z.2.2 : Nat) : Int))))]) (fun z => H) (fun z => z.1) (fun z => r10_Large_l12 a0 z.1 z.2.1 z.2.2 = some r) (F0, (0 : Int), 0) hE (Weak.to (by repeat (first | exact Keeps.nil | refine Keeps.c rfl rfl ?_ | refine Keeps.c (by (first | (first | rfl | ((conv => lhs; whnf); first | (simp [cellsA, faultsT, faultsD, namesD, Fault.mk_c, Nat.add_assoc, empty_append, Bool.and_assoc]; done) | (simp [cellsA, faultsT, faultsD, namesD, Nat.add_assoc, empty_append, Bool.and_assoc]; repeat (first | rfl | constructor)))) | rfl | (simp only [get_same, ev]; done) | (simp [*, cellsA]; done) | (show V.a (A.d (D.slice _ _ _ _)) = V.a (A.d (D.slice _ _ _ _)); simp [*, cellsA]; done))) rfl ?_)) (by repeat (first | exact Pfx.nil | apply Pfx.cons)) (by first | rfl | (first | rfl | (simp only [Heap.set_set, List.length_append, List.length_nil, List.length_cons, List.length_map, List.length_singleton, Nat.zero_add]; done) | (simp [Heap.set_set, Nat.add_assoc]; done)) | (((funext n; simp only [Heap.set]; (repeat' split) <;> simp_all)) <;> first | rfl | exact ⟨rfl, rfl⟩))) ?_
      rintro ⟨n12, s3_13, s4_14⟩ hE K12 hK12
      try dsimp only at hE
      cases n12 with
      | zero => cases hE
      | succ n12 =>
          rw [r10_Large_l12] at hE
          refine AWp.seqK fun K15 hK15 => ?_
          refine AWp.seqK fun K16 hK16 => ?_
          refine AWp.region ?_
          refine AOps.s0 (Cert.move (by conv => lhs; whnf)) rfl ?_
          refine AOps.s0 (Cert.fieldV (Try.tab_ok _ _ rfl) rfl rfl (Try.tab_ok _ _ rfl) rfl rfl (by conv => lhs; whnf)) rfl ?_
          refine AOps.s0 (Cert.loadV (Try.tab_ok _ _ rfl) rfl rfl rfl) rfl ?_
          refine AOps.sLen (f := TDef.c) (s := a0.FDefs) (Try.tab_ok _ _ rfl) rfl rfl rfl rfl fun hL17 => ?_
          refine AOps.s0 (Cert.binI rfl rfl rfl) rfl ?_
          refine AOps.nil ?_
          refine hK16 _ ?_
          clear hK16 K16
          refine AWp.cond rfl (fun hc18 => ?_) (fun hc18 => ?_)
          · have hE := condT hc18 hE
            try dsimp only at hc18
            have hf18 := of_decide_eq_true hc18
            refine AWp.skip ?_
            refine hK15 _ ?_
            clear hK15 K15
            refine AWp.seqJH (KeepsT.cons (k := 1) (by conv => lhs; whnf) (KeepsT.cons (k := 4) (by conv => lhs; whnf) KeepsT.nil)) (fun (z : Int) => [(3, .a (.d (.int .i64 z)))]) (fun z => H) (fun z => r10_Large_j19 a0 n12 s3_13 s4_14 ((r10_Large_l12 a0 n12)) z = some r) ?_ ?_
            · intro K19 hK19
              refine AWp.block ?_
              refine AWp.seqK fun K21 hK21 => ?_
              refine AWp.region ?_
              refine AOps.s0 (Cert.fieldV (Try.tab_ok _ _ rfl) rfl rfl (Try.tab_ok _ _ rfl) rfl rfl (by conv => lhs; whnf)) rfl ?_
              refine AOps.s0 (Cert.loadV (Try.tab_ok _ _ rfl) rfl rfl rfl) rfl ?_
              refine AOps.s0 (Cert.move (by conv => lhs; whnf)) rfl ?_
              obtain ⟨x22, gx22, hE⟩ := bindO_some hE
              refine AOps.s0 (Cert.idxMn (f := TDef.c) (n := s4_14) (Try.tab_ok _ _ rfl) rfl (Try.tab_ok _ _ rfl) rfl rfl rfl gx22) rfl ?_
              refine AOps.s0 (Cert.loadV (Try.tab_ok _ _ rfl) rfl rfl rfl) rfl ?_
              refine AOps.sL (Cert.allocL (Try.tab_ok _ _ rfl) rfl (by repeat (first | exact Snoc.nil | apply Snoc.cons))) rfl ?_
              refine AOps.sLn (Cert.storeLF (Try.tab_ok _ _ rfl) rfl rfl rfl rfl rfl (by repeat (first | exact SetAt.zero | apply SetAt.succ))) ?_
              refine AOps.nil ?_
              refine hK21 _ ?_
              clear hK21 K21
              refine AWp.freeze 5 _ rfl (by repeat (first | exact Snoc.nil | apply Snoc.cons)) (Keeps.c (k := 1) (by conv => lhs; whnf) (by rfl) (Keeps.c (k := 3) (by conv => lhs; whnf) (by rfl) (Keeps.c (k := 4) (by conv => lhs; whnf) (by rfl) Keeps.nil))) ?_
              refine AWp.seqK fun K23 hK23 => ?_
              refine AWp.region ?_
              refine AOps.s0 (Cert.move (by conv => lhs; whnf)) rfl ?_
              refine AOps.s0 (Cert.fieldV (Try.tab_ok _ _ rfl) rfl rfl (Try.tab_ok _ _ rfl) rfl rfl (by conv => lhs; whnf)) rfl ?_
              refine AOps.s0 (Cert.loadV (Try.tab_ok _ _ rfl) rfl rfl rfl) rfl ?_
              refine AOps.sLen (f := TField.c) (s := x22.FFields) (Try.tab_ok _ _ rfl) rfl rfl rfl rfl fun hL24 => ?_
              obtain ⟨x25, gx25, hE⟩ := bindO_some hE
              refine AOps.s0 (Cert.addM rfl rfl gx25) rfl ?_
              refine AOps.s0 (Cert.fieldV (Try.tab_ok _ _ rfl) rfl rfl (Try.tab_ok _ _ rfl) rfl rfl (by conv => lhs; whnf)) rfl ?_
              refine AOps.s0 (Cert.loadV (Try.tab_ok _ _ rfl) rfl rfl rfl) rfl ?_
              refine AOps.sLen (f := TMember.c) (s := x22.FMembers) (Try.tab_ok _ _ rfl) rfl rfl rfl rfl fun hL26 => ?_
              obtain ⟨x27, gx27, hE⟩ := bindO_some hE
              refine AOps.s0 (Cert.addM rfl rfl gx27) rfl ?_
              refine AOps.s0 (Cert.fieldV (Try.tab_ok _ _ rfl) rfl rfl (Try.tab_ok _ _ rfl) rfl rfl (by conv => lhs; whnf)) rfl ?_
              refine AOps.s0 (Cert.loadV (Try.tab_ok _ _ rfl) rfl rfl rfl) rfl ?_
              refine AOps.sLen (f := TInput.c) (s := x22.FInputs) (Try.tab_ok _ _ rfl) rfl rfl rfl rfl fun hL28 => ?_
              obtain ⟨x29, gx29, hE⟩ := bindO_some hE
              refine AOps.s0 (Cert.addM rfl rfl gx29) rfl ?_
              refine AOps.s0 (Cert.fieldV (Try.tab_ok _ _ rfl) rfl rfl (Try.tab_ok _ _ rfl) rfl rfl (by conv => lhs; whnf)) rfl ?_
              refine AOps.s0 (Cert.loadV (Try.tab_ok _ _ rfl) rfl rfl rfl) rfl ?_
              refine AOps.sLen (f := TDir.c) (s := x22.FDirs) (Try.tab_ok _ _ rfl) rfl rfl rfl rfl fun hL30 => ?_
              obtain ⟨x31, gx31, hE⟩ := bindO_some hE
              refine AOps.s0 (Cert.addM rfl rfl gx31) rfl ?_
              refine AOps.s0 (Cert.fieldV (Try.tab_ok _ _ rfl) rfl rfl (Try.tab_ok _ _ rfl) rfl rfl (by conv => lhs; whnf)) rfl ?_
              refine AOps.s0 (Cert.loadV (Try.tab_ok _ _ rfl) rfl rfl rfl) rfl ?_
              refine AOps.sLen (f := strE) (s := x22.FImplements) (Try.tab_ok _ _ rfl) rfl rfl rfl rfl fun hL32 => ?_
              obtain ⟨x33, gx33, hE⟩ := bindO_some hE
              refine AOps.s0 (Cert.addM rfl rfl gx33) rfl ?_
              obtain ⟨x34, gx34, hE⟩ := bindO_some hE
              refine AOps.s0 (Cert.addM rfl rfl gx34) rfl ?_
              refine AOps.s0 (Cert.assign (by conv => lhs; whnf)) rfl ?_
              refine AOps.nil ?_
              refine hK23 _ ?_
              clear hK23 K23
              refine AWp.seqK fun K35 hK35 => ?_
              refine AWp.region ?_
              refine AOps.s0 (Cert.assign (by conv => lhs; whnf)) rfl ?_
              refine AOps.nil ?_
              refine hK35 _ ?_
              clear hK35 K35
              refine AWp.block ?_
              refine AWp.loopH (KeepsT.cons (k := 1) (by conv => lhs; whnf) (KeepsT.cons (k := 4) (by conv => lhs; whnf) (KeepsT.cons (k := 5) (by conv => lhs; whnf) KeepsT.nil))) (fun (z : Nat × Int × Nat) => [(3, .a (.d (.int .i64 z.2.1))), (6, .a (.d (.int .i64 ((z.2.2 : Nat) : Int))))]) (fun z => H) (fun z => z.1) (fun z => r10_Large_l36 a0 n12 s3_13 s4_14 x22 x25 x27 x29 x31 x33 x34 ((r10_Large_l12 a0 n12)) z.1 z.2.1 z.2.2 = some r) (F0, x34, 0) hE (Weak.to (by repeat (first | exact Keeps.nil | refine Keeps.c rfl rfl ?_ | refine Keeps.c (by (first | (first | rfl | ((conv => lhs; whnf); first | (simp [cellsA, faultsT, faultsD, namesD, Fault.mk_c, Nat.add_assoc, empty_append, Bool.and_assoc]; done) | (simp [cellsA, faultsT, faultsD, namesD, Nat.add_assoc, empty_append, Bool.and_assoc]; repeat (first | rfl | constructor)))) | rfl | (simp only [get_same, ev]; done) | (simp [*, cellsA]; done) | (show V.a (A.d (D.slice _ _ _ _)) = V.a (A.d (D.slice _ _ _ _)); simp [*, cellsA]; done))) rfl ?_)) (by repeat (first | exact Pfx.nil | apply Pfx.cons)) (by first | rfl | (first | rfl | (simp only [Heap.set_set, List.length_append, List.length_nil, List.length_cons, List.length_map, List.length_singleton, Nat.zero_add]; done) | (simp [Heap.set_set, Nat.add_assoc]; done)) | (((funext n; simp only [Heap.set]; (repeat' split) <;> simp_all)) <;> first | rfl | exact ⟨rfl, rfl⟩))) ?_
              rintro ⟨n36, s3_37, s6_38⟩ hE K36 hK36
              try dsimp only at hE
              cases n36 with
              | zero => cases hE
              | succ n36 =>
                  rw [r10_Large_l36] at hE
                  refine AWp.seqK fun K39 hK39 => ?_
                  refine AWp.seqK fun K40 hK40 => ?_
                  refine AWp.region ?_
                  refine AOps.s0 (Cert.move (by conv => lhs; whnf)) rfl ?_
                  refine AOps.s0 (Cert.fieldV (Try.tab_ok _ _ rfl) rfl rfl (Try.tab_ok _ _ rfl) rfl rfl (by conv => lhs; whnf)) rfl ?_
                  refine AOps.s0 (Cert.loadV (Try.tab_ok _ _ rfl) rfl rfl rfl) rfl ?_
                  refine AOps.sLen (f := TField.c) (s := x22.FFields) (Try.tab_ok _ _ rfl) rfl rfl rfl rfl fun hL41 => ?_
                  refine AOps.s0 (Cert.binI rfl rfl rfl) rfl ?_
                  refine AOps.nil ?_
                  refine hK40 _ ?_
                  clear hK40 K40
                  refine AWp.cond rfl (fun hc42 => ?_) (fun hc42 => ?_)
                  · have hE := condT hc42 hE
                    try dsimp only at hc42
                    have hf42 := of_decide_eq_true hc42
                    refine AWp.skip ?_
                    refine hK39 _ ?_
                    clear hK39 K39
                    refine AWp.seqK fun K43 hK43 => ?_
                    refine AWp.block ?_
                    refine AWp.draw rfl ?_
                    refine DOps.s0 (Cert.move (by conv => lhs; whnf)) rfl ?_
                    refine DOps.s0 (Cert.fieldV (Try.tab_ok _ _ rfl) rfl rfl (Try.tab_ok _ _ rfl) rfl rfl (by conv => lhs; whnf)) rfl ?_
                    refine DOps.s0 (Cert.loadV (Try.tab_ok _ _ rfl) rfl rfl rfl) rfl ?_
                    refine DOps.s0 (Cert.move (by conv => lhs; whnf)) rfl ?_
                    obtain ⟨x44, gx44, hE⟩ := bindO_some hE
                    refine DOps.s0 (Cert.idxMn (f := TField.c) (n := s6_38) (Try.tab_ok _ _ rfl) rfl (Try.tab_ok _ _ rfl) rfl rfl rfl gx44) rfl ?_
                    refine DOps.s0 (Cert.fieldV (Try.tab_ok _ _ rfl) rfl rfl (Try.tab_ok _ _ rfl) rfl rfl (by conv => lhs; whnf)) rfl ?_
                    refine DOps.s0 (Cert.loadV (Try.tab_ok _ _ rfl) rfl rfl rfl) rfl ?_
                    refine DOps.s0 (Cert.lenM' (f := TInput.c) (s := x44.FArgs) (Try.tab_ok _ _ rfl) rfl rfl rfl) rfl ?_
                    refine DOps.s0 (Cert.fieldV (Try.tab_ok _ _ rfl) rfl rfl (Try.tab_ok _ _ rfl) rfl rfl (by conv => lhs; whnf)) rfl ?_
                    refine DOps.s0 (Cert.loadV (Try.tab_ok _ _ rfl) rfl rfl rfl) rfl ?_
                    refine DOps.s0 (Cert.move (by conv => lhs; whnf)) rfl ?_
                    obtain ⟨x45, gx45, hE⟩ := bindO_some hE
                    refine DOps.s0 (Cert.idxMn (f := TField.c) (n := s6_38) (Try.tab_ok _ _ rfl) rfl (Try.tab_ok _ _ rfl) rfl rfl rfl gx45) rfl ?_
                    refine DOps.s0 (Cert.fieldV (Try.tab_ok _ _ rfl) rfl rfl (Try.tab_ok _ _ rfl) rfl rfl (by conv => lhs; whnf)) rfl ?_
                    refine DOps.s0 (Cert.loadV (Try.tab_ok _ _ rfl) rfl rfl rfl) rfl ?_
                    refine DOps.s0 (Cert.lenM' (f := TDir.c) (s := x45.FDirs) (Try.tab_ok _ _ rfl) rfl rfl rfl) rfl ?_
                    obtain ⟨x46, gx46, hE⟩ := bindO_some hE
                    refine DOps.s0 (Cert.addM rfl rfl gx46) rfl ?_
                    obtain ⟨x47, gx47, hE⟩ := bindO_some hE
                    refine DOps.s0 (Cert.addM rfl rfl gx47) rfl ?_
                    refine DOps.s0 (Cert.assign (by conv => lhs; whnf)) rfl ?_
                    refine DOps.nil (by decide +kernel) ?_
                    refine hK43 _ ?_
                    clear hK43 K43
                    refine AWp.region ?_
                    refine AOps.s0 (Cert.move (by conv => lhs; whnf)) rfl ?_
                    refine AOps.s0 (Cert.addI rfl rfl (by first | omega | (dsimp only; omega)) (by first | omega | (dsimp only; omega))) rfl ?_
                    refine AOps.s0 (Cert.assign (by conv => lhs; whnf)) rfl ?_
                    refine AOps.nil ?_
                    exact hK36 _ (n36, x47, (s6_38 + 1)) (Weak.to (by repeat (first | exact Keeps.nil | refine Keeps.c rfl rfl ?_ | refine Keeps.c (by (first | (first | rfl | ((conv => lhs; whnf); first | (simp [cellsA, faultsT, faultsD, namesD, Fault.mk_c, Nat.add_assoc, empty_append, Bool.and_assoc]; done) | (simp [cellsA, faultsT, faultsD, namesD, Nat.add_assoc, empty_append, Bool.and_assoc]; repeat (first | rfl | constructor)))) | rfl | (simp only [get_same, ev]; done) | (simp [*, cellsA]; done) | (show V.a (A.d (D.slice _ _ _ _)) = V.a (A.d (D.slice _ _ _ _)); simp [*, cellsA]; done))) rfl ?_)) (by repeat (first | exact Pfx.nil | apply Pfx.cons)) (by first | rfl | (first | rfl | (simp only [Heap.set_set, List.length_append, List.length_nil, List.length_cons, List.length_map, List.length_singleton, Nat.zero_add]; done) | (simp [Heap.set_set, Nat.add_assoc]; done)) | (((funext n; simp only [Heap.set]; (repeat' split) <;> simp_all)) <;> first | rfl | exact ⟨rfl, rfl⟩))) hE (Nat.lt_succ_self _)
                  · have hE := condF hc42 hE
                    try dsimp only at hc42
                    refine AWp.exit ?_
                    exact hK19 _ s3_37 (Weak.to (by repeat (first | exact Keeps.nil | refine Keeps.c rfl rfl ?_ | refine Keeps.c (by (first | (first | rfl | ((conv => lhs; whnf); first | (simp [cellsA, faultsT, faultsD, namesD, Fault.mk_c, Nat.add_assoc, empty_append, Bool.and_assoc]; done) | (simp [cellsA, faultsT, faultsD, namesD, Nat.add_assoc, empty_append, Bool.and_assoc]; repeat (first | rfl | constructor)))) | rfl | (simp only [get_same, ev]; done) | (simp [*, cellsA]; done) | (show V.a (A.d (D.slice _ _ _ _)) = V.a (A.d (D.slice _ _ _ _)); simp [*, cellsA]; done))) rfl ?_)) (by repeat (first | exact Pfx.nil | apply Pfx.cons)) (by first | rfl | (first | rfl | (simp only [Heap.set_set, List.length_append, List.length_nil, List.length_cons, List.length_map, List.length_singleton, Nat.zero_add]; done) | (simp [Heap.set_set, Nat.add_assoc]; done)) | (((funext n; simp only [Heap.set]; (repeat' split) <;> simp_all)) <;> first | rfl | exact ⟨rfl, rfl⟩))) hE
            · rintro s3_20 hE
              try dsimp only at hE
              unfold r10_Large_j19 at hE
              refine AWp.region ?_
              refine AOps.s0 (Cert.move (by conv => lhs; whnf)) rfl ?_
              refine AOps.s0 (Cert.addI rfl rfl (by first | omega | (dsimp only; omega)) (by first | omega | (dsimp only; omega))) rfl ?_
              refine AOps.s0 (Cert.assign (by conv => lhs; whnf)) rfl ?_
              refine AOps.nil ?_
              exact hK12 _ (n12, s3_20, (s4_14 + 1)) (Weak.to (by repeat (first | exact Keeps.nil | refine Keeps.c rfl rfl ?_ | refine Keeps.c (by (first | (first | rfl | ((conv => lhs; whnf); first | (simp [cellsA, faultsT, faultsD, namesD, Fault.mk_c, Nat.add_assoc, empty_append, Bool.and_assoc]; done) | (simp [cellsA, faultsT, faultsD, namesD, Nat.add_assoc, empty_append, Bool.and_assoc]; repeat (first | rfl | constructor)))) | rfl | (simp only [get_same, ev]; done) | (simp [*, cellsA]; done) | (show V.a (A.d (D.slice _ _ _ _)) = V.a (A.d (D.slice _ _ _ _)); simp [*, cellsA]; done))) rfl ?_)) (by repeat (first | exact Pfx.nil | apply Pfx.cons)) (by first | rfl | (first | rfl | (simp only [Heap.set_set, List.length_append, List.length_nil, List.length_cons, List.length_map, List.length_singleton, Nat.zero_add]; done) | (simp [Heap.set_set, Nat.add_assoc]; done)) | (((funext n; simp only [Heap.set]; (repeat' split) <;> simp_all)) <;> first | rfl | exact ⟨rfl, rfl⟩))) hE (Nat.lt_succ_self _)
          · have hE := condF hc18 hE
            try dsimp only at hc18
            refine AWp.exit ?_
            exact hK8 _ s3_13 (Weak.to (by repeat (first | exact Keeps.nil | refine Keeps.c rfl rfl ?_ | refine Keeps.c (by (first | (first | rfl | ((conv => lhs; whnf); first | (simp [cellsA, faultsT, faultsD, namesD, Fault.mk_c, Nat.add_assoc, empty_append, Bool.and_assoc]; done) | (simp [cellsA, faultsT, faultsD, namesD, Nat.add_assoc, empty_append, Bool.and_assoc]; repeat (first | rfl | constructor)))) | rfl | (simp only [get_same, ev]; done) | (simp [*, cellsA]; done) | (show V.a (A.d (D.slice _ _ _ _)) = V.a (A.d (D.slice _ _ _ _)); simp [*, cellsA]; done))) rfl ?_)) (by repeat (first | exact Pfx.nil | apply Pfx.cons)) (by first | rfl | (first | rfl | (simp only [Heap.set_set, List.length_append, List.length_nil, List.length_cons, List.length_map, List.length_singleton, Nat.zero_add]; done) | (simp [Heap.set_set, Nat.add_assoc]; done)) | (((funext n; simp only [Heap.set]; (repeat' split) <;> simp_all)) <;> first | rfl | exact ⟨rfl, rfl⟩))) hE
    · rintro s3_9 hE
      try dsimp only at hE
      unfold r10_Large_j8 at hE
      refine AWp.seqK fun K10 hK10 => ?_
      refine AWp.region ?_
      refine AOps.s0 (Cert.move (by conv => lhs; whnf)) rfl ?_
      refine AOps.s0 (Cert.binI rfl rfl rfl) rfl ?_
      refine AOps.s0 (Cert.assign (by conv => lhs; whnf)) rfl ?_
      refine AOps.nil ?_
      refine hK10 _ ?_
      clear hK10 K10
      refine AWp.ret ?_
      repeat (first | refine xBlock_ret ?_ | refine xThen_ret ?_)
      obtain rfl := Option.some.inj hE
      refine retQ.retF H rfl ⟨rfl, rfl⟩ ?_
      exact (fun _ _ h => h)
def schema_Find_j2 (a0 : TDoc) (a1 : Bs)  (y3_l0 : TDef) : Option (TDef × Bool) := some ((TDef.mk (0 : Int) ([] : Bs) (Sl.nil : Sl Bs) (Sl.nil : Sl TDir) (Sl.nil : Sl TField) (Sl.nil : Sl TMember) (Sl.nil : Sl TInput)), false)
def schema_Find_l7 (a0 : TDoc) (a1 : Bs)  : Nat → Nat → TDef → Option (TDef × Bool)
  | 0, _, _ => none
  | n7 + 1, s11_8, y9_l0 => bif (decide (((s11_8 : Nat) : Int) < ((a0.FDefs.l.length : Nat) : Int))) then ((a0.FDefs.l[s11_8]?).bind fun x15 => bif ((x15.FName == a1)) then (some (x15, true)) else ((schema_Find_l7 a0 a1 n7) (s11_8 + 1) y9_l0)) else (schema_Find_j2 a0 a1  y9_l0)
def schema_Find (a0 : TDoc) (a1 : Bs) : Option (TDef × Bool) := schema_Find_l7 a0 a1 F0 0 TDef.zero
set_option maxRecDepth 100000 in
set_option maxHeartbeats 2000000 in
theorem schema_Find_walk {a0 : TDoc} {a1 : Bs}   {r : (TDef × Bool)} (hE : schema_Find a0 a1 = some r) (H : Heap)  : ACalls Try.prog 19 [.agg (TDoc.c a0), .d (.str a1)] H fun v h' => v = .tup [.agg (TDef.c r.1), .d (.bool r.2)] ∧ h' = H := by
  unfold schema_Find at hE
  refine ACalls.of_wp (fn := Try.f19) (c := _) Try.tab_ok (fun _ _ => Try.call19 _ _) Try.func19 rfl (n := 22) rfl (rs := [.cell 4 48, .tmp 5]) rfl rfl ?_
  refine AWp.seqK fun K1 hK1 => ?_
  refine AWp.region ?_
  refine AOps.s0 (Cert.boxV rfl) rfl ?_
  refine AOps.sL (Cert.allocL (Try.tab_ok _ _ rfl) rfl (by repeat (first | exact Snoc.nil | apply Snoc.cons))) rfl ?_
  refine AOps.s0 (Cert.assign (by conv => lhs; whnf)) rfl ?_
  refine AOps.nil ?_
  refine hK1 _ ?_
  clear hK1 K1
  refine AWp.seqJ (KeepsT.cons (k := 4) (by conv => lhs; whnf) KeepsT.nil) (fun (z : TDef) => []) (fun z => [TDef.c z]) (fun z => H) (fun z => schema_Find_j2 a0 a1 z = some r) ?_ ?_
  · intro K2 hK2
    refine AWp.seqK fun K5 hK5 => ?_
    refine AWp.region ?_
    refine AOps.s0 (Cert.fieldV (Try.tab_ok _ _ rfl) rfl rfl (Try.tab_ok _ _ rfl) rfl rfl (by conv => lhs; whnf)) rfl ?_
    refine AOps.s0 (Cert.loadV (Try.tab_ok _ _ rfl) rfl rfl rfl) rfl ?_
    refine AOps.sLen (f := TDef.c) (s := a0.FDefs) (Try.tab_ok _ _ rfl) rfl rfl rfl rfl fun hL6 => ?_
    refine AOps.s0 (Cert.move (by conv => lhs; whnf)) rfl ?_
    refine AOps.nil ?_
    refine hK5 _ ?_
    clear hK5 K5
    refine AWp.block ?_
    refine AWp.loopO (KeepsT.cons (k := 1) (by conv => lhs; whnf) (KeepsT.cons (k := 4) (by conv => lhs; whnf) (KeepsT.cons (k := 9) (by conv => lhs; whnf) (KeepsT.cons (k := 10) (by conv => lhs; whnf) KeepsT.nil)))) (fun (z : Nat × Nat × TDef) => [(11, .a (.d (.int .i64 ((z.2.1 : Nat) : Int))))]) (fun z => [TDef.c z.2.2]) (fun z => H) (fun z => z.1) (fun z => schema_Find_l7 a0 a1 z.1 z.2.1 z.2.2 = some r) (F0, 0, TDef.zero) hE (Weak.to (by repeat (first | exact Keeps.nil | refine Keeps.c rfl rfl ?_ | refine Keeps.c (by (first | (first | rfl | ((conv => lhs; whnf); first | (simp [cellsA, faultsT, faultsD, namesD, Fault.mk_c, Nat.add_assoc, empty_append, Bool.and_assoc]; done) | (simp [cellsA, faultsT, faultsD, namesD, Nat.add_assoc, empty_append, Bool.and_assoc]; repeat (first | rfl | constructor)))) | rfl | (simp only [get_same, ev]; done) | (simp [*, cellsA]; done) | (show V.a (A.d (D.slice _ _ _ _)) = V.a (A.d (D.slice _ _ _ _)); simp [*, cellsA]; done))) rfl ?_)) (by repeat (first | exact Pfx.nil | apply Pfx.cons)) (by first | rfl | (first | rfl | (simp only [Heap.set_set, List.length_append, List.length_nil, List.length_cons, List.length_map, List.length_singleton, Nat.zero_add]; done) | (simp [Heap.set_set, Nat.add_assoc]; done)) | (((funext n; simp only [Heap.set]; (repeat' split) <;> simp_all)) <;> first | rfl | exact ⟨rfl, rfl⟩))) ?_
    rintro ⟨n7, s11_8, y9_l0⟩ hE K7 hK7
    try dsimp only at hE
    cases n7 with
    | zero => cases hE
    | succ n7 =>
        rw [schema_Find_l7] at hE
        refine AWp.seqK fun K10 hK10 => ?_
        refine AWp.region ?_
        refine AOps.s0 (Cert.binI rfl rfl rfl) rfl ?_
        refine AOps.nil ?_
        refine hK10 _ ?_
        clear hK10 K10
        refine AWp.seqK fun K11 hK11 => ?_
        refine AWp.cond rfl (fun hc12 => ?_) (fun hc12 => ?_)
        · have hE := condT hc12 hE
          try dsimp only at hc12
          have hf12 := of_decide_eq_true hc12
          refine AWp.skip ?_
          refine hK11 _ ?_
          clear hK11 K11
          refine AWp.seqK fun K13 hK13 => ?_
          refine AWp.block ?_
          refine AWp.seqK fun K14 hK14 => ?_
          refine AWp.region ?_
          obtain ⟨x15, gx15, hE⟩ := bindO_some hE
          refine AOps.s0 (Cert.idxMn (f := TDef.c) (n := s11_8) (Try.tab_ok _ _ rfl) rfl (Try.tab_ok _ _ rfl) rfl rfl rfl gx15) rfl ?_
          refine AOps.s0 (Cert.loadV (Try.tab_ok _ _ rfl) rfl rfl rfl) rfl ?_
          refine AOps.sL (Cert.allocL (Try.tab_ok _ _ rfl) rfl (by repeat (first | exact Snoc.nil | apply Snoc.cons))) rfl ?_
          refine AOps.sLn (Cert.storeLF (Try.tab_ok _ _ rfl) rfl rfl rfl rfl rfl (by repeat (first | exact SetAt.zero | apply SetAt.succ))) ?_
          refine AOps.nil ?_
          refine hK14 _ ?_
          clear hK14 K14
          refine AWp.freeze 7 _ rfl (by repeat (first | exact Snoc.nil | apply Snoc.cons)) (Keeps.c (k := 1) (by conv => lhs; whnf) (by rfl) (Keeps.c (k := 4) (by conv => lhs; whnf) (by rfl) (Keeps.c (k := 9) (by conv => lhs; whnf) (by rfl) (Keeps.c (k := 10) (by conv => lhs; whnf) (by rfl) (Keeps.c (k := 11) (by conv => lhs; whnf) (by rfl) Keeps.nil))))) ?_
          refine AWp.seqK fun K16 hK16 => ?_
          refine AWp.region ?_
          refine AOps.s0 (Cert.fieldV (Try.tab_ok _ _ rfl) rfl rfl (Try.tab_ok _ _ rfl) rfl rfl (by conv => lhs; whnf)) rfl ?_
          refine AOps.s0 (Cert.loadV (Try.tab_ok _ _ rfl) rfl rfl rfl) rfl ?_
          refine AOps.s0 (Cert.move (by conv => lhs; whnf)) rfl ?_
          refine AOps.s0 (Cert.binS rfl rfl rfl) rfl ?_
          refine AOps.nil ?_
          refine hK16 _ ?_
          clear hK16 K16
          refine AWp.cond rfl (fun hc17 => ?_) (fun hc17 => ?_)
          · have hE := condT hc17 hE
            try dsimp only at hc17
            refine AWp.seqK fun K18 hK18 => ?_
            refine AWp.region ?_
            refine AOps.s0 (Cert.loadV (Try.tab_ok _ _ rfl) rfl rfl rfl) rfl ?_
            refine AOps.sLn (Cert.storeLF (Try.tab_ok _ _ rfl) rfl rfl rfl rfl rfl (by repeat (first | exact SetAt.zero | apply SetAt.succ))) ?_
            refine AOps.s0 (Cert.assign (by conv => lhs; whnf)) rfl ?_
            refine AOps.nil ?_
            refine hK18 _ ?_
            clear hK18 K18
            refine AWp.ret ?_
            repeat (first | refine xBlock_ret ?_ | refine xThen_ret ?_)
            obtain rfl := Option.some.inj hE
            refine retQ.retF H rfl ⟨rfl, rfl⟩ ?_
            exact (fun _ _ h => h)
          · have hE := condF hc17 hE
            try dsimp only at hc17
            refine AWp.skip ?_
            refine hK13 _ ?_
            clear hK13 K13
            refine AWp.region ?_
            refine AOps.s0 (Cert.addI rfl rfl (by first | omega | (dsimp only; omega)) (by first | omega | (dsimp only; omega))) rfl ?_
            refine AOps.s0 (Cert.move (by conv => lhs; whnf)) rfl ?_
            refine AOps.nil ?_
            exact hK7 _ (n7, (s11_8 + 1), y9_l0) (Weak.to (by repeat (first | exact Keeps.nil | refine Keeps.c rfl rfl ?_ | refine Keeps.c (by (first | (first | rfl | ((conv => lhs; whnf); first | (simp [cellsA, faultsT, faultsD, namesD, Fault.mk_c, Nat.add_assoc, empty_append, Bool.and_assoc]; done) | (simp [cellsA, faultsT, faultsD, namesD, Nat.add_assoc, empty_append, Bool.and_assoc]; repeat (first | rfl | constructor)))) | rfl | (simp only [get_same, ev]; done) | (simp [*, cellsA]; done) | (show V.a (A.d (D.slice _ _ _ _)) = V.a (A.d (D.slice _ _ _ _)); simp [*, cellsA]; done))) rfl ?_)) (by repeat (first | exact Pfx.nil | apply Pfx.cons)) (by first | rfl | (first | rfl | (simp only [Heap.set_set, List.length_append, List.length_nil, List.length_cons, List.length_map, List.length_singleton, Nat.zero_add]; done) | (simp [Heap.set_set, Nat.add_assoc]; done)) | (((funext n; simp only [Heap.set]; (repeat' split) <;> simp_all)) <;> first | rfl | exact ⟨rfl, rfl⟩))) hE (Nat.lt_succ_self _)
        · have hE := condF hc12 hE
          try dsimp only at hc12
          refine AWp.exit ?_
          exact hK2 _ y9_l0 (Weak.to (by repeat (first | exact Keeps.nil | refine Keeps.c rfl rfl ?_ | refine Keeps.c (by (first | (first | rfl | ((conv => lhs; whnf); first | (simp [cellsA, faultsT, faultsD, namesD, Fault.mk_c, Nat.add_assoc, empty_append, Bool.and_assoc]; done) | (simp [cellsA, faultsT, faultsD, namesD, Nat.add_assoc, empty_append, Bool.and_assoc]; repeat (first | rfl | constructor)))) | rfl | (simp only [get_same, ev]; done) | (simp [*, cellsA]; done) | (show V.a (A.d (D.slice _ _ _ _)) = V.a (A.d (D.slice _ _ _ _)); simp [*, cellsA]; done))) rfl ?_)) (by repeat (first | exact Pfx.nil | apply Pfx.cons)) (by first | rfl | (first | rfl | (simp only [Heap.set_set, List.length_append, List.length_nil, List.length_cons, List.length_map, List.length_singleton, Nat.zero_add]; done) | (simp [Heap.set_set, Nat.add_assoc]; done)) | (((funext n; simp only [Heap.set]; (repeat' split) <;> simp_all)) <;> first | rfl | exact ⟨rfl, rfl⟩))) hE
  · rintro y3_l0 hE
    try dsimp only at hE
    unfold schema_Find_j2 at hE
    refine AWp.seqK fun K4 hK4 => ?_
    refine AWp.region ?_
    refine AOps.s0 (Cert.build Try.tab_ok rfl rfl rfl rfl rfl rfl) rfl ?_
    refine AOps.sLn (Cert.storeLF (Try.tab_ok _ _ rfl) rfl rfl rfl rfl rfl (by repeat (first | exact SetAt.zero | apply SetAt.succ))) ?_
    refine AOps.s0 (Cert.assign (by conv => lhs; whnf)) rfl ?_
    refine AOps.nil ?_
    refine hK4 _ ?_
    clear hK4 K4
    refine AWp.ret ?_
    repeat (first | refine xBlock_ret ?_ | refine xThen_ret ?_)
    obtain rfl := Option.some.inj hE
    refine retQ.retF H rfl ⟨rfl, rfl⟩ ?_
    exact (fun _ _ h => h)
def schema_kind (a0 : TDoc) (a1 : Bs) : Option Int := (schema_Find a0 a1).bind fun x3 => some x3.1.FKind
set_option maxRecDepth 100000 in
set_option maxHeartbeats 2000000 in
theorem schema_kind_walk {a0 : TDoc} {a1 : Bs}   {r : Int} (hE : schema_kind a0 a1 = some r) (H : Heap)  : ACalls Try.prog 35 [.agg (TDoc.c a0), .d (.str a1)] H fun v h' => v = .a (.d (.int .i64 r)) ∧ h' = H := by
  unfold schema_kind at hE
  refine ACalls.of_wp (fn := Try.f35) (c := _) Try.tab_ok (fun _ _ => Try.call35 _ _) Try.func35 rfl (n := 15) rfl (rs := [.tmp 4]) rfl rfl ?_
  refine AWp.seqK fun K1 hK1 => ?_
  refine AWp.region ?_
  refine AOps.s0 (Cert.boxV rfl) rfl ?_
  refine AOps.s0 (Cert.assign (by conv => lhs; whnf)) rfl ?_
  refine AOps.nil ?_
  refine hK1 _ ?_
  clear hK1 K1
  refine AWp.seqK fun K2 hK2 => ?_
  refine AWp.region ?_
  refine AOps.s0 (Cert.loadV (Try.tab_ok _ _ rfl) rfl rfl rfl) rfl ?_
  refine AOps.s0 (Cert.move (by conv => lhs; whnf)) rfl ?_
  obtain ⟨x3, gx3, hE⟩ := bindO_some hE
  refine AOps.s0 (Cert.callP rfl rfl (fun H => schema_Find_walk gx3 H)) rfl ?_
  refine AOps.s0 (Cert.move (by conv => lhs; whnf)) rfl ?_
  refine AOps.s0 (Cert.extract rfl rfl) rfl ?_
  refine AOps.s0 (Cert.extract rfl rfl) rfl ?_
  refine AOps.sL (Cert.allocL (Try.tab_ok _ _ rfl) rfl (by repeat (first | exact Snoc.nil | apply Snoc.cons))) rfl ?_
  refine AOps.sLn (Cert.storeLF (Try.tab_ok _ _ rfl) rfl rfl rfl rfl rfl (by repeat (first | exact SetAt.zero | apply SetAt.succ))) ?_
  refine AOps.s0 (Cert.assign (by conv => lhs; whnf)) rfl ?_
  refine AOps.nil ?_
  refine hK2 _ ?_
  clear hK2 K2
  refine AWp.freeze 5 _ rfl (by repeat (first | exact Snoc.nil | apply Snoc.cons)) Keeps.nil ?_
  refine AWp.seqK fun K4 hK4 => ?_
  refine AWp.region ?_
  refine AOps.s0 (Cert.fieldV (Try.tab_ok _ _ rfl) rfl rfl (Try.tab_ok _ _ rfl) rfl rfl (by conv => lhs; whnf)) rfl ?_
  refine AOps.s0 (Cert.loadV (Try.tab_ok _ _ rfl) rfl rfl rfl) rfl ?_
  refine AOps.s0 (Cert.assign (by conv => lhs; whnf)) rfl ?_
  refine AOps.nil ?_
  refine hK4 _ ?_
  clear hK4 K4
  refine AWp.ret ?_
  repeat (first | refine xBlock_ret ?_ | refine xThen_ret ?_)
  obtain rfl := Option.some.inj hE
  refine retQ.retF H rfl ⟨rfl, rfl⟩ ?_
  exact (fun _ _ h => h)
def schema_Scalar (a0 : Bs) : Option Bool := some (((((a0 == ([73, 110, 116] : Bs))) || ((a0 == ([83, 116, 114, 105, 110, 103] : Bs)))) || ((a0 == ([66, 111, 111, 108, 101, 97, 110] : Bs)))) || ((a0 == ([73, 68] : Bs))))
set_option maxRecDepth 100000 in
set_option maxHeartbeats 2000000 in
theorem schema_Scalar_walk {a0 : Bs}   {r : Bool} (hE : schema_Scalar a0 = some r) (H : Heap)  : ACalls Try.prog 36 [.d (.str a0)] H fun v h' => v = .a (.d (.bool r)) ∧ h' = H := by
  unfold schema_Scalar at hE
  refine ACalls.of_wp (fn := Try.f36) (c := _) Try.tab_ok (fun _ _ => Try.call36 _ _) Try.func36 rfl (n := 17) rfl (rs := [.tmp 2]) rfl rfl ?_
  refine AWp.seqK fun K1 hK1 => ?_
  refine AWp.region ?_
  refine AOps.s0 (Cert.assign (by conv => lhs; whnf)) rfl ?_
  refine AOps.nil ?_
  refine hK1 _ ?_
  clear hK1 K1
  refine AWp.seqK fun K2 hK2 => ?_
  refine AWp.region ?_
  refine AOps.s0 (Cert.move (by conv => lhs; whnf)) rfl ?_
  refine AOps.s0 (Cert.binS rfl rfl rfl) rfl ?_
  refine AOps.s0 (Cert.move (by conv => lhs; whnf)) rfl ?_
  refine AOps.gC rfl rfl (fun hC => Cert.move (by conv => lhs; whnf)) rfl ?_
  refine AOps.gC rfl rfl (fun hC => Cert.ungd (k := 6) rfl (by first | exact hC | exact andL hC | exact andL (andL hC) | exact andL (andL (andL hC)) | exact andR hC | simp_all) (Cert.binS rfl rfl rfl)) rfl ?_
  refine AOps.s0 (Cert.pickOr rfl rfl rfl (fun h => by first | exact h | exact notT h | exact andI hC h | exact andI hC (notT h) | simp_all)) rfl ?_
  refine AOps.s0 (Cert.move (by conv => lhs; whnf)) rfl ?_
  refine AOps.gC rfl rfl (fun hC => Cert.move (by conv => lhs; whnf)) rfl ?_
  refine AOps.gC rfl rfl (fun hC => Cert.ungd (k := 10) rfl (by first | exact hC | exact andL hC | exact andL (andL hC) | exact andL (andL (andL hC)) | exact andR hC | simp_all) (Cert.binS rfl rfl rfl)) rfl ?_
  refine AOps.s0 (Cert.pickOr rfl rfl rfl (fun h => by first | exact h | exact notT h | exact andI hC h | exact andI hC (notT h) | simp_all)) rfl ?_
  refine AOps.s0 (Cert.move (by conv => lhs; whnf)) rfl ?_
  refine AOps.gC rfl rfl (fun hC => Cert.move (by conv => lhs; whnf)) rfl ?_
  refine AOps.gC rfl rfl (fun hC => Cert.ungd (k := 14) rfl (by first | exact hC | exact andL hC | exact andL (andL hC) | exact andL (andL (andL hC)) | exact andR hC | simp_all) (Cert.binS rfl rfl rfl)) rfl ?_
  refine AOps.s0 (Cert.pickOr rfl rfl rfl (fun h => by first | exact h | exact notT h | exact andI hC h | exact andI hC (notT h) | simp_all)) rfl ?_
  refine AOps.s0 (Cert.assign (by conv => lhs; whnf)) rfl ?_
  refine AOps.nil ?_
  refine hK2 _ ?_
  clear hK2 K2
  refine AWp.ret ?_
  repeat (first | refine xBlock_ret ?_ | refine xThen_ret ?_)
  obtain rfl := Option.some.inj hE
  refine retQ.retF H rfl ⟨rfl, rfl⟩ ?_
  exact (fun _ _ h => h)
def schema_Composite (a0 : TDoc) (a1 : Bs) : Option Bool := (schema_kind a0 a1).bind fun x3 => (schema_Scalar a1).bind fun x5 => some ((!x5) && (((decide (x3 = (1 : Int))) || (decide (x3 = (2 : Int)))) || (decide (x3 = (3 : Int)))))
set_option maxRecDepth 100000 in
set_option maxHeartbeats 2000000 in
theorem schema_Composite_walk {a0 : TDoc} {a1 : Bs}   {r : Bool} (hE : schema_Composite a0 a1 = some r) (H : Heap)  : ACalls Try.prog 16 [.agg (TDoc.c a0), .d (.str a1)] H fun v h' => v = .a (.d (.bool r)) ∧ h' = H := by
  unfold schema_Composite at hE
  refine ACalls.of_wp (fn := Try.f16) (c := _) Try.tab_ok (fun _ _ => Try.call16 _ _) Try.func16 rfl (n := 24) rfl (rs := [.tmp 4]) rfl rfl ?_
  refine AWp.seqK fun K1 hK1 => ?_
  refine AWp.region ?_
  refine AOps.s0 (Cert.boxV rfl) rfl ?_
  refine AOps.s0 (Cert.assign (by conv => lhs; whnf)) rfl ?_
  refine AOps.nil ?_
  refine hK1 _ ?_
  clear hK1 K1
  refine AWp.seqK fun K2 hK2 => ?_
  refine AWp.region ?_
  refine AOps.s0 (Cert.loadV (Try.tab_ok _ _ rfl) rfl rfl rfl) rfl ?_
  refine AOps.s0 (Cert.move (by conv => lhs; whnf)) rfl ?_
  obtain ⟨x3, gx3, hE⟩ := bindO_some hE
  refine AOps.s0 (Cert.callP rfl rfl (fun H => schema_kind_walk gx3 H)) rfl ?_
  refine AOps.s0 (Cert.assign (by conv => lhs; whnf)) rfl ?_
  refine AOps.nil ?_
  refine hK2 _ ?_
  clear hK2 K2
  refine AWp.seqK fun K4 hK4 => ?_
  refine AWp.region ?_
  refine AOps.s0 (Cert.move (by conv => lhs; whnf)) rfl ?_
  obtain ⟨x5, gx5, hE⟩ := bindO_some hE
  refine AOps.s0 (Cert.callP rfl rfl (fun H => schema_Scalar_walk gx5 H)) rfl ?_
  refine AOps.s0 (Cert.notB rfl) rfl ?_
  refine AOps.s0 (Cert.move (by conv => lhs; whnf)) rfl ?_
  refine AOps.gC rfl rfl (fun hC => Cert.move (by conv => lhs; whnf)) rfl ?_
  refine AOps.gC rfl rfl (fun hC => Cert.ungd (k := 13) rfl (by first | exact hC | exact andL hC | exact andL (andL hC) | exact andL (andL (andL hC)) | exact andR hC | simp_all) (Cert.binI rfl rfl rfl)) rfl ?_
  refine AOps.gC rfl rfl (fun hC => Cert.ungd (k := 14) rfl (by first | exact hC | exact andL hC | exact andL (andL hC) | exact andL (andL (andL hC)) | exact andR hC | simp_all) (Cert.move (by conv => lhs; whnf))) rfl ?_
  refine AOps.gC rfl rfl (fun hC => Cert.move (by conv => lhs; whnf)) rfl ?_
  refine AOps.gC rfl rfl (fun hC => Cert.ungd (k := 16) rfl (by first | exact hC | exact andL hC | exact andL (andL hC) | exact andL (andL (andL hC)) | exact andR hC | simp_all) (Cert.binI rfl rfl rfl)) rfl ?_
  refine AOps.gC rfl rfl (fun hC => Cert.ungd (k := 15) rfl (by first | exact hC | exact andL hC | exact andL (andL hC) | exact andL (andL (andL hC)) | exact andR hC | simp_all) (Cert.pickOr rfl rfl rfl (fun h => by first | exact h | exact notT h | exact andI hC h | exact andI hC (notT h) | simp_all))) rfl ?_
  refine AOps.gC rfl rfl (fun hC => Cert.ungd (k := 18) rfl (by first | exact hC | exact andL hC | exact andL (andL hC) | exact andL (andL (andL hC)) | exact andR hC | simp_all) (Cert.move (by conv => lhs; whnf))) rfl ?_
  refine AOps.gC rfl rfl (fun hC => Cert.move (by conv => lhs; whnf)) rfl ?_
  refine AOps.gC rfl rfl (fun hC => Cert.ungd (k := 20) rfl (by first | exact hC | exact andL hC | exact andL (andL hC) | exact andL (andL (andL hC)) | exact andR hC | simp_all) (Cert.binI rfl rfl rfl)) rfl ?_
  refine AOps.gC rfl rfl (fun hC => Cert.ungd (k := 19) rfl (by first | exact hC | exact andL hC | exact andL (andL hC) | exact andL (andL (andL hC)) | exact andR hC | simp_all) (Cert.pickOr rfl rfl rfl (fun h => by first | exact h | exact notT h | exact andI hC h | exact andI hC (notT h) | simp_all))) rfl ?_
  refine AOps.s0 (Cert.pickAnd rfl rfl (fun h => by first | exact h | exact notT h | exact andI hC h | exact andI hC (notT h) | simp_all) rfl) rfl ?_
  refine AOps.s0 (Cert.assign (by conv => lhs; whnf)) rfl ?_
  refine AOps.nil ?_
  refine hK4 _ ?_
  clear hK4 K4
  refine AWp.ret ?_
  repeat (first | refine xBlock_ret ?_ | refine xThen_ret ?_)
  obtain rfl := Option.some.inj hE
  refine retQ.retF H rfl ⟨rfl, rfl⟩ ?_
  exact (fun _ _ h => h)
def slices_Clone_intint (a0 : (Sl Int)) : Option (Sl Int) := bif a0.nl then (some (Sl.nil : Sl Int)) else ((appC 8 (⟨false, []⟩ : Sl Int) a0).bind fun x7 => some x7)
set_option maxRecDepth 100000 in
set_option maxHeartbeats 2000000 in
theorem slices_Clone_intint_walk {a0 : (Sl Int)} {w0 : Option Nat}  {r : (Sl Int)} (hE : slices_Clone_intint a0 = some r) (H : Heap)  : ACalls Try.prog 21 [.d (Sl.d 1 (intE .i64) w0 a0)] H fun v h' => v = .a (.d (Sl.d 1 (intE .i64) none r)) ∧ h' = H := by
  unfold slices_Clone_intint at hE
  refine ACalls.of_wp (fn := Try.f21) (c := _) Try.tab_ok (fun _ _ => Try.call21 _ _) Try.func21 rfl (n := 8) rfl (rs := [.tmp 2]) rfl rfl ?_
  refine AWp.seqK fun K1 hK1 => ?_
  refine AWp.region ?_
  refine AOps.s0 (Cert.assignNil (k' := 1) rfl) rfl ?_
  refine AOps.nil ?_
  refine hK1 _ ?_
  clear hK1 K1
  refine AWp.seqK fun K2 hK2 => ?_
  refine AWp.seqK fun K3 hK3 => ?_
  refine AWp.region ?_
  refine AOps.s0 (Cert.move (by conv => lhs; whnf)) rfl ?_
  refine AOps.s0 (Cert.eqNil (Try.tab_ok _ _ rfl) rfl rfl) rfl ?_
  refine AOps.nil ?_
  refine hK3 _ ?_
  clear hK3 K3
  refine AWp.cond rfl (fun hc4 => ?_) (fun hc4 => ?_)
  · have hE := condT hc4 hE
    try dsimp only at hc4
    refine AWp.seqK fun K5 hK5 => ?_
    refine AWp.region ?_
    refine AOps.s0 (Cert.assignNil (k' := 1) rfl) rfl ?_
    refine AOps.nil ?_
    refine hK5 _ ?_
    clear hK5 K5
    refine AWp.ret ?_
    repeat (first | refine xBlock_ret ?_ | refine xThen_ret ?_)
    obtain rfl := Option.some.inj hE
    refine retQ.retF H rfl ⟨rfl, rfl⟩ ?_
    exact (fun _ _ h => h)
  · have hE := condF hc4 hE
    try dsimp only at hc4
    refine AWp.skip ?_
    refine hK2 _ ?_
    clear hK2 K2
    refine AWp.seqK fun K6 hK6 => ?_
    refine AWp.region ?_
    refine AOps.s0 (Cert.buildSliceF (Try.tab_ok _ _ rfl) rfl (Try.tab_ok _ _ rfl) rfl rfl rfl rfl rfl rfl) rfl ?_
    refine AOps.s0 (Cert.move (by conv => lhs; whnf)) rfl ?_
    obtain ⟨x7, gx7, hE⟩ := bindO_some hE
    refine AOps.s0 (Cert.appFM (f := (intE .i64)) (Try.tab_ok _ _ rfl) rfl (Try.tab_ok _ _ rfl) (Try.tab_ok _ _ rfl) ⟨_, rfl⟩ rfl rfl (by decide) rfl rfl rfl (by intro q h; cases h <;> decide) rfl rfl gx7) rfl ?_
    refine AOps.s0 (Cert.assign (by conv => lhs; whnf)) rfl ?_
    refine AOps.nil ?_
    refine hK6 _ ?_
    clear hK6 K6
    refine AWp.ret ?_
    repeat (first | refine xBlock_ret ?_ | refine xThen_ret ?_)
    obtain rfl := Option.some.inj hE
    refine retQ.retF H rfl ⟨rfl, rfl⟩ ?_
    exact (fun _ _ h => h)
def typeref_IsNonNull (a0 : TRef) : Option Bool := guardO ((decide ((0 : Int) < ((a0.FWraps.l.length : Nat) : Int)))) (a0.FWraps.l[0]?) (0 : Int) fun x4 => some ((decide ((0 : Int) < ((a0.FWraps.l.length : Nat) : Int))) && (decide (x4 = (1 : Int))))
set_option maxRecDepth 100000 in
set_option maxHeartbeats 2000000 in
theorem typeref_IsNonNull_walk {a0 : TRef}   {r : Bool} (hE : typeref_IsNonNull a0 = some r) (H : Heap)  : ACalls Try.prog 37 [.agg (TRef.c a0)] H fun v h' => v = .a (.d (.bool r)) ∧ h' = H := by
  unfold typeref_IsNonNull at hE
  refine ACalls.of_wp (fn := Try.f37) (c := _) Try.tab_ok (fun _ _ => Try.call37 _ _) Try.func37 rfl (n := 14) rfl (rs := [.tmp 2]) rfl rfl ?_
  refine AWp.seqK fun K1 hK1 => ?_
  refine AWp.region ?_
  refine AOps.s0 (Cert.boxV rfl) rfl ?_
  refine AOps.s0 (Cert.assign (by conv => lhs; whnf)) rfl ?_
  refine AOps.nil ?_
  refine hK1 _ ?_
  clear hK1 K1
  refine AWp.seqK fun K2 hK2 => ?_
  refine AWp.region ?_
  refine AOps.s0 (Cert.fieldV (Try.tab_ok _ _ rfl) rfl rfl (Try.tab_ok _ _ rfl) rfl rfl (by conv => lhs; whnf)) rfl ?_
  refine AOps.s0 (Cert.loadV (Try.tab_ok _ _ rfl) rfl rfl rfl) rfl ?_
  refine AOps.sLen (f := (intE .i64)) (s := a0.FWraps) (Try.tab_ok _ _ rfl) rfl rfl rfl rfl fun hL3 => ?_
  refine AOps.s0 (Cert.binI rfl rfl rfl) rfl ?_
  refine AOps.s0 (Cert.move (by conv => lhs; whnf)) rfl ?_
  refine AOps.gC rfl rfl (fun hC => Cert.fieldV (Try.tab_ok _ _ rfl) rfl rfl (Try.tab_ok _ _ rfl) rfl rfl (by conv => lhs; whnf)) rfl ?_
  refine AOps.gC rfl rfl (fun hC => Cert.ungd (k := 8) rfl (by first | exact hC | exact andL hC | exact andL (andL hC) | exact andL (andL (andL hC)) | exact andR hC | simp_all) (Cert.loadV (Try.tab_ok _ _ rfl) rfl rfl rfl)) rfl ?_
  obtain ⟨x4, gx4, hE⟩ := guardO_some hE
  refine AOps.gC rfl rfl (fun hC => Cert.ungd (k := 9) rfl (by first | exact hC | exact andL hC | exact andL (andL hC) | exact andL (andL (andL hC)) | exact andR hC | simp_all) (Cert.idxMn (f := (intE .i64)) (n := 0) (Try.tab_ok _ _ rfl) rfl (Try.tab_ok _ _ rfl) rfl rfl rfl (gx4 hC))) rfl ?_
  refine AOps.gC rfl rfl (fun hC => Cert.ungd (k := 10) rfl (by first | exact hC | exact andL hC | exact andL (andL hC) | exact andL (andL (andL hC)) | exact andR hC | simp_all) (Cert.loadV (Try.tab_ok _ _ rfl) rfl rfl rfl)) rfl ?_
  refine AOps.gC rfl rfl (fun hC => Cert.ungd (k := 11) rfl (by first | exact hC | exact andL hC | exact andL (andL hC) | exact andL (andL (andL hC)) | exact andR hC | simp_all) (Cert.binI rfl rfl rfl)) rfl ?_
  refine AOps.s0 (Cert.pickAnd rfl rfl (fun h => by first | exact h | exact notT h | exact andI hC h | exact andI hC (notT h) | simp_all) rfl) rfl ?_
  refine AOps.s0 (Cert.assign (by conv => lhs; whnf)) rfl ?_
  refine AOps.nil ?_
  refine hK2 _ ?_
  clear hK2 K2
  refine AWp.ret ?_
  repeat (first | refine xBlock_ret ?_ | refine xThen_ret ?_)
  obtain rfl := Option.some.inj hE
  refine retQ.retF H rfl ⟨rfl, rfl⟩ ?_
  exact (fun _ _ h => h)
def typeref_NonNull (a0 : TRef) : Option TRef := (typeref_IsNonNull a0).bind fun x4 => bif x4 then ((slices_Clone_intint a0.FWraps).bind fun x7 => some (TRef.mk a0.FName x7)) else ((appC 8 (⟨false, [(1 : Int)]⟩ : Sl Int) a0.FWraps).bind fun x9 => some (TRef.mk a0.FName x9))
set_option maxRecDepth 100000 in
set_option maxHeartbeats 2000000 in
theorem typeref_NonNull_walk {a0 : TRef}   {r : TRef} (hE : typeref_NonNull a0 = some r) (H : Heap)  : ACalls Try.prog 17 [.agg (TRef.c a0)] H fun v h' => v = .a (.agg (TRef.c r)) ∧ h' = H := by
  unfold typeref_NonNull at hE
  refine ACalls.of_wp (fn := Try.f17) (c := _) Try.tab_ok (fun _ _ => Try.call17 _ _) Try.func17 rfl (n := 18) rfl (rs := [.cell 2 29]) rfl rfl ?_
  refine AWp.seqK fun K1 hK1 => ?_
  refine AWp.region ?_
  refine AOps.s0 (Cert.boxV rfl) rfl ?_
  refine AOps.sL (Cert.allocL (Try.tab_ok _ _ rfl) rfl (by repeat (first | exact Snoc.nil | apply Snoc.cons))) rfl ?_
  refine AOps.nil ?_
  refine hK1 _ ?_
  clear hK1 K1
  refine AWp.seqK fun K2 hK2 => ?_
  refine AWp.seqK fun K3 hK3 => ?_
  refine AWp.region ?_
  refine AOps.s0 (Cert.loadV (Try.tab_ok _ _ rfl) rfl rfl rfl) rfl ?_
  obtain ⟨x4, gx4, hE⟩ := bindO_some hE
  refine AOps.s0 (Cert.callP rfl rfl (fun H => typeref_IsNonNull_walk gx4 H)) rfl ?_
  refine AOps.nil ?_
  refine hK3 _ ?_
  clear hK3 K3
  refine AWp.cond rfl (fun hc5 => ?_) (fun hc5 => ?_)
  · have hE := condT hc5 hE
    try dsimp only at hc5
    refine AWp.seqK fun K6 hK6 => ?_
    refine AWp.draw rfl ?_
    refine DOps.s0 (Cert.fieldV (Try.tab_ok _ _ rfl) rfl rfl (Try.tab_ok _ _ rfl) rfl rfl (by conv => lhs; whnf)) rfl ?_
    refine DOps.s0 (Cert.loadV (Try.tab_ok _ _ rfl) rfl rfl rfl) rfl ?_
    refine DOps.s0 (Cert.fieldV (Try.tab_ok _ _ rfl) rfl rfl (Try.tab_ok _ _ rfl) rfl rfl (by conv => lhs; whnf)) rfl ?_
    refine DOps.s0 (Cert.loadV (Try.tab_ok _ _ rfl) rfl rfl rfl) rfl ?_
    obtain ⟨x7, gx7, hE⟩ := bindO_some hE
    refine DOps.s0 (Cert.callP rfl rfl (fun H => slices_Clone_intint_walk gx7 H)) rfl ?_
    refine DOps.s0 (Cert.build Try.tab_ok rfl rfl rfl rfl rfl rfl) rfl ?_
    refine DOps.sLn (Cert.storeLF (Try.tab_ok _ _ rfl) rfl rfl rfl rfl rfl (by repeat (first | exact SetAt.zero | apply SetAt.succ))) ?_
    refine DOps.nil (by decide +kernel) ?_
    refine hK6 _ ?_
    clear hK6 K6
    refine AWp.ret ?_
    repeat (first | refine xBlock_ret ?_ | refine xThen_ret ?_)
    obtain rfl := Option.some.inj hE
    refine retQ.retF H rfl ⟨rfl, rfl⟩ ?_
    exact (fun _ _ h => h)
  · have hE := condF hc5 hE
    try dsimp only at hc5
    refine AWp.skip ?_
    refine hK2 _ ?_
    clear hK2 K2
    refine AWp.seqK fun K8 hK8 => ?_
    refine AWp.draw rfl ?_
    refine DOps.s0 (Cert.fieldV (Try.tab_ok _ _ rfl) rfl rfl (Try.tab_ok _ _ rfl) rfl rfl (by conv => lhs; whnf)) rfl ?_
    refine DOps.s0 (Cert.loadV (Try.tab_ok _ _ rfl) rfl rfl rfl) rfl ?_
    refine DOps.s0 (Cert.buildSliceF (Try.tab_ok _ _ rfl) rfl (Try.tab_ok _ _ rfl) rfl rfl rfl rfl rfl rfl) rfl ?_
    refine DOps.s0 (Cert.fieldV (Try.tab_ok _ _ rfl) rfl rfl (Try.tab_ok _ _ rfl) rfl rfl (by conv => lhs; whnf)) rfl ?_
    refine DOps.s0 (Cert.loadV (Try.tab_ok _ _ rfl) rfl rfl rfl) rfl ?_
    obtain ⟨x9, gx9, hE⟩ := bindO_some hE
    refine DOps.s0 (Cert.appFM (f := (intE .i64)) (Try.tab_ok _ _ rfl) rfl (Try.tab_ok _ _ rfl) (Try.tab_ok _ _ rfl) ⟨_, rfl⟩ rfl rfl (by decide) rfl rfl rfl (by intro q h; cases h <;> decide) rfl rfl gx9) rfl ?_
    refine DOps.s0 (Cert.build Try.tab_ok rfl rfl rfl rfl rfl rfl) rfl ?_
    refine DOps.sLn (Cert.storeLF (Try.tab_ok _ _ rfl) rfl rfl rfl rfl rfl (by repeat (first | exact SetAt.zero | apply SetAt.succ))) ?_
    refine DOps.nil (by decide +kernel) ?_
    refine hK8 _ ?_
    clear hK8 K8
    refine AWp.ret ?_
    repeat (first | refine xBlock_ret ?_ | refine xThen_ret ?_)
    obtain rfl := Option.some.inj hE
    refine retQ.retF H rfl ⟨rfl, rfl⟩ ?_
    exact (fun _ _ h => h)
def typeref_Named (a0 : Bs) : Option TRef := some (TRef.mk a0 (Sl.nil : Sl Int))
set_option maxRecDepth 100000 in
set_option maxHeartbeats 2000000 in
theorem typeref_Named_walk {a0 : Bs}   {r : TRef} (hE : typeref_Named a0 = some r) (H : Heap)  : ACalls Try.prog 18 [.d (.str a0)] H fun v h' => v = .a (.agg (TRef.c r)) ∧ h' = H := by
  unfold typeref_Named at hE
  refine ACalls.of_wp (fn := Try.f18) (c := _) Try.tab_ok (fun _ _ => Try.call18 _ _) Try.func18 rfl (n := 5) rfl (rs := [.cell 2 29]) rfl rfl ?_
  refine AWp.seqK fun K1 hK1 => ?_
  refine AWp.region ?_
  refine AOps.sL (Cert.allocL (Try.tab_ok _ _ rfl) rfl (by repeat (first | exact Snoc.nil | apply Snoc.cons))) rfl ?_
  refine AOps.nil ?_
  refine hK1 _ ?_
  clear hK1 K1
  refine AWp.seqK fun K2 hK2 => ?_
  refine AWp.region ?_
  refine AOps.s0 (Cert.move (by conv => lhs; whnf)) rfl ?_
  refine AOps.s0 (Cert.build Try.tab_ok rfl rfl rfl rfl rfl rfl) rfl ?_
  refine AOps.sLn (Cert.storeLF (Try.tab_ok _ _ rfl) rfl rfl rfl rfl rfl (by repeat (first | exact SetAt.zero | apply SetAt.succ))) ?_
  refine AOps.nil ?_
  refine hK2 _ ?_
  clear hK2 K2
  refine AWp.ret ?_
  repeat (first | refine xBlock_ret ?_ | refine xThen_ret ?_)
  obtain rfl := Option.some.inj hE
  refine retQ.retF H rfl ⟨rfl, rfl⟩ ?_
  exact (fun _ _ h => h)
def schema_FieldOf_j2 (a0 : TDef) (a1 : Bs)  (y3_l0 : TField) : Option (TField × Bool) := some ((TField.mk ([] : Bs) (Sl.nil : Sl TInput) TRef.zero (Sl.nil : Sl TDir)), false)
def schema_FieldOf_l7 (a0 : TDef) (a1 : Bs)  : Nat → Nat → TField → Option (TField × Bool)
  | 0, _, _ => none
  | n7 + 1, s11_8, y9_l0 => bif (decide (((s11_8 : Nat) : Int) < ((a0.FFields.l.length : Nat) : Int))) then ((a0.FFields.l[s11_8]?).bind fun x15 => bif ((x15.FName == a1)) then (some (x15, true)) else ((schema_FieldOf_l7 a0 a1 n7) (s11_8 + 1) y9_l0)) else (schema_FieldOf_j2 a0 a1  y9_l0)
def schema_FieldOf (a0 : TDef) (a1 : Bs) : Option (TField × Bool) := schema_FieldOf_l7 a0 a1 F0 0 TField.zero
set_option maxRecDepth 100000 in
set_option maxHeartbeats 2000000 in
theorem schema_FieldOf_walk {a0 : TDef} {a1 : Bs}   {r : (TField × Bool)} (hE : schema_FieldOf a0 a1 = some r) (H : Heap)  : ACalls Try.prog 20 [.agg (TDef.c a0), .d (.str a1)] H fun v h' => v = .tup [.agg (TField.c r.1), .d (.bool r.2)] ∧ h' = H := by
  unfold schema_FieldOf at hE
  refine ACalls.of_wp (fn := Try.f20) (c := _) Try.tab_ok (fun _ _ => Try.call20 _ _) Try.func20 rfl (n := 22) rfl (rs := [.cell 4 50, .tmp 5]) rfl rfl ?_
  refine AWp.seqK fun K1 hK1 => ?_
  refine AWp.region ?_
  refine AOps.s0 (Cert.boxV rfl) rfl ?_
  refine AOps.sL (Cert.allocL (Try.tab_ok _ _ rfl) rfl (by repeat (first | exact Snoc.nil | apply Snoc.cons))) rfl ?_
  refine AOps.s0 (Cert.assign (by conv => lhs; whnf)) rfl ?_
  refine AOps.nil ?_
  refine hK1 _ ?_
  clear hK1 K1
  refine AWp.seqJ (KeepsT.cons (k := 4) (by conv => lhs; whnf) KeepsT.nil) (fun (z : TField) => []) (fun z => [TField.c z]) (fun z => H) (fun z => schema_FieldOf_j2 a0 a1 z = some r) ?_ ?_
  · intro K2 hK2
    refine AWp.seqK fun K5 hK5 => ?_
    refine AWp.region ?_
    refine AOps.s0 (Cert.fieldV (Try.tab_ok _ _ rfl) rfl rfl (Try.tab_ok _ _ rfl) rfl rfl (by conv => lhs; whnf)) rfl ?_
    refine AOps.s0 (Cert.loadV (Try.tab_ok _ _ rfl) rfl rfl rfl) rfl ?_
    refine AOps.sLen (f := TField.c) (s := a0.FFields) (Try.tab_ok _ _ rfl) rfl rfl rfl rfl fun hL6 => ?_
    refine AOps.s0 (Cert.move (by conv => lhs; whnf)) rfl ?_
    refine AOps.nil ?_
    refine hK5 _ ?_
    clear hK5 K5
    refine AWp.block ?_
    refine AWp.loopO (KeepsT.cons (k := 1) (by conv => lhs; whnf) (KeepsT.cons (k := 4) (by conv => lhs; whnf) (KeepsT.cons (k := 9) (by conv => lhs; whnf) (KeepsT.cons (k := 10) (by conv => lhs; whnf) KeepsT.nil)))) (fun (z : Nat × Nat × TField) => [(11, .a (.d (.int .i64 ((z.2.1 : Nat) : Int))))]) (fun z => [TField.c z.2.2]) (fun z => H) (fun z => z.1) (fun z => schema_FieldOf_l7 a0 a1 z.1 z.2.1 z.2.2 = some r) (F0, 0, TField.zero) hE (Weak.to (by repeat (first | exact Keeps.nil | refine Keeps.c rfl rfl ?_ | refine Keeps.c (by (first | (first | rfl | ((conv => lhs; whnf); first | (simp [cellsA, faultsT, faultsD, namesD, Fault.mk_c, Nat.add_assoc, empty_append, Bool.and_assoc]; done) | (simp [cellsA, faultsT, faultsD, namesD, Nat.add_assoc, empty_append, Bool.and_assoc]; repeat (first | rfl | constructor)))) | rfl | (simp only [get_same, ev]; done) | (simp [*, cellsA]; done) | (show V.a (A.d (D.slice _ _ _ _)) = V.a (A.d (D.slice _ _ _ _)); simp [*, cellsA]; done))) rfl ?_)) (by repeat (first | exact Pfx.nil | apply Pfx.cons)) (by first | rfl | (first | rfl | (simp only [Heap.set_set, List.length_append, List.length_nil, List.length_cons, List.length_map, List.length_singleton, Nat.zero_add]; done) | (simp [Heap.set_set, Nat.add_assoc]; done)) | (((funext n; simp only [Heap.set]; (repeat' split) <;> simp_all)) <;> first | rfl | exact ⟨rfl, rfl⟩))) ?_
    rintro ⟨n7, s11_8, y9_l0⟩ hE K7 hK7
    try dsimp only at hE
    cases n7 with
    | zero => cases hE
    | succ n7 =>
        rw [schema_FieldOf_l7] at hE
        refine AWp.seqK fun K10 hK10 => ?_
        refine AWp.region ?_
        refine AOps.s0 (Cert.binI rfl rfl rfl) rfl ?_
        refine AOps.nil ?_
        refine hK10 _ ?_
        clear hK10 K10
        refine AWp.seqK fun K11 hK11 => ?_
        refine AWp.cond rfl (fun hc12 => ?_) (fun hc12 => ?_)
        · have hE := condT hc12 hE
          try dsimp only at hc12
          have hf12 := of_decide_eq_true hc12
          refine AWp.skip ?_
          refine hK11 _ ?_
          clear hK11 K11
          refine AWp.seqK fun K13 hK13 => ?_
          refine AWp.block ?_
          refine AWp.seqK fun K14 hK14 => ?_
          refine AWp.region ?_
          obtain ⟨x15, gx15, hE⟩ := bindO_some hE
          refine AOps.s0 (Cert.idxMn (f := TField.c) (n := s11_8) (Try.tab_ok _ _ rfl) rfl (Try.tab_ok _ _ rfl) rfl rfl rfl gx15) rfl ?_
          refine AOps.s0 (Cert.loadV (Try.tab_ok _ _ rfl) rfl rfl rfl) rfl ?_
          refine AOps.sL (Cert.allocL (Try.tab_ok _ _ rfl) rfl (by repeat (first | exact Snoc.nil | apply Snoc.cons))) rfl ?_
          refine AOps.sLn (Cert.storeLF (Try.tab_ok _ _ rfl) rfl rfl rfl rfl rfl (by repeat (first | exact SetAt.zero | apply SetAt.succ))) ?_
          refine AOps.nil ?_
          refine hK14 _ ?_
          clear hK14 K14
          refine AWp.freeze 7 _ rfl (by repeat (first | exact Snoc.nil | apply Snoc.cons)) (Keeps.c (k := 1) (by conv => lhs; whnf) (by rfl) (Keeps.c (k := 4) (by conv => lhs; whnf) (by rfl) (Keeps.c (k := 9) (by conv => lhs; whnf) (by rfl) (Keeps.c (k := 10) (by conv => lhs; whnf) (by rfl) (Keeps.c (k := 11) (by conv => lhs; whnf) (by rfl) Keeps.nil))))) ?_
          refine AWp.seqK fun K16 hK16 => ?_
          refine AWp.region ?_
          refine AOps.s0 (Cert.fieldV (Try.tab_ok _ _ rfl) rfl rfl (Try.tab_ok _ _ rfl) rfl rfl (by conv => lhs; whnf)) rfl ?_
          refine AOps.s0 (Cert.loadV (Try.tab_ok _ _ rfl) rfl rfl rfl) rfl ?_
          refine AOps.s0 (Cert.move (by conv => lhs; whnf)) rfl ?_
          refine AOps.s0 (Cert.binS rfl rfl rfl) rfl ?_
          refine AOps.nil ?_
          refine hK16 _ ?_
          clear hK16 K16
          refine AWp.cond rfl (fun hc17 => ?_) (fun hc17 => ?_)
          · have hE := condT hc17 hE
            try dsimp only at hc17
            refine AWp.seqK fun K18 hK18 => ?_
            refine AWp.region ?_
            refine AOps.s0 (Cert.loadV (Try.tab_ok _ _ rfl) rfl rfl rfl) rfl ?_
            refine AOps.sLn (Cert.storeLF (Try.tab_ok _ _ rfl) rfl rfl rfl rfl rfl (by repeat (first | exact SetAt.zero | apply SetAt.succ))) ?_
            refine AOps.s0 (Cert.assign (by conv => lhs; whnf)) rfl ?_
            refine AOps.nil ?_
            refine hK18 _ ?_
            clear hK18 K18
            refine AWp.ret ?_
            repeat (first | refine xBlock_ret ?_ | refine xThen_ret ?_)
            obtain rfl := Option.some.inj hE
            refine retQ.retF H rfl ⟨rfl, rfl⟩ ?_
            exact (fun _ _ h => h)
          · have hE := condF hc17 hE
            try dsimp only at hc17
            refine AWp.skip ?_
            refine hK13 _ ?_
            clear hK13 K13
            refine AWp.region ?_
            refine AOps.s0 (Cert.addI rfl rfl (by first | omega | (dsimp only; omega)) (by first | omega | (dsimp only; omega))) rfl ?_
            refine AOps.s0 (Cert.move (by conv => lhs; whnf)) rfl ?_
            refine AOps.nil ?_
            exact hK7 _ (n7, (s11_8 + 1), y9_l0) (Weak.to (by repeat (first | exact Keeps.nil | refine Keeps.c rfl rfl ?_ | refine Keeps.c (by (first | (first | rfl | ((conv => lhs; whnf); first | (simp [cellsA, faultsT, faultsD, namesD, Fault.mk_c, Nat.add_assoc, empty_append, Bool.and_assoc]; done) | (simp [cellsA, faultsT, faultsD, namesD, Nat.add_assoc, empty_append, Bool.and_assoc]; repeat (first | rfl | constructor)))) | rfl | (simp only [get_same, ev]; done) | (simp [*, cellsA]; done) | (show V.a (A.d (D.slice _ _ _ _)) = V.a (A.d (D.slice _ _ _ _)); simp [*, cellsA]; done))) rfl ?_)) (by repeat (first | exact Pfx.nil | apply Pfx.cons)) (by first | rfl | (first | rfl | (simp only [Heap.set_set, List.length_append, List.length_nil, List.length_cons, List.length_map, List.length_singleton, Nat.zero_add]; done) | (simp [Heap.set_set, Nat.add_assoc]; done)) | (((funext n; simp only [Heap.set]; (repeat' split) <;> simp_all)) <;> first | rfl | exact ⟨rfl, rfl⟩))) hE (Nat.lt_succ_self _)
        · have hE := condF hc12 hE
          try dsimp only at hc12
          refine AWp.exit ?_
          exact hK2 _ y9_l0 (Weak.to (by repeat (first | exact Keeps.nil | refine Keeps.c rfl rfl ?_ | refine Keeps.c (by (first | (first | rfl | ((conv => lhs; whnf); first | (simp [cellsA, faultsT, faultsD, namesD, Fault.mk_c, Nat.add_assoc, empty_append, Bool.and_assoc]; done) | (simp [cellsA, faultsT, faultsD, namesD, Nat.add_assoc, empty_append, Bool.and_assoc]; repeat (first | rfl | constructor)))) | rfl | (simp only [get_same, ev]; done) | (simp [*, cellsA]; done) | (show V.a (A.d (D.slice _ _ _ _)) = V.a (A.d (D.slice _ _ _ _)); simp [*, cellsA]; done))) rfl ?_)) (by repeat (first | exact Pfx.nil | apply Pfx.cons)) (by first | rfl | (first | rfl | (simp only [Heap.set_set, List.length_append, List.length_nil, List.length_cons, List.length_map, List.length_singleton, Nat.zero_add]; done) | (simp [Heap.set_set, Nat.add_assoc]; done)) | (((funext n; simp only [Heap.set]; (repeat' split) <;> simp_all)) <;> first | rfl | exact ⟨rfl, rfl⟩))) hE
  · rintro y3_l0 hE
    try dsimp only at hE
    unfold schema_FieldOf_j2 at hE
    refine AWp.seqK fun K4 hK4 => ?_
    refine AWp.region ?_
    refine AOps.s0 (Cert.build Try.tab_ok rfl rfl rfl rfl rfl rfl) rfl ?_
    refine AOps.sLn (Cert.storeLF (Try.tab_ok _ _ rfl) rfl rfl rfl rfl rfl (by repeat (first | exact SetAt.zero | apply SetAt.succ))) ?_
    refine AOps.s0 (Cert.assign (by conv => lhs; whnf)) rfl ?_
    refine AOps.nil ?_
    refine hK4 _ ?_
    clear hK4 K4
    refine AWp.ret ?_
    repeat (first | refine xBlock_ret ?_ | refine xThen_ret ?_)
    obtain rfl := Option.some.inj hE
    refine retQ.retF H rfl ⟨rfl, rfl⟩ ?_
    exact (fun _ _ h => h)
end Go.Proofs
