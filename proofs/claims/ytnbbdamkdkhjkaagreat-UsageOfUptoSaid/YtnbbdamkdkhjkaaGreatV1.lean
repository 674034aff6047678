import Derived.Test.YtnbbdamkdkhjkaaGreatE3
import Derived.Test.YtnbbdamkdkhjkaaGreatTab
set_option maxRecDepth 100000
set_option maxHeartbeats 2000000
set_option linter.unusedVariables false
set_option linter.unusedSimpArgs false
namespace Go.Proofs
open Go Go.Ab
inductive TValue where
 | mk (FKind : Int) (FInt : Int) (FText : Bs) (FItems_nl : Bool) (FItems_l : List TValue) (FKeys : (Sl Bs))
def TValue.FKind : TValue → Int | .mk x _ _ _ _ _ => x
def TValue.FInt : TValue → Int | .mk _ x _ _ _ _ => x
def TValue.FText : TValue → Bs | .mk _ _ x _ _ _ => x
def TValue.FItems : TValue → (Sl TValue) | .mk _ _ _ nl l _ => ⟨nl, l⟩
def TValue.FKeys : TValue → (Sl Bs) | .mk _ _ _ _ _ x => x
noncomputable def TValue.FItemsD : TValue → D := @TValue.rec (fun _ => D) (fun _ => List (List D)) (fun _ _ _ nl _ _ ih => .slice 5 none nl ih) [] (fun v _ ih ihl => ((intE .i64) v.FKind ++ (intE .i64) v.FInt ++ strE v.FText ++ [ih] ++ (fun s => [Sl.d 1 strE none s]) v.FKeys) :: ihl)
noncomputable def TValue.c (v : TValue) : List D := (intE .i64) v.FKind ++ (intE .i64) v.FInt ++ strE v.FText ++ [v.FItemsD] ++ (fun s => [Sl.d 1 strE none s]) v.FKeys
theorem TValue.FItemsD_eq (v : TValue) : v.FItemsD = Sl.d 5 TValue.c none v.FItems := by
 cases v with
 | mk y_Kind y_Int y_Text nl l y_Keys =>
  show D.slice 5 none nl _ = D.slice 5 none nl (l.map TValue.c)
  congr 1
  induction l with
  | nil => rfl
  | cons a r ih => exact congrArg (TValue.c a :: ·) ih
def TValue.zero : TValue := .mk (0 : Int) (0 : Int) ([] : Bs) true [] (Sl.nil : Sl Bs)
structure TArg where
 FName : Bs
 FValue : TValue
noncomputable def TArg.c (x : TArg) : List D := strE x.FName ++ TValue.c x.FValue
def TArg.zero : TArg := ⟨([] : Bs), TValue.zero⟩
structure TDir where
 FName : Bs
 FArgs : (Sl TArg)
noncomputable def TDir.c (x : TDir) : List D := [.str x.FName, Sl.d 6 TArg.c none x.FArgs]
def TDir.zero : TDir := ⟨([] : Bs), (Sl.nil : Sl TArg)⟩
structure TRef where
 FName : Bs
 FWraps : (Sl Int)
noncomputable def TRef.c (x : TRef) : List D := [.str x.FName, Sl.d 1 (intE .i64) none x.FWraps]
def TRef.zero : TRef := ⟨([] : Bs), (Sl.nil : Sl Int)⟩
structure TInput where
 FName : Bs
 FType : TRef
 FHas : Bool
 FDefault : TValue
 FDirs : (Sl TDir)
noncomputable def TInput.c (x : TInput) : List D := strE x.FName ++ TRef.c x.FType ++ boolE x.FHas ++ TValue.c x.FDefault ++ (fun s => [Sl.d 2 TDir.c none s]) x.FDirs
def TInput.zero : TInput := ⟨([] : Bs), TRef.zero, false, TValue.zero, (Sl.nil : Sl TDir)⟩
structure TField where
 FName : Bs
 FArgs : (Sl TInput)
 FType : TRef
 FDirs : (Sl TDir)
noncomputable def TField.c (x : TField) : List D := strE x.FName ++ (fun s => [Sl.d 10 TInput.c none s]) x.FArgs ++ TRef.c x.FType ++ (fun s => [Sl.d 2 TDir.c none s]) x.FDirs
def TField.zero : TField := ⟨([] : Bs), (Sl.nil : Sl TInput), TRef.zero, (Sl.nil : Sl TDir)⟩
structure TMember where
 FName : Bs
 FDirs : (Sl TDir)
noncomputable def TMember.c (x : TMember) : List D := [.str x.FName, Sl.d 2 TDir.c none x.FDirs]
def TMember.zero : TMember := ⟨([] : Bs), (Sl.nil : Sl TDir)⟩
structure TDef where
 FKind : Int
 FName : Bs
 FImplements : (Sl Bs)
 FDirs : (Sl TDir)
 FFields : (Sl TField)
 FMembers : (Sl TMember)
 FInputs : (Sl TInput)
noncomputable def TDef.c (x : TDef) : List D := [.int .i64 x.FKind, .str x.FName, Sl.d 1 strE none x.FImplements, Sl.d 2 TDir.c none x.FDirs, Sl.d 5 TField.c none x.FFields, Sl.d 2 TMember.c none x.FMembers, Sl.d 10 TInput.c none x.FInputs]
def TDef.zero : TDef := ⟨(0 : Int), ([] : Bs), (Sl.nil : Sl Bs), (Sl.nil : Sl TDir), (Sl.nil : Sl TField), (Sl.nil : Sl TMember), (Sl.nil : Sl TInput)⟩
structure TDoc where
 FDefs : (Sl TDef)
noncomputable def TDoc.c (x : TDoc) : List D := [Sl.d 7 TDef.c none x.FDefs]
def TDoc.zero : TDoc := ⟨(Sl.nil : Sl TDef)⟩
structure TVar where
 FName : Bs
 FType : TRef
 FHas : Bool
 FDefault : TValue
noncomputable def TVar.c (x : TVar) : List D := strE x.FName ++ TRef.c x.FType ++ boolE x.FHas ++ TValue.c x.FDefault
def TVar.zero : TVar := ⟨([] : Bs), TRef.zero, false, TValue.zero⟩
inductive TSel where
 | mk (FKind : Int) (FAlias : Bs) (FName : Bs) (FOn : Bs) (FArgs : (Sl TArg)) (FDirs : (Sl TDir)) (FSels_nl : Bool) (FSels_l : List TSel)
def TSel.FKind : TSel → Int | .mk x _ _ _ _ _ _ _ => x
def TSel.FAlias : TSel → Bs | .mk _ x _ _ _ _ _ _ => x
def TSel.FName : TSel → Bs | .mk _ _ x _ _ _ _ _ => x
def TSel.FOn : TSel → Bs | .mk _ _ _ x _ _ _ _ => x
def TSel.FArgs : TSel → (Sl TArg) | .mk _ _ _ _ x _ _ _ => x
def TSel.FDirs : TSel → (Sl TDir) | .mk _ _ _ _ _ x _ _ => x
def TSel.FSels : TSel → (Sl TSel) | .mk _ _ _ _ _ _ nl l => ⟨nl, l⟩
noncomputable def TSel.FSelsD : TSel → D := @TSel.rec (fun _ => D) (fun _ => List (List D)) (fun _ _ _ _ _ _ nl _ ih => .slice 7 none nl ih) [] (fun v _ ih ihl => ((intE .i64) v.FKind ++ strE v.FAlias ++ strE v.FName ++ strE v.FOn ++ (fun s => [Sl.d 6 TArg.c none s]) v.FArgs ++ (fun s => [Sl.d 2 TDir.c none s]) v.FDirs ++ [ih]) :: ihl)
noncomputable def TSel.c (v : TSel) : List D := (intE .i64) v.FKind ++ strE v.FAlias ++ strE v.FName ++ strE v.FOn ++ (fun s => [Sl.d 6 TArg.c none s]) v.FArgs ++ (fun s => [Sl.d 2 TDir.c none s]) v.FDirs ++ [v.FSelsD]
theorem TSel.FSelsD_eq (v : TSel) : v.FSelsD = Sl.d 7 TSel.c none v.FSels := by
 cases v with
 | mk y_Kind y_Alias y_Name y_On y_Args y_Dirs nl l =>
  show D.slice 7 none nl _ = D.slice 7 none nl (l.map TSel.c)
  congr 1
  induction l with
  | nil => rfl
  | cons a r ih => exact congrArg (TSel.c a :: ·) ih
def TSel.zero : TSel := .mk (0 : Int) ([] : Bs) ([] : Bs) ([] : Bs) (Sl.nil : Sl TArg) (Sl.nil : Sl TDir) true []
structure TOp where
 FKind : Int
 FName : Bs
 FVars : (Sl TVar)
 FSels : (Sl TSel)
noncomputable def TOp.c (x : TOp) : List D := [.int .i64 x.FKind, .str x.FName, Sl.d 9 TVar.c none x.FVars, Sl.d 7 TSel.c none x.FSels]
def TOp.zero : TOp := ⟨(0 : Int), ([] : Bs), (Sl.nil : Sl TVar), (Sl.nil : Sl TSel)⟩
structure TFrag where
 FName : Bs
 FOn : Bs
 FSels : (Sl TSel)
noncomputable def TFrag.c (x : TFrag) : List D := [.str x.FName, .str x.FOn, Sl.d 7 TSel.c none x.FSels]
def TFrag.zero : TFrag := ⟨([] : Bs), ([] : Bs), (Sl.nil : Sl TSel)⟩
structure TQuery where
 FOps : (Sl TOp)
 FFrags : (Sl TFrag)
noncomputable def TQuery.c (x : TQuery) : List D := [Sl.d 4 TOp.c none x.FOps, Sl.d 3 TFrag.c none x.FFrags]
def TQuery.zero : TQuery := ⟨(Sl.nil : Sl TOp), (Sl.nil : Sl TFrag)⟩
structure TUse where
 FType : Bs
 FField : Bs
 FArg : Bs
 FCount : Int
def TUse.c (x : TUse) : List D := [.str x.FType, .str x.FField, .str x.FArg, .int .i64 x.FCount]
def TUse.zero : TUse := ⟨([] : Bs), ([] : Bs), ([] : Bs), (0 : Int)⟩
structure Usage_recorder where
 Fd : TDoc
 Fq : TQuery
 Fout : (Sl TUse)
noncomputable def Usage_recorder.c (x : Usage_recorder) : List D := TDoc.c x.Fd ++ TQuery.c x.Fq ++ (fun s => [Sl.d 4 TUse.c none s]) x.Fout
def Usage_recorder.zero : Usage_recorder := ⟨TDoc.zero, TQuery.zero, (Sl.nil : Sl TUse)⟩
noncomputable def Usage_recorder.cg (t2 : Option Nat) (x : Usage_recorder) : List D := TDoc.c x.Fd ++ TQuery.c x.Fq ++ [Sl.d 4 TUse.c t2 x.Fout]
end Go.Proofs

namespace Go.Proofs
open Go Go.Ab Go.RowKit
section
variable {H : Type} {B : DataW H → Nat} (hB : Bulk B)
noncomputable def TValue.sz : TValue → Nat := @TValue.rec (fun _ => Nat) (fun _ => Nat) (fun y_Kind y_Int y_Text nl l y_Keys ih => (fun _ => 1) y_Kind + ((fun _ => 1) y_Int + (Bs.sz y_Text + ((1 + ih) + ((Sl.sz Bs.sz) y_Keys + (0)))))) 0 (fun _ _ ih ihl => ih + ihl)
noncomputable def TValue.szL : List TValue → Nat := @TValue.rec_1 (fun _ => Nat) (fun _ => Nat) (fun y_Kind y_Int y_Text nl l y_Keys ih => (fun _ => 1) y_Kind + ((fun _ => 1) y_Int + (Bs.sz y_Text + ((1 + ih) + ((Sl.sz Bs.sz) y_Keys + (0)))))) 0 (fun _ _ ih ihl => ih + ihl)
theorem TValue.szL_eq (l : List TValue) : TValue.szL l = (l.map TValue.sz).sum := by
 induction l with
 | nil => rfl
 | cons a r ih => exact congrArg (TValue.sz a + ·) ih
theorem TValue.sz_eq (x : TValue) : x.sz = (fun _ => 1) x.FKind + ((fun _ => 1) x.FInt + (Bs.sz x.FText + ((Sl.sz TValue.sz) x.FItems + ((Sl.sz Bs.sz) x.FKeys + (0))))) := by
 cases x with
 | mk y_Kind y_Int y_Text nl l y_Keys =>
  show (fun _ => 1) y_Kind + ((fun _ => 1) y_Int + (Bs.sz y_Text + ((1 + TValue.szL l) + ((Sl.sz Bs.sz) y_Keys + (0))))) = _
  rw [TValue.szL_eq]; rfl
def TValue.wf : TValue → Prop := @TValue.rec (fun _ => Prop) (fun _ => Prop) (fun y_Kind y_Int y_Text nl l y_Keys ih => i64 y_Kind ∧ (i64 y_Int ∧ ((fun _ => True) y_Text ∧ (((nl = true → l = []) ∧ l.length ≤ maxN ∧ ih) ∧ ((Sl.wf (fun _ => True)) y_Keys ∧ (True)))))) True (fun _ _ ih ihl => ih ∧ ihl)
def TValue.wfL : List TValue → Prop := @TValue.rec_1 (fun _ => Prop) (fun _ => Prop) (fun y_Kind y_Int y_Text nl l y_Keys ih => i64 y_Kind ∧ (i64 y_Int ∧ ((fun _ => True) y_Text ∧ (((nl = true → l = []) ∧ l.length ≤ maxN ∧ ih) ∧ ((Sl.wf (fun _ => True)) y_Keys ∧ (True)))))) True (fun _ _ ih ihl => ih ∧ ihl)
theorem TValue.wfL_iff (l : List TValue) : TValue.wfL l ↔ ∀ x ∈ l, TValue.wf x := by
 induction l with
 | nil => exact ⟨fun _ _ h => (by cases h), fun _ => trivial⟩
 | cons a r ih =>
  show (TValue.wf a ∧ TValue.wfL r) ↔ _
  rw [ih]; simp
theorem TValue.wf_iff (x : TValue) : x.wf ↔ i64 x.FKind ∧ (i64 x.FInt ∧ ((fun _ => True) x.FText ∧ ((Sl.wf TValue.wf) x.FItems ∧ ((Sl.wf (fun _ => True)) x.FKeys ∧ (True))))) := by
 cases x with
 | mk y_Kind y_Int y_Text nl l y_Keys =>
  show (i64 y_Kind ∧ (i64 y_Int ∧ ((fun _ => True) y_Text ∧ (((nl = true → l = []) ∧ l.length ≤ maxN ∧ TValue.wfL l) ∧ ((Sl.wf (fun _ => True)) y_Keys ∧ (True)))))) ↔ _
  rw [TValue.wfL_iff]; exact Iff.rfl
include hB in
theorem rd_TValue_70 : ∀ N, RdN Tryz.prog B N 70 TValue.c TValue.sz TValue.wf := by
 have key : ∀ N M, M ≤ N → RdN Tryz.prog B M 70 TValue.c TValue.sz TValue.wf := by
  intro N
  induction N with
  | zero => intro M hM; rw [Nat.le_zero.1 hM]; exact .zero
  | succ N ih =>
   intro M hM
   cases M with
   | zero => exact .zero
   | succ N_ =>
    have hit : RdN Tryz.prog B N_ 68 (fun s : Sl TValue => [Sl.d 5 TValue.c none s]) (Sl.sz TValue.sz) (Sl.wf TValue.wf) := by
     cases N_ with
     | zero => exact .zero
     | succ M => exact RdS.sliceN hB (Tryz.tab_ok 68 _ rfl) rfl (Tryz.tab_ok 70 _ rfl) rfl (by decide) (fun _ => rfl) (ih M (by omega))
    refine RdN.struct hB (Tryz.tab_ok 70 _ rfl) rfl (RdP.cons (n := 5) (o := 0) (o' := 1) (Tryz.tab_ok 3 _ rfl) rfl ((RdS.int hB (Tryz.tab_ok 3 _ rfl) rfl) N_) (RdP.cons (n := 5) (o := 1) (o' := 2) (Tryz.tab_ok 3 _ rfl) rfl ((RdS.int hB (Tryz.tab_ok 3 _ rfl) rfl) N_) (RdP.cons (n := 5) (o := 2) (o' := 3) (Tryz.tab_ok 9 _ rfl) rfl ((RdS.str hB (Tryz.tab_ok 9 _ rfl) rfl) N_) (RdP.cons (n := 5) (o := 3) (o' := 4) (Tryz.tab_ok 68 _ rfl) rfl hit (RdP.cons (n := 5) (o := 4) (o' := 5) (Tryz.tab_ok 44 _ rfl) rfl ((RdS.slice hB (Tryz.tab_ok 44 _ rfl) rfl (Tryz.tab_ok 9 _ rfl) rfl (by decide) (fun _ => rfl) (RdS.str hB (Tryz.tab_ok 9 _ rfl) rfl)) N_) (RdP.nil (n := 5))))))) (fun a => TValue.mk a.1 a.2.1 a.2.2.1 a.2.2.2.1.nl a.2.2.2.1.l a.2.2.2.2.1) (fun a => ?_) (fun a => by rw [TValue.sz_eq]; exact Nat.le_refl _) (fun a h => by rw [TValue.wf_iff]; exact h)
    unfold TValue.c
    rw [TValue.FItemsD_eq]
    rfl
 exact fun N => key N N (Nat.le_refl _)
noncomputable def TArg.sz (x : TArg) : Nat := Bs.sz x.FName + (TValue.sz x.FValue + (0))
def TArg.wf (x : TArg) : Prop := (fun _ => True) x.FName ∧ (TValue.wf x.FValue ∧ (True))
include hB in
theorem rd_TArg_121 : ∀ N, RdN Tryz.prog B N 121 TArg.c TArg.sz TArg.wf := RdA.struct hB (Tryz.tab_ok 121 _ rfl) rfl (fun N_ => (RdP.cons (n := 6) (o := 0) (o' := 1) (Tryz.tab_ok 9 _ rfl) rfl ((RdS.str hB (Tryz.tab_ok 9 _ rfl) rfl) N_) (RdP.cons (n := 6) (o := 1) (o' := 6) (Tryz.tab_ok 70 _ rfl) rfl ((rd_TValue_70 hB) N_) (RdP.nil (n := 6))))) (fun a => (⟨a.1, a.2.1⟩ : TArg)) (fun _ => rfl) (fun _ => Nat.le_refl _) (fun _ h => h)
noncomputable def TDir.sz (x : TDir) : Nat := Bs.sz x.FName + ((Sl.sz TArg.sz) x.FArgs + (0))
def TDir.wf (x : TDir) : Prop := (fun _ => True) x.FName ∧ ((Sl.wf TArg.wf) x.FArgs ∧ (True))
include hB in
theorem rd_TDir_168 : ∀ N, RdN Tryz.prog B N 168 TDir.c TDir.sz TDir.wf := RdA.struct hB (Tryz.tab_ok 168 _ rfl) rfl (fun N_ => (RdP.cons (n := 2) (o := 0) (o' := 1) (Tryz.tab_ok 9 _ rfl) rfl ((RdS.str hB (Tryz.tab_ok 9 _ rfl) rfl) N_) (RdP.cons (n := 2) (o := 1) (o' := 2) (Tryz.tab_ok 104 _ rfl) rfl ((RdS.slice hB (Tryz.tab_ok 104 _ rfl) rfl (Tryz.tab_ok 121 _ rfl) rfl (by decide) (fun _ => rfl) (rd_TArg_121 hB)) N_) (RdP.nil (n := 2))))) (fun a => (⟨a.1, a.2.1⟩ : TDir)) (fun _ => rfl) (fun _ => Nat.le_refl _) (fun _ h => h)
noncomputable def TRef.sz (x : TRef) : Nat := Bs.sz x.FName + ((Sl.sz (fun _ => 1)) x.FWraps + (0))
def TRef.wf (x : TRef) : Prop := (fun _ => True) x.FName ∧ ((Sl.wf i64) x.FWraps ∧ (True))
include hB in
theorem rd_TRef_67 : ∀ N, RdN Tryz.prog B N 67 TRef.c TRef.sz TRef.wf := RdA.struct hB (Tryz.tab_ok 67 _ rfl) rfl (fun N_ => (RdP.cons (n := 2) (o := 0) (o' := 1) (Tryz.tab_ok 9 _ rfl) rfl ((RdS.str hB (Tryz.tab_ok 9 _ rfl) rfl) N_) (RdP.cons (n := 2) (o := 1) (o' := 2) (Tryz.tab_ok 65 _ rfl) rfl ((RdS.slice hB (Tryz.tab_ok 65 _ rfl) rfl (Tryz.tab_ok 3 _ rfl) rfl (by decide) (fun _ => rfl) (RdS.int hB (Tryz.tab_ok 3 _ rfl) rfl)) N_) (RdP.nil (n := 2))))) (fun a => (⟨a.1, a.2.1⟩ : TRef)) (fun _ => rfl) (fun _ => Nat.le_refl _) (fun _ h => h)
noncomputable def TInput.sz (x : TInput) : Nat := Bs.sz x.FName + (TRef.sz x.FType + ((fun _ => 1) x.FHas + (TValue.sz x.FDefault + ((Sl.sz TDir.sz) x.FDirs + (0)))))
def TInput.wf (x : TInput) : Prop := (fun _ => True) x.FName ∧ (TRef.wf x.FType ∧ ((fun _ => True) x.FHas ∧ (TValue.wf x.FDefault ∧ ((Sl.wf TDir.wf) x.FDirs ∧ (True)))))
include hB in
theorem rd_TInput_117 : ∀ N, RdN Tryz.prog B N 117 TInput.c TInput.sz TInput.wf := RdA.struct hB (Tryz.tab_ok 117 _ rfl) rfl (fun N_ => (RdP.cons (n := 10) (o := 0) (o' := 1) (Tryz.tab_ok 9 _ rfl) rfl ((RdS.str hB (Tryz.tab_ok 9 _ rfl) rfl) N_) (RdP.cons (n := 10) (o := 1) (o' := 3) (Tryz.tab_ok 67 _ rfl) rfl ((rd_TRef_67 hB) N_) (RdP.cons (n := 10) (o := 3) (o' := 4) (Tryz.tab_ok 4 _ rfl) rfl ((RdS.bool hB (Tryz.tab_ok 4 _ rfl) rfl) N_) (RdP.cons (n := 10) (o := 4) (o' := 9) (Tryz.tab_ok 70 _ rfl) rfl ((rd_TValue_70 hB) N_) (RdP.cons (n := 10) (o := 9) (o' := 10) (Tryz.tab_ok 83 _ rfl) rfl ((RdS.slice hB (Tryz.tab_ok 83 _ rfl) rfl (Tryz.tab_ok 168 _ rfl) rfl (by decide) (fun _ => rfl) (rd_TDir_168 hB)) N_) (RdP.nil (n := 10)))))))) (fun a => (⟨a.1, a.2.1, a.2.2.1, a.2.2.2.1, a.2.2.2.2.1⟩ : TInput)) (fun _ => rfl) (fun _ => Nat.le_refl _) (fun _ h => h)
noncomputable def TField.sz (x : TField) : Nat := Bs.sz x.FName + ((Sl.sz TInput.sz) x.FArgs + (TRef.sz x.FType + ((Sl.sz TDir.sz) x.FDirs + (0))))
def TField.wf (x : TField) : Prop := (fun _ => True) x.FName ∧ ((Sl.wf TInput.wf) x.FArgs ∧ (TRef.wf x.FType ∧ ((Sl.wf TDir.wf) x.FDirs ∧ (True))))
include hB in
theorem rd_TField_110 : ∀ N, RdN Tryz.prog B N 110 TField.c TField.sz TField.wf := RdA.struct hB (Tryz.tab_ok 110 _ rfl) rfl (fun N_ => (RdP.cons (n := 5) (o := 0) (o' := 1) (Tryz.tab_ok 9 _ rfl) rfl ((RdS.str hB (Tryz.tab_ok 9 _ rfl) rfl) N_) (RdP.cons (n := 5) (o := 1) (o' := 2) (Tryz.tab_ok 86 _ rfl) rfl ((RdS.slice hB (Tryz.tab_ok 86 _ rfl) rfl (Tryz.tab_ok 117 _ rfl) rfl (by decide) (fun _ => rfl) (rd_TInput_117 hB)) N_) (RdP.cons (n := 5) (o := 2) (o' := 4) (Tryz.tab_ok 67 _ rfl) rfl ((rd_TRef_67 hB) N_) (RdP.cons (n := 5) (o := 4) (o' := 5) (Tryz.tab_ok 83 _ rfl) rfl ((RdS.slice hB (Tryz.tab_ok 83 _ rfl) rfl (Tryz.tab_ok 168 _ rfl) rfl (by decide) (fun _ => rfl) (rd_TDir_168 hB)) N_) (RdP.nil (n := 5))))))) (fun a => (⟨a.1, a.2.1, a.2.2.1, a.2.2.2.1⟩ : TField)) (fun _ => rfl) (fun _ => Nat.le_refl _) (fun _ h => h)
noncomputable def TMember.sz (x : TMember) : Nat := Bs.sz x.FName + ((Sl.sz TDir.sz) x.FDirs + (0))
def TMember.wf (x : TMember) : Prop := (fun _ => True) x.FName ∧ ((Sl.wf TDir.wf) x.FDirs ∧ (True))
include hB in
theorem rd_TMember_119 : ∀ N, RdN Tryz.prog B N 119 TMember.c TMember.sz TMember.wf := RdA.struct hB (Tryz.tab_ok 119 _ rfl) rfl (fun N_ => (RdP.cons (n := 2) (o := 0) (o' := 1) (Tryz.tab_ok 9 _ rfl) rfl ((RdS.str hB (Tryz.tab_ok 9 _ rfl) rfl) N_) (RdP.cons (n := 2) (o := 1) (o' := 2) (Tryz.tab_ok 83 _ rfl) rfl ((RdS.slice hB (Tryz.tab_ok 83 _ rfl) rfl (Tryz.tab_ok 168 _ rfl) rfl (by decide) (fun _ => rfl) (rd_TDir_168 hB)) N_) (RdP.nil (n := 2))))) (fun a => (⟨a.1, a.2.1⟩ : TMember)) (fun _ => rfl) (fun _ => Nat.le_refl _) (fun _ h => h)
noncomputable def TDef.sz (x : TDef) : Nat := (fun _ => 1) x.FKind + (Bs.sz x.FName + ((Sl.sz Bs.sz) x.FImplements + ((Sl.sz TDir.sz) x.FDirs + ((Sl.sz TField.sz) x.FFields + ((Sl.sz TMember.sz) x.FMembers + ((Sl.sz TInput.sz) x.FInputs + (0)))))))
def TDef.wf (x : TDef) : Prop := i64 x.FKind ∧ ((fun _ => True) x.FName ∧ ((Sl.wf (fun _ => True)) x.FImplements ∧ ((Sl.wf TDir.wf) x.FDirs ∧ ((Sl.wf TField.wf) x.FFields ∧ ((Sl.wf TMember.wf) x.FMembers ∧ ((Sl.wf TInput.wf) x.FInputs ∧ (True)))))))
include hB in
theorem rd_TDef_88 : ∀ N, RdN Tryz.prog B N 88 TDef.c TDef.sz TDef.wf := RdA.struct hB (Tryz.tab_ok 88 _ rfl) rfl (fun N_ => (RdP.cons (n := 7) (o := 0) (o' := 1) (Tryz.tab_ok 3 _ rfl) rfl ((RdS.int hB (Tryz.tab_ok 3 _ rfl) rfl) N_) (RdP.cons (n := 7) (o := 1) (o' := 2) (Tryz.tab_ok 9 _ rfl) rfl ((RdS.str hB (Tryz.tab_ok 9 _ rfl) rfl) N_) (RdP.cons (n := 7) (o := 2) (o' := 3) (Tryz.tab_ok 44 _ rfl) rfl ((RdS.slice hB (Tryz.tab_ok 44 _ rfl) rfl (Tryz.tab_ok 9 _ rfl) rfl (by decide) (fun _ => rfl) (RdS.str hB (Tryz.tab_ok 9 _ rfl) rfl)) N_) (RdP.cons (n := 7) (o := 3) (o' := 4) (Tryz.tab_ok 83 _ rfl) rfl ((RdS.slice hB (Tryz.tab_ok 83 _ rfl) rfl (Tryz.tab_ok 168 _ rfl) rfl (by decide) (fun _ => rfl) (rd_TDir_168 hB)) N_) (RdP.cons (n := 7) (o := 4) (o' := 5) (Tryz.tab_ok 84 _ rfl) rfl ((RdS.slice hB (Tryz.tab_ok 84 _ rfl) rfl (Tryz.tab_ok 110 _ rfl) rfl (by decide) (fun _ => rfl) (rd_TField_110 hB)) N_) (RdP.cons (n := 7) (o := 5) (o' := 6) (Tryz.tab_ok 85 _ rfl) rfl ((RdS.slice hB (Tryz.tab_ok 85 _ rfl) rfl (Tryz.tab_ok 119 _ rfl) rfl (by decide) (fun _ => rfl) (rd_TMember_119 hB)) N_) (RdP.cons (n := 7) (o := 6) (o' := 7) (Tryz.tab_ok 86 _ rfl) rfl ((RdS.slice hB (Tryz.tab_ok 86 _ rfl) rfl (Tryz.tab_ok 117 _ rfl) rfl (by decide) (fun _ => rfl) (rd_TInput_117 hB)) N_) (RdP.nil (n := 7)))))))))) (fun a => (⟨a.1, a.2.1, a.2.2.1, a.2.2.2.1, a.2.2.2.2.1, a.2.2.2.2.2.1, a.2.2.2.2.2.2.1⟩ : TDef)) (fun _ => rfl) (fun _ => Nat.le_refl _) (fun _ h => h)
noncomputable def TDoc.sz (x : TDoc) : Nat := (Sl.sz TDef.sz) x.FDefs + (0)
def TDoc.wf (x : TDoc) : Prop := (Sl.wf TDef.wf) x.FDefs ∧ (True)
include hB in
theorem rd_TDoc_24 : ∀ N, RdN Tryz.prog B N 24 TDoc.c TDoc.sz TDoc.wf := RdA.struct hB (Tryz.tab_ok 24 _ rfl) rfl (fun N_ => (RdP.cons (n := 1) (o := 0) (o' := 1) (Tryz.tab_ok 22 _ rfl) rfl ((RdS.slice hB (Tryz.tab_ok 22 _ rfl) rfl (Tryz.tab_ok 88 _ rfl) rfl (by decide) (fun _ => rfl) (rd_TDef_88 hB)) N_) (RdP.nil (n := 1)))) (fun a => (⟨a.1⟩ : TDoc)) (fun _ => rfl) (fun _ => Nat.le_refl _) (fun _ h => h)
noncomputable def TVar.sz (x : TVar) : Nat := Bs.sz x.FName + (TRef.sz x.FType + ((fun _ => 1) x.FHas + (TValue.sz x.FDefault + (0))))
def TVar.wf (x : TVar) : Prop := (fun _ => True) x.FName ∧ (TRef.wf x.FType ∧ ((fun _ => True) x.FHas ∧ (TValue.wf x.FDefault ∧ (True))))
include hB in
theorem rd_TVar_72 : ∀ N, RdN Tryz.prog B N 72 TVar.c TVar.sz TVar.wf := RdA.struct hB (Tryz.tab_ok 72 _ rfl) rfl (fun N_ => (RdP.cons (n := 9) (o := 0) (o' := 1) (Tryz.tab_ok 9 _ rfl) rfl ((RdS.str hB (Tryz.tab_ok 9 _ rfl) rfl) N_) (RdP.cons (n := 9) (o := 1) (o' := 3) (Tryz.tab_ok 67 _ rfl) rfl ((rd_TRef_67 hB) N_) (RdP.cons (n := 9) (o := 3) (o' := 4) (Tryz.tab_ok 4 _ rfl) rfl ((RdS.bool hB (Tryz.tab_ok 4 _ rfl) rfl) N_) (RdP.cons (n := 9) (o := 4) (o' := 9) (Tryz.tab_ok 70 _ rfl) rfl ((rd_TValue_70 hB) N_) (RdP.nil (n := 9))))))) (fun a => (⟨a.1, a.2.1, a.2.2.1, a.2.2.2.1⟩ : TVar)) (fun _ => rfl) (fun _ => Nat.le_refl _) (fun _ h => h)
noncomputable def TSel.sz : TSel → Nat := @TSel.rec (fun _ => Nat) (fun _ => Nat) (fun y_Kind y_Alias y_Name y_On y_Args y_Dirs nl l ih => (fun _ => 1) y_Kind + (Bs.sz y_Alias + (Bs.sz y_Name + (Bs.sz y_On + ((Sl.sz TArg.sz) y_Args + ((Sl.sz TDir.sz) y_Dirs + ((1 + ih) + (0)))))))) 0 (fun _ _ ih ihl => ih + ihl)
noncomputable def TSel.szL : List TSel → Nat := @TSel.rec_1 (fun _ => Nat) (fun _ => Nat) (fun y_Kind y_Alias y_Name y_On y_Args y_Dirs nl l ih => (fun _ => 1) y_Kind + (Bs.sz y_Alias + (Bs.sz y_Name + (Bs.sz y_On + ((Sl.sz TArg.sz) y_Args + ((Sl.sz TDir.sz) y_Dirs + ((1 + ih) + (0)))))))) 0 (fun _ _ ih ihl => ih + ihl)
theorem TSel.szL_eq (l : List TSel) : TSel.szL l = (l.map TSel.sz).sum := by
 induction l with
 | nil => rfl
 | cons a r ih => exact congrArg (TSel.sz a + ·) ih
theorem TSel.sz_eq (x : TSel) : x.sz = (fun _ => 1) x.FKind + (Bs.sz x.FAlias + (Bs.sz x.FName + (Bs.sz x.FOn + ((Sl.sz TArg.sz) x.FArgs + ((Sl.sz TDir.sz) x.FDirs + ((Sl.sz TSel.sz) x.FSels + (0))))))) := by
 cases x with
 | mk y_Kind y_Alias y_Name y_On y_Args y_Dirs nl l =>
  show (fun _ => 1) y_Kind + (Bs.sz y_Alias + (Bs.sz y_Name + (Bs.sz y_On + ((Sl.sz TArg.sz) y_Args + ((Sl.sz TDir.sz) y_Dirs + ((1 + TSel.szL l) + (0))))))) = _
  rw [TSel.szL_eq]; rfl
def TSel.wf : TSel → Prop := @TSel.rec (fun _ => Prop) (fun _ => Prop) (fun y_Kind y_Alias y_Name y_On y_Args y_Dirs nl l ih => i64 y_Kind ∧ ((fun _ => True) y_Alias ∧ ((fun _ => True) y_Name ∧ ((fun _ => True) y_On ∧ ((Sl.wf TArg.wf) y_Args ∧ ((Sl.wf TDir.wf) y_Dirs ∧ (((nl = true → l = []) ∧ l.length ≤ maxN ∧ ih) ∧ (True)))))))) True (fun _ _ ih ihl => ih ∧ ihl)
def TSel.wfL : List TSel → Prop := @TSel.rec_1 (fun _ => Prop) (fun _ => Prop) (fun y_Kind y_Alias y_Name y_On y_Args y_Dirs nl l ih => i64 y_Kind ∧ ((fun _ => True) y_Alias ∧ ((fun _ => True) y_Name ∧ ((fun _ => True) y_On ∧ ((Sl.wf TArg.wf) y_Args ∧ ((Sl.wf TDir.wf) y_Dirs ∧ (((nl = true → l = []) ∧ l.length ≤ maxN ∧ ih) ∧ (True)))))))) True (fun _ _ ih ihl => ih ∧ ihl)
theorem TSel.wfL_iff (l : List TSel) : TSel.wfL l ↔ ∀ x ∈ l, TSel.wf x := by
 induction l with
 | nil => exact ⟨fun _ _ h => (by cases h), fun _ => trivial⟩
 | cons a r ih =>
  show (TSel.wf a ∧ TSel.wfL r) ↔ _
  rw [ih]; simp
theorem TSel.wf_iff (x : TSel) : x.wf ↔ i64 x.FKind ∧ ((fun _ => True) x.FAlias ∧ ((fun _ => True) x.FName ∧ ((fun _ => True) x.FOn ∧ ((Sl.wf TArg.wf) x.FArgs ∧ ((Sl.wf TDir.wf) x.FDirs ∧ ((Sl.wf TSel.wf) x.FSels ∧ (True))))))) := by
 cases x with
 | mk y_Kind y_Alias y_Name y_On y_Args y_Dirs nl l =>
  show (i64 y_Kind ∧ ((fun _ => True) y_Alias ∧ ((fun _ => True) y_Name ∧ ((fun _ => True) y_On ∧ ((Sl.wf TArg.wf) y_Args ∧ ((Sl.wf TDir.wf) y_Dirs ∧ (((nl = true → l = []) ∧ l.length ≤ maxN ∧ TSel.wfL l) ∧ (True)))))))) ↔ _
  rw [TSel.wfL_iff]; exact Iff.rfl
include hB in
theorem rd_TSel_106 : ∀ N, RdN Tryz.prog B N 106 TSel.c TSel.sz TSel.wf := by
 have key : ∀ N M, M ≤ N → RdN Tryz.prog B M 106 TSel.c TSel.sz TSel.wf := by
  intro N
  induction N with
  | zero => intro M hM; rw [Nat.le_zero.1 hM]; exact .zero
  | succ N ih =>
   intro M hM
   cases M with
   | zero => exact .zero
   | succ N_ =>
    have hit : RdN Tryz.prog B N_ 40 (fun s : Sl TSel => [Sl.d 7 TSel.c none s]) (Sl.sz TSel.sz) (Sl.wf TSel.wf) := by
     cases N_ with
     | zero => exact .zero
     | succ M => exact RdS.sliceN hB (Tryz.tab_ok 40 _ rfl) rfl (Tryz.tab_ok 106 _ rfl) rfl (by decide) (fun _ => rfl) (ih M (by omega))
    refine RdN.struct hB (Tryz.tab_ok 106 _ rfl) rfl (RdP.cons (n := 7) (o := 0) (o' := 1) (Tryz.tab_ok 3 _ rfl) rfl ((RdS.int hB (Tryz.tab_ok 3 _ rfl) rfl) N_) (RdP.cons (n := 7) (o := 1) (o' := 2) (Tryz.tab_ok 9 _ rfl) rfl ((RdS.str hB (Tryz.tab_ok 9 _ rfl) rfl) N_) (RdP.cons (n := 7) (o := 2) (o' := 3) (Tryz.tab_ok 9 _ rfl) rfl ((RdS.str hB (Tryz.tab_ok 9 _ rfl) rfl) N_) (RdP.cons (n := 7) (o := 3) (o' := 4) (Tryz.tab_ok 9 _ rfl) rfl ((RdS.str hB (Tryz.tab_ok 9 _ rfl) rfl) N_) (RdP.cons (n := 7) (o := 4) (o' := 5) (Tryz.tab_ok 104 _ rfl) rfl ((RdS.slice hB (Tryz.tab_ok 104 _ rfl) rfl (Tryz.tab_ok 121 _ rfl) rfl (by decide) (fun _ => rfl) (rd_TArg_121 hB)) N_) (RdP.cons (n := 7) (o := 5) (o' := 6) (Tryz.tab_ok 83 _ rfl) rfl ((RdS.slice hB (Tryz.tab_ok 83 _ rfl) rfl (Tryz.tab_ok 168 _ rfl) rfl (by decide) (fun _ => rfl) (rd_TDir_168 hB)) N_) (RdP.cons (n := 7) (o := 6) (o' := 7) (Tryz.tab_ok 40 _ rfl) rfl hit (RdP.nil (n := 7))))))))) (fun a => TSel.mk a.1 a.2.1 a.2.2.1 a.2.2.2.1 a.2.2.2.2.1 a.2.2.2.2.2.1 a.2.2.2.2.2.2.1.nl a.2.2.2.2.2.2.1.l) (fun a => ?_) (fun a => by rw [TSel.sz_eq]; exact Nat.le_refl _) (fun a h => by rw [TSel.wf_iff]; exact h)
    unfold TSel.c
    rw [TSel.FSelsD_eq]
    rfl
 exact fun N => key N N (Nat.le_refl _)
noncomputable def TOp.sz (x : TOp) : Nat := (fun _ => 1) x.FKind + (Bs.sz x.FName + ((Sl.sz TVar.sz) x.FVars + ((Sl.sz TSel.sz) x.FSels + (0))))
def TOp.wf (x : TOp) : Prop := i64 x.FKind ∧ ((fun _ => True) x.FName ∧ ((Sl.wf TVar.wf) x.FVars ∧ ((Sl.wf TSel.wf) x.FSels ∧ (True))))
include hB in
theorem rd_TOp_42 : ∀ N, RdN Tryz.prog B N 42 TOp.c TOp.sz TOp.wf := RdA.struct hB (Tryz.tab_ok 42 _ rfl) rfl (fun N_ => (RdP.cons (n := 4) (o := 0) (o' := 1) (Tryz.tab_ok 3 _ rfl) rfl ((RdS.int hB (Tryz.tab_ok 3 _ rfl) rfl) N_) (RdP.cons (n := 4) (o := 1) (o' := 2) (Tryz.tab_ok 9 _ rfl) rfl ((RdS.str hB (Tryz.tab_ok 9 _ rfl) rfl) N_) (RdP.cons (n := 4) (o := 2) (o' := 3) (Tryz.tab_ok 39 _ rfl) rfl ((RdS.slice hB (Tryz.tab_ok 39 _ rfl) rfl (Tryz.tab_ok 72 _ rfl) rfl (by decide) (fun _ => rfl) (rd_TVar_72 hB)) N_) (RdP.cons (n := 4) (o := 3) (o' := 4) (Tryz.tab_ok 40 _ rfl) rfl ((RdS.slice hB (Tryz.tab_ok 40 _ rfl) rfl (Tryz.tab_ok 106 _ rfl) rfl (by decide) (fun _ => rfl) (rd_TSel_106 hB)) N_) (RdP.nil (n := 4))))))) (fun a => (⟨a.1, a.2.1, a.2.2.1, a.2.2.2.1⟩ : TOp)) (fun _ => rfl) (fun _ => Nat.le_refl _) (fun _ h => h)
noncomputable def TFrag.sz (x : TFrag) : Nat := Bs.sz x.FName + (Bs.sz x.FOn + ((Sl.sz TSel.sz) x.FSels + (0)))
def TFrag.wf (x : TFrag) : Prop := (fun _ => True) x.FName ∧ ((fun _ => True) x.FOn ∧ ((Sl.wf TSel.wf) x.FSels ∧ (True)))
include hB in
theorem rd_TFrag_48 : ∀ N, RdN Tryz.prog B N 48 TFrag.c TFrag.sz TFrag.wf := RdA.struct hB (Tryz.tab_ok 48 _ rfl) rfl (fun N_ => (RdP.cons (n := 3) (o := 0) (o' := 1) (Tryz.tab_ok 9 _ rfl) rfl ((RdS.str hB (Tryz.tab_ok 9 _ rfl) rfl) N_) (RdP.cons (n := 3) (o := 1) (o' := 2) (Tryz.tab_ok 9 _ rfl) rfl ((RdS.str hB (Tryz.tab_ok 9 _ rfl) rfl) N_) (RdP.cons (n := 3) (o := 2) (o' := 3) (Tryz.tab_ok 40 _ rfl) rfl ((RdS.slice hB (Tryz.tab_ok 40 _ rfl) rfl (Tryz.tab_ok 106 _ rfl) rfl (by decide) (fun _ => rfl) (rd_TSel_106 hB)) N_) (RdP.nil (n := 3)))))) (fun a => (⟨a.1, a.2.1, a.2.2.1⟩ : TFrag)) (fun _ => rfl) (fun _ => Nat.le_refl _) (fun _ h => h)
noncomputable def TQuery.sz (x : TQuery) : Nat := (Sl.sz TOp.sz) x.FOps + ((Sl.sz TFrag.sz) x.FFrags + (0))
def TQuery.wf (x : TQuery) : Prop := (Sl.wf TOp.wf) x.FOps ∧ ((Sl.wf TFrag.wf) x.FFrags ∧ (True))
include hB in
theorem rd_TQuery_28 : ∀ N, RdN Tryz.prog B N 28 TQuery.c TQuery.sz TQuery.wf := RdA.struct hB (Tryz.tab_ok 28 _ rfl) rfl (fun N_ => (RdP.cons (n := 2) (o := 0) (o' := 1) (Tryz.tab_ok 25 _ rfl) rfl ((RdS.slice hB (Tryz.tab_ok 25 _ rfl) rfl (Tryz.tab_ok 42 _ rfl) rfl (by decide) (fun _ => rfl) (rd_TOp_42 hB)) N_) (RdP.cons (n := 2) (o := 1) (o' := 2) (Tryz.tab_ok 26 _ rfl) rfl ((RdS.slice hB (Tryz.tab_ok 26 _ rfl) rfl (Tryz.tab_ok 48 _ rfl) rfl (by decide) (fun _ => rfl) (rd_TFrag_48 hB)) N_) (RdP.nil (n := 2))))) (fun a => (⟨a.1, a.2.1⟩ : TQuery)) (fun _ => rfl) (fun _ => Nat.le_refl _) (fun _ h => h)
end
theorem TValue.sz_def (x : TValue) : x.sz = 0 + 1 + 1 + Bs.sz x.FText + (Sl.sz TValue.sz) x.FItems + (Sl.sz Bs.sz) x.FKeys := by
 rw [TValue.sz_eq]; try dsimp only
 omega
theorem TValue.pos (x : TValue) : 1 ≤ x.sz := by
 rw [TValue.sz_def]; have := Bs.sz_pos x.FText; omega
theorem TArg.sz_def (x : TArg) : x.sz = 0 + Bs.sz x.FName + TValue.sz x.FValue := by
 unfold TArg.sz; try dsimp only
 omega
theorem TArg.pos (x : TArg) : 1 ≤ x.sz := by
 rw [TArg.sz_def]; have := Bs.sz_pos x.FName; omega
theorem TDir.sz_def (x : TDir) : x.sz = 0 + Bs.sz x.FName + (Sl.sz TArg.sz) x.FArgs := by
 unfold TDir.sz; try dsimp only
 omega
theorem TDir.pos (x : TDir) : 1 ≤ x.sz := by
 rw [TDir.sz_def]; have := Bs.sz_pos x.FName; omega
theorem TDir.FArgs_wf {x : TDir} (h : x.wf) : (Sl.wf TArg.wf) x.FArgs := h.2.1
theorem TRef.sz_def (x : TRef) : x.sz = 0 + Bs.sz x.FName + (Sl.sz (fun _ => 1)) x.FWraps := by
 unfold TRef.sz; try dsimp only
 omega
theorem TRef.pos (x : TRef) : 1 ≤ x.sz := by
 rw [TRef.sz_def]; have := Bs.sz_pos x.FName; omega
theorem TInput.sz_def (x : TInput) : x.sz = 0 + Bs.sz x.FName + TRef.sz x.FType + 1 + TValue.sz x.FDefault + (Sl.sz TDir.sz) x.FDirs := by
 unfold TInput.sz; try dsimp only
 omega
theorem TInput.pos (x : TInput) : 1 ≤ x.sz := by
 rw [TInput.sz_def]; have := Bs.sz_pos x.FName; omega
theorem TInput.FType_wf {x : TInput} (h : x.wf) : TRef.wf x.FType := h.2.1
theorem TField.sz_def (x : TField) : x.sz = 0 + Bs.sz x.FName + (Sl.sz TInput.sz) x.FArgs + TRef.sz x.FType + (Sl.sz TDir.sz) x.FDirs := by
 unfold TField.sz; try dsimp only
 omega
theorem TField.pos (x : TField) : 1 ≤ x.sz := by
 rw [TField.sz_def]; have := Bs.sz_pos x.FName; omega
theorem TField.FArgs_wf {x : TField} (h : x.wf) : (Sl.wf TInput.wf) x.FArgs := h.2.1
theorem TField.FType_wf {x : TField} (h : x.wf) : TRef.wf x.FType := h.2.2.1
theorem TMember.sz_def (x : TMember) : x.sz = 0 + Bs.sz x.FName + (Sl.sz TDir.sz) x.FDirs := by
 unfold TMember.sz; try dsimp only
 omega
theorem TMember.pos (x : TMember) : 1 ≤ x.sz := by
 rw [TMember.sz_def]; have := Bs.sz_pos x.FName; omega
theorem TDef.sz_def (x : TDef) : x.sz = 0 + 1 + Bs.sz x.FName + (Sl.sz Bs.sz) x.FImplements + (Sl.sz TDir.sz) x.FDirs + (Sl.sz TField.sz) x.FFields + (Sl.sz TMember.sz) x.FMembers + (Sl.sz TInput.sz) x.FInputs := by
 unfold TDef.sz; try dsimp only
 omega
theorem TDef.pos (x : TDef) : 1 ≤ x.sz := by
 rw [TDef.sz_def]; have := Bs.sz_pos x.FName; omega
theorem TDef.FFields_wf {x : TDef} (h : x.wf) : (Sl.wf TField.wf) x.FFields := h.2.2.2.2.1
theorem TDef.FInputs_wf {x : TDef} (h : x.wf) : (Sl.wf TInput.wf) x.FInputs := h.2.2.2.2.2.2.1
theorem TDoc.sz_def (x : TDoc) : x.sz = 0 + (Sl.sz TDef.sz) x.FDefs := by
 unfold TDoc.sz; try dsimp only
 omega
theorem TDoc.pos (x : TDoc) : 1 ≤ x.sz := by
 rw [TDoc.sz_def]; have := Sl.sz_pos TDef.sz x.FDefs; omega
theorem TDoc.FDefs_wf {x : TDoc} (h : x.wf) : (Sl.wf TDef.wf) x.FDefs := h.1
theorem TVar.sz_def (x : TVar) : x.sz = 0 + Bs.sz x.FName + TRef.sz x.FType + 1 + TValue.sz x.FDefault := by
 unfold TVar.sz; try dsimp only
 omega
theorem TVar.pos (x : TVar) : 1 ≤ x.sz := by
 rw [TVar.sz_def]; have := Bs.sz_pos x.FName; omega
theorem TVar.FType_wf {x : TVar} (h : x.wf) : TRef.wf x.FType := h.2.1
theorem TSel.sz_def (x : TSel) : x.sz = 0 + 1 + Bs.sz x.FAlias + Bs.sz x.FName + Bs.sz x.FOn + (Sl.sz TArg.sz) x.FArgs + (Sl.sz TDir.sz) x.FDirs + (Sl.sz TSel.sz) x.FSels := by
 rw [TSel.sz_eq]; try dsimp only
 omega
theorem TSel.pos (x : TSel) : 1 ≤ x.sz := by
 rw [TSel.sz_def]; have := Bs.sz_pos x.FAlias; omega
theorem TSel.FArgs_wf {x : TSel} (h : x.wf) : (Sl.wf TArg.wf) x.FArgs := ((TSel.wf_iff x).1 h).2.2.2.2.1
theorem TOp.sz_def (x : TOp) : x.sz = 0 + 1 + Bs.sz x.FName + (Sl.sz TVar.sz) x.FVars + (Sl.sz TSel.sz) x.FSels := by
 unfold TOp.sz; try dsimp only
 omega
theorem TOp.pos (x : TOp) : 1 ≤ x.sz := by
 rw [TOp.sz_def]; have := Bs.sz_pos x.FName; omega
theorem TOp.FVars_wf {x : TOp} (h : x.wf) : (Sl.wf TVar.wf) x.FVars := h.2.2.1
theorem TFrag.sz_def (x : TFrag) : x.sz = 0 + Bs.sz x.FName + Bs.sz x.FOn + (Sl.sz TSel.sz) x.FSels := by
 unfold TFrag.sz; try dsimp only
 omega
theorem TFrag.pos (x : TFrag) : 1 ≤ x.sz := by
 rw [TFrag.sz_def]; have := Bs.sz_pos x.FName; omega
theorem TQuery.sz_def (x : TQuery) : x.sz = 0 + (Sl.sz TOp.sz) x.FOps + (Sl.sz TFrag.sz) x.FFrags := by
 unfold TQuery.sz; try dsimp only
 omega
theorem TQuery.pos (x : TQuery) : 1 ≤ x.sz := by
 rw [TQuery.sz_def]; have := Sl.sz_pos TOp.sz x.FOps; omega
theorem TQuery.FOps_wf {x : TQuery} (h : x.wf) : (Sl.wf TOp.wf) x.FOps := h.1
end Go.Proofs

namespace Go.Proofs
open Go Go.Ab
open AOps Cert AWp
def Z51_j8  (s3_9 : Int) : Option Bool := some (decide ((1000 : Int) < s3_9))
def Z51_j19 (s4_14 : Nat) (k_next_12 : Int → Nat → Option Bool) (s3_20 : Int) : Option Bool := k_next_12 s3_20 (s4_14 + 1)
def Z51_l36 (s4_14 : Nat) (x22 : TDef) (k_next_12 : Int → Nat → Option Bool) : Nat → Int → Nat → Option Bool
 | 0, _, _ => none
 | n36 + 1, s3_37, s6_38 => bif (decide (((s6_38 : Nat) : Int) < ((x22.FFields.l.length : Nat) : Int))) then ((x22.FFields.l[s6_38]?).bind fun x44 => (x22.FFields.l[s6_38]?).bind fun x45 => (addC ((x44.FArgs.l.length : Nat) : Int) ((x45.FDirs.l.length : Nat) : Int)).bind fun x46 => (addC s3_37 x46).bind fun x47 => (Z51_l36 s4_14 x22 k_next_12 n36) x47 (s6_38 + 1)) else (Z51_j19 s4_14 k_next_12 s3_37)
def Z51_l12 (a0 : TDoc)  : Nat → Int → Nat → Option Bool
 | 0, _, _ => none
 | n12 + 1, s3_13, s4_14 => bif (decide (((s4_14 : Nat) : Int) < ((a0.FDefs.l.length : Nat) : Int))) then ((a0.FDefs.l[s4_14]?).bind fun x22 => (addC (1 : Int) ((x22.FFields.l.length : Nat) : Int)).bind fun x25 => (addC x25 ((x22.FMembers.l.length : Nat) : Int)).bind fun x27 => (addC x27 ((x22.FInputs.l.length : Nat) : Int)).bind fun x29 => (addC x29 ((x22.FDirs.l.length : Nat) : Int)).bind fun x31 => (addC x31 ((x22.FImplements.l.length : Nat) : Int)).bind fun x33 => (addC s3_13 x33).bind fun x34 => Z51_l36 s4_14 x22 ((Z51_l12 a0 n12)) (x22.FFields.l.length + 1) x34 0) else (Z51_j8   s3_13)
def Z51 (a0 : TDoc) : Option Bool := bif (decide ((70 : Int) < ((a0.FDefs.l.length : Nat) : Int))) then (some true) else (Z51_l12 a0 (a0.FDefs.l.length + 1) (0 : Int) 0)
theorem Z51_walk {a0 : TDoc}   {r : Bool} (hE : Z51 a0 = some r) (H : Heap)  : ACalls Tryz.prog 18 [.agg (TDoc.c a0)] H fun v h' => v = .a (.d (.bool r)) ∧ h' = H := by
 unfold Z51 at hE
 refine ACalls.of_wp (fn := Tryz.f18) (c := _) Tryz.tab_ok (fun _ _ => Tryz.call18 _ _) Tryz.func18 rfl (n := 71) rfl (rs := [.tmp 2]) rfl rfl ?_
 refine seqK fun K1 hK1 => ?_
 refine region ?_
 refine s0 (boxV rfl) rfl ?_
 refine s0 assignA rfl ?_
 refine nil ?_
 refine hK1 _ ?_
 clear hK1 K1
 refine seqK fun K2 hK2 => ?_
 refine seqK fun K3 hK3 => ?_
 refine region ?_
 refine s0 (fieldVA (TK rfl) rfl rfl (TK rfl) rfl rfl) rfl ?_
 refine s0 (loadV (TK rfl) rfl rfl rfl) rfl ?_
 refine sLen (f := TDef.c) (s := a0.FDefs) (TK rfl) rfl rfl rfl rfl fun hL4 => ?_
 refine s0 (binI rfl rfl rfl) rfl ?_
 refine nil ?_
 refine hK3 _ ?_
 clear hK3 K3
 refine condE hE rfl (fun hc5 hE => ?_) (fun hc5 hE => ?_)
 ·refine seqK fun K6 hK6 => ?_
  refine region ?_
  refine s0 assignA rfl ?_
  refine nil ?_
  refine hK6 _ ?_
  clear hK6 K6
  refine AWp.ret ?_
  repeat (first | refine xBlock_ret ?_ | refine xThen_ret ?_)
  obtain rfl := Option.some.inj hE
  refine retQ.retF H rfl ⟨rfl, rfl⟩ ?_
  exact (fun _ _ h => h)
 refine AWp.skip ?_
 refine hK2 _ ?_
 clear hK2 K2
 refine seqK fun K7 hK7 => ?_
 refine region ?_
 refine s0 assignA rfl ?_
 refine nil ?_
 refine hK7 _ ?_
 clear hK7 K7
 refine seqJH KeepsT.nil (fun (z : Int) => [(3, .a (.d (.int .i64 z)))]) (fun z => H) (fun z => Z51_j8 z = some r) ?_ ?_
 ·intro K8 hK8
  refine seqK fun K11 hK11 => ?_
  refine region ?_
  refine s0 assignA rfl ?_
  refine nil ?_
  refine hK11 _ ?_
  clear hK11 K11
  refine block ?_
  refine loopH (KeepsT.A (k := 1) KeepsT.nil) (fun (z : Nat × Int × Nat) => [(3, .a (.d (.int .i64 z.2.1))), (4, .a (.d (.int .i64 ((z.2.2 : Nat) : Int))))]) (fun z => H) (fun z => z.1) (fun z => Z51_l12 a0 z.1 z.2.1 z.2.2 = some r) ((a0.FDefs.l.length + 1), (0 : Int), 0) hE Weak.toA ?_
  rintro ⟨n12, s3_13, s4_14⟩ hE K12 hK12
  try dsimp only at hE
  cases n12 with
  | zero => cases hE
  | succ n12 =>
    rw [Z51_l12] at hE
    refine seqK fun K15 hK15 => ?_
    refine seqK fun K16 hK16 => ?_
    refine region ?_
    refine s0 moveA rfl ?_
    refine s0 (fieldVA (TK rfl) rfl rfl (TK rfl) rfl rfl) rfl ?_
    refine s0 (loadV (TK rfl) rfl rfl rfl) rfl ?_
    refine sLen (f := TDef.c) (s := a0.FDefs) (TK rfl) rfl rfl rfl rfl fun hL17 => ?_
    refine s0 (binI rfl rfl rfl) rfl ?_
    refine nil ?_
    refine hK16 _ ?_
    clear hK16 K16
    refine condE hE rfl (fun hc18 hE => ?_) (fun hc18 hE => ?_)
    ·try dsimp only at hc18
     have hf18 := of_decide_eq_true hc18
     refine AWp.skip ?_
     refine hK15 _ ?_
     clear hK15 K15
     refine seqJH (KeepsT.A (k := 1) (KeepsT.A (k := 4) KeepsT.nil)) (fun (z : Int) => [(3, .a (.d (.int .i64 z)))]) (fun z => H) (fun z => Z51_j19 s4_14 ((Z51_l12 a0 n12)) z = some r) ?_ ?_
     ·intro K19 hK19
      refine block ?_
      refine seqK fun K21 hK21 => ?_
      refine region ?_
      refine s0 (fieldVA (TK rfl) rfl rfl (TK rfl) rfl rfl) rfl ?_
      refine s0 (loadV (TK rfl) rfl rfl rfl) rfl ?_
      refine s0 moveA rfl ?_
      obtain ⟨x22, gx22, hE⟩ := bindO_some hE
      refine s0 (idxMn (f := TDef.c) (n := s4_14) (TK rfl) rfl (TK rfl) rfl rfl rfl gx22) rfl ?_
      refine s0 (loadV (TK rfl) rfl rfl rfl) rfl ?_
      refine sL (allocLA (TK rfl) rfl) rfl ?_
      refine sLn (storeLFA (TK rfl) rfl rfl rfl rfl rfl) ?_
      refine nil ?_
      refine hK21 _ ?_
      clear hK21 K21
      refine freezeA 5 _ rfl (Keeps.c (k := 1) (by conv => lhs; whnf) (by rfl) (Keeps.c (k := 3) (by conv => lhs; whnf) (by rfl) (Keeps.c (k := 4) (by conv => lhs; whnf) (by rfl) Keeps.nil))) ?_
      refine seqK fun K23 hK23 => ?_
      refine region ?_
      refine s0 moveA rfl ?_
      refine s0 (fieldVA (TK rfl) rfl rfl (TK rfl) rfl rfl) rfl ?_
      refine s0 (loadV (TK rfl) rfl rfl rfl) rfl ?_
      refine sLen (f := TField.c) (s := x22.FFields) (TK rfl) rfl rfl rfl rfl fun hL24 => ?_
      obtain ⟨x25, gx25, hE⟩ := bindO_some hE
      refine s0 (addM rfl rfl gx25) rfl ?_
      refine s0 (fieldVA (TK rfl) rfl rfl (TK rfl) rfl rfl) rfl ?_
      refine s0 (loadV (TK rfl) rfl rfl rfl) rfl ?_
      refine sLen (f := TMember.c) (s := x22.FMembers) (TK rfl) rfl rfl rfl rfl fun hL26 => ?_
      obtain ⟨x27, gx27, hE⟩ := bindO_some hE
      refine s0 (addM rfl rfl gx27) rfl ?_
      refine s0 (fieldVA (TK rfl) rfl rfl (TK rfl) rfl rfl) rfl ?_
      refine s0 (loadV (TK rfl) rfl rfl rfl) rfl ?_
      refine sLen (f := TInput.c) (s := x22.FInputs) (TK rfl) rfl rfl rfl rfl fun hL28 => ?_
      obtain ⟨x29, gx29, hE⟩ := bindO_some hE
      refine s0 (addM rfl rfl gx29) rfl ?_
      refine s0 (fieldVA (TK rfl) rfl rfl (TK rfl) rfl rfl) rfl ?_
      refine s0 (loadV (TK rfl) rfl rfl rfl) rfl ?_
      refine sLen (f := TDir.c) (s := x22.FDirs) (TK rfl) rfl rfl rfl rfl fun hL30 => ?_
      obtain ⟨x31, gx31, hE⟩ := bindO_some hE
      refine s0 (addM rfl rfl gx31) rfl ?_
      refine s0 (fieldVA (TK rfl) rfl rfl (TK rfl) rfl rfl) rfl ?_
      refine s0 (loadV (TK rfl) rfl rfl rfl) rfl ?_
      refine sLen (f := strE) (s := x22.FImplements) (TK rfl) rfl rfl rfl rfl fun hL32 => ?_
      obtain ⟨x33, gx33, hE⟩ := bindO_some hE
      refine s0 (addM rfl rfl gx33) rfl ?_
      obtain ⟨x34, gx34, hE⟩ := bindO_some hE
      refine s0 (addM rfl rfl gx34) rfl ?_
      refine s0 assignA rfl ?_
      refine nil ?_
      refine hK23 _ ?_
      clear hK23 K23
      refine seqK fun K35 hK35 => ?_
      refine region ?_
      refine s0 assignA rfl ?_
      refine nil ?_
      refine hK35 _ ?_
      clear hK35 K35
      refine block ?_
      refine loopH (KeepsT.A (k := 1) (KeepsT.A (k := 4) (KeepsT.A (k := 5) KeepsT.nil))) (fun (z : Nat × Int × Nat) => [(3, .a (.d (.int .i64 z.2.1))), (6, .a (.d (.int .i64 ((z.2.2 : Nat) : Int))))]) (fun z => H) (fun z => z.1) (fun z => Z51_l36 s4_14 x22 ((Z51_l12 a0 n12)) z.1 z.2.1 z.2.2 = some r) ((x22.FFields.l.length + 1), x34, 0) hE Weak.toA ?_
      rintro ⟨n36, s3_37, s6_38⟩ hE K36 hK36
      try dsimp only at hE
      cases n36 with
      | zero => cases hE
      | succ n36 =>
        rw [Z51_l36] at hE
        refine seqK fun K39 hK39 => ?_
        refine seqK fun K40 hK40 => ?_
        refine region ?_
        refine s0 moveA rfl ?_
        refine s0 (fieldVA (TK rfl) rfl rfl (TK rfl) rfl rfl) rfl ?_
        refine s0 (loadV (TK rfl) rfl rfl rfl) rfl ?_
        refine sLen (f := TField.c) (s := x22.FFields) (TK rfl) rfl rfl rfl rfl fun hL41 => ?_
        refine s0 (binI rfl rfl rfl) rfl ?_
        refine nil ?_
        refine hK40 _ ?_
        clear hK40 K40
        refine condE hE rfl (fun hc42 hE => ?_) (fun hc42 hE => ?_)
        ·try dsimp only at hc42
         have hf42 := of_decide_eq_true hc42
         refine AWp.skip ?_
         refine hK39 _ ?_
         clear hK39 K39
         refine seqK fun K43 hK43 => ?_
         refine block ?_
         refine AWp.draw rfl ?_
         refine DOps.s0 moveA rfl ?_
         refine DOps.s0 (fieldVA (TK rfl) rfl rfl (TK rfl) rfl rfl) rfl ?_
         refine DOps.s0 (loadV (TK rfl) rfl rfl rfl) rfl ?_
         refine DOps.s0 moveA rfl ?_
         obtain ⟨x44, gx44, hE⟩ := bindO_some hE
         refine DOps.s0 (idxMn (f := TField.c) (n := s6_38) (TK rfl) rfl (TK rfl) rfl rfl rfl gx44) rfl ?_
         refine DOps.s0 (fieldVA (TK rfl) rfl rfl (TK rfl) rfl rfl) rfl ?_
         refine DOps.s0 (loadV (TK rfl) rfl rfl rfl) rfl ?_
         refine DOps.s0 (lenM' (f := TInput.c) (s := x44.FArgs) (TK rfl) rfl rfl rfl) rfl ?_
         refine DOps.s0 (fieldVA (TK rfl) rfl rfl (TK rfl) rfl rfl) rfl ?_
         refine DOps.s0 (loadV (TK rfl) rfl rfl rfl) rfl ?_
         refine DOps.s0 moveA rfl ?_
         obtain ⟨x45, gx45, hE⟩ := bindO_some hE
         refine DOps.s0 (idxMn (f := TField.c) (n := s6_38) (TK rfl) rfl (TK rfl) rfl rfl rfl gx45) rfl ?_
         refine DOps.s0 (fieldVA (TK rfl) rfl rfl (TK rfl) rfl rfl) rfl ?_
         refine DOps.s0 (loadV (TK rfl) rfl rfl rfl) rfl ?_
         refine DOps.s0 (lenM' (f := TDir.c) (s := x45.FDirs) (TK rfl) rfl rfl rfl) rfl ?_
         obtain ⟨x46, gx46, hE⟩ := bindO_some hE
         refine DOps.s0 (addM rfl rfl gx46) rfl ?_
         obtain ⟨x47, gx47, hE⟩ := bindO_some hE
         refine DOps.s0 (addM rfl rfl gx47) rfl ?_
         refine DOps.s0 assignA rfl ?_
         refine DOps.nil (by decide +kernel) ?_
         refine hK43 _ ?_
         clear hK43 K43
         refine region ?_
         refine s0 moveA rfl ?_
         refine s0 (addIA rfl rfl) rfl ?_
         refine s0 assignA rfl ?_
         refine nil ?_
         exact hK36 _ (n36, x47, (s6_38 + 1)) Weak.toA hE (Nat.lt_succ_self _)
        refine AWp.exit ?_
        exact hK19 _ s3_37 Weak.toA hE
     rintro s3_20 hE
     try dsimp only at hE
     unfold Z51_j19 at hE
     refine region ?_
     refine s0 moveA rfl ?_
     refine s0 (addIA rfl rfl) rfl ?_
     refine s0 assignA rfl ?_
     refine nil ?_
     exact hK12 _ (n12, s3_20, (s4_14 + 1)) Weak.toA hE (Nat.lt_succ_self _)
    refine AWp.exit ?_
    exact hK8 _ s3_13 Weak.toA hE
 rintro s3_9 hE
 try dsimp only at hE
 unfold Z51_j8 at hE
 refine seqK fun K10 hK10 => ?_
 refine region ?_
 refine s0 moveA rfl ?_
 refine s0 (binI rfl rfl rfl) rfl ?_
 refine s0 assignA rfl ?_
 refine nil ?_
 refine hK10 _ ?_
 clear hK10 K10
 refine AWp.ret ?_
 repeat (first | refine xBlock_ret ?_ | refine xThen_ret ?_)
 obtain rfl := Option.some.inj hE
 refine retQ.retF H rfl ⟨rfl, rfl⟩ ?_
 exact (fun _ _ h => h)
def Z17_j3  (s3_4 : Int) : Option Int := some s3_4
def Z17_l7 (a0 : TValue) (k_rec_90 : TValue → Option Int) : Nat → Int → Nat → Option Int
 | 0, _, _ => none
 | n7 + 1, s3_8, s4_9 => bif (decide (((s4_9 : Nat) : Int) < ((a0.FItems.l.length : Nat) : Int))) then ((a0.FItems.l[s4_9]?).bind fun x15 => (k_rec_90 x15).bind fun x16 => (addC s3_8 x16).bind fun x17 => (Z17_l7 a0 k_rec_90 n7) x17 (s4_9 + 1)) else (Z17_j3   s3_8)
def Z17_n : Nat → TValue → Option Int
 | 0, _ => none
 | n + 1, a0 => Z17_l7 a0 (Z17_n n) (a0.FItems.l.length + 1) (1 : Int) 0
theorem Z17_step (n : Nat) (ih_90 : ∀ {a0 : TValue}   {r : Int}, Z17_n n a0 = some r → ∀ (H : Heap), ACalls Tryz.prog 90 [.agg (TValue.c a0)] H fun v h' => v = .a (.d (.int .i64 r)) ∧ h' = H) : ∀ {a0 : TValue}   {r : Int}, Z17_n (n + 1) a0 = some r → ∀ (H : Heap), ACalls Tryz.prog 90 [.agg (TValue.c a0)] H fun v h' => v = .a (.d (.int .i64 r)) ∧ h' = H := by
 intro a0   r hE H 
 rw [Z17_n] at hE
 refine ACalls.of_wp (fn := Tryz.f90) (c := _) Tryz.tab_ok (fun _ _ => Tryz.call90 _ _) Tryz.func90 rfl (n := 21) rfl (rs := [.tmp 2]) rfl rfl ?_
 refine seqK fun K1 hK1 => ?_
 refine region ?_
 refine s0 (boxV rfl) rfl ?_
 refine s0 assignA rfl ?_
 refine nil ?_
 refine hK1 _ ?_
 clear hK1 K1
 refine seqK fun K2 hK2 => ?_
 refine region ?_
 refine s0 assignA rfl ?_
 refine nil ?_
 refine hK2 _ ?_
 clear hK2 K2
 refine seqJH KeepsT.nil (fun (z : Int) => [(3, .a (.d (.int .i64 z)))]) (fun z => H) (fun z => Z17_j3 z = some r) ?_ ?_
 ·intro K3 hK3
  refine seqK fun K6 hK6 => ?_
  refine region ?_
  refine s0 assignA rfl ?_
  refine nil ?_
  refine hK6 _ ?_
  clear hK6 K6
  refine block ?_
  refine loopH (KeepsT.A (k := 1) KeepsT.nil) (fun (z : Nat × Int × Nat) => [(3, .a (.d (.int .i64 z.2.1))), (4, .a (.d (.int .i64 ((z.2.2 : Nat) : Int))))]) (fun z => H) (fun z => z.1) (fun z => Z17_l7 a0 (Z17_n n) z.1 z.2.1 z.2.2 = some r) ((a0.FItems.l.length + 1), (1 : Int), 0) hE Weak.toA ?_
  rintro ⟨n7, s3_8, s4_9⟩ hE K7 hK7
  try dsimp only at hE
  cases n7 with
  | zero => cases hE
  | succ n7 =>
    rw [Z17_l7] at hE
    refine seqK fun K10 hK10 => ?_
    refine seqK fun K11 hK11 => ?_
    refine region ?_
    refine s0 moveA rfl ?_
    refine s0 (fieldVA (TK rfl) rfl rfl (TK rfl) rfl rfl) rfl ?_
    refine s0 (loadV (TK rfl) rfl rfl (congrArg (fun x => some (A.d x)) (TValue.FItemsD_eq _))) rfl ?_
    refine sLen (f := TValue.c) (s := a0.FItems) (TK rfl) rfl rfl rfl rfl fun hL12 => ?_
    refine s0 (binI rfl rfl rfl) rfl ?_
    refine nil ?_
    refine hK11 _ ?_
    clear hK11 K11
    refine condE hE rfl (fun hc13 hE => ?_) (fun hc13 hE => ?_)
    ·try dsimp only at hc13
     have hf13 := of_decide_eq_true hc13
     refine AWp.skip ?_
     refine hK10 _ ?_
     clear hK10 K10
     refine seqK fun K14 hK14 => ?_
     refine block ?_
     refine region ?_
     refine s0 moveA rfl ?_
     refine s0 (fieldVA (TK rfl) rfl rfl (TK rfl) rfl rfl) rfl ?_
     refine s0 (loadV (TK rfl) rfl rfl (congrArg (fun x => some (A.d x)) (TValue.FItemsD_eq _))) rfl ?_
     refine s0 moveA rfl ?_
     obtain ⟨x15, gx15, hE⟩ := bindO_some hE
     refine s0 (idxMn (f := TValue.c) (n := s4_9) (TK rfl) rfl (TK rfl) rfl rfl rfl gx15) rfl ?_
     refine s0 (loadV (TK rfl) rfl rfl rfl) rfl ?_
     obtain ⟨x16, gx16, hE⟩ := bindO_some hE
     refine s0 (callP rfl rfl (fun H => ih_90 gx16 H)) rfl ?_
     obtain ⟨x17, gx17, hE⟩ := bindO_some hE
     refine s0 (addM rfl rfl gx17) rfl ?_
     refine s0 assignA rfl ?_
     refine nil ?_
     refine hK14 _ ?_
     clear hK14 K14
     refine region ?_
     refine s0 moveA rfl ?_
     refine s0 (addIA rfl rfl) rfl ?_
     refine s0 assignA rfl ?_
     refine nil ?_
     exact hK7 _ (n7, x17, (s4_9 + 1)) Weak.toA hE (Nat.lt_succ_self _)
    refine AWp.exit ?_
    exact hK3 _ s3_8 Weak.toA hE
 rintro s3_4 hE
 try dsimp only at hE
 unfold Z17_j3 at hE
 refine seqK fun K5 hK5 => ?_
 refine region ?_
 refine s0 moveA rfl ?_
 refine s0 assignA rfl ?_
 refine nil ?_
 refine hK5 _ ?_
 clear hK5 K5
 refine AWp.ret ?_
 repeat (first | refine xBlock_ret ?_ | refine xThen_ret ?_)
 obtain rfl := Option.some.inj hE
 refine retQ.retF H rfl ⟨rfl, rfl⟩ ?_
 exact (fun _ _ h => h)
theorem Z17_all : ∀ (n : Nat), (∀ {a0 : TValue}   {r : Int}, Z17_n n a0 = some r → ∀ (H : Heap), ACalls Tryz.prog 90 [.agg (TValue.c a0)] H fun v h' => v = .a (.d (.int .i64 r)) ∧ h' = H)
 | 0 => fun hE => by first | cases hE | (rw [Z17_n] at hE; cases hE)
 | n + 1 => Z17_step n (Z17_all n)
def Z17 (a0 : TValue) : Option Int := Z17_n F0 a0
theorem Z17_walk {a0 : TValue}   {r : Int} (hE : Z17 a0 = some r) (H : Heap)  : ACalls Tryz.prog 90 [.agg (TValue.c a0)] H fun v h' => v = .a (.d (.int .i64 r)) ∧ h' = H := (Z17_all F0) hE H 
def Z46_j3  (s5_4 : Int) : Option Int := some s5_4
def Z46_j14 (s6_9 : Nat) (k_next_7 : Int → Nat → Option Int) (s5_15 : Int) : Option Int := k_next_7 s5_15 (s6_9 + 1)
def Z46_j22 (a0 : (Sl TSel)) (a1 : Int) (s6_9 : Nat) (k_next_7 : Int → Nat → Option Int) (k_rec_48 : (Sl TSel) → Int → Option Int) (s5_23 : Int) : Option Int := (a0.l[s6_9]?).bind fun x24 => (subC a1 s5_23).bind fun x25 => (k_rec_48 x24.FSels x25).bind fun x26 => (addC s5_23 x26).bind fun x27 => Z46_j14 s6_9 k_next_7 x27
def Z46_l29 (a0 : (Sl TSel)) (a1 : Int) (s6_9 : Nat) (k_next_7 : Int → Nat → Option Int) (k_rec_48 : (Sl TSel) → Int → Option Int) : Nat → Int → Nat → Option Int
 | 0, _, _ => none
 | n29 + 1, s5_30, s7_31 => (a0.l[s6_9]?).bind fun x34 => bif ((decide (((s7_31 : Nat) : Int) < ((x34.FArgs.l.length : Nat) : Int))) && (decide (s5_30 ≤ a1))) then ((a0.l[s6_9]?).bind fun x38 => (x38.FArgs.l[s7_31]?).bind fun x39 => (Z17 x39.FValue).bind fun x40 => (addC s5_30 x40).bind fun x41 => (Z46_l29 a0 a1 s6_9 k_next_7 k_rec_48 n29) x41 (s7_31 + 1)) else (Z46_j22 a0 a1 s6_9 k_next_7 k_rec_48 s5_30)
def Z46_l7 (a0 : (Sl TSel)) (a1 : Int) (k_rec_48 : (Sl TSel) → Int → Option Int) : Nat → Int → Nat → Option Int
 | 0, _, _ => none
 | n7 + 1, s5_8, s6_9 => bif ((decide (((s6_9 : Nat) : Int) < ((a0.l.length : Nat) : Int))) && (decide (s5_8 ≤ a1))) then ((addC s5_8 (1 : Int)).bind fun x17 => (a0.l[s6_9]?).bind fun x18 => (addC x17 ((x18.FArgs.l.length : Nat) : Int)).bind fun x19 => (a0.l[s6_9]?).bind fun x20 => (addC x19 ((x20.FDirs.l.length : Nat) : Int)).bind fun x21 => Z46_l29 a0 a1 s6_9 ((Z46_l7 a0 a1 k_rec_48 n7)) k_rec_48 (Option.elim (a0.l[s6_9]?) 1 (fun x34 => x34.FArgs.l.length + 1)) x21 0) else (Z46_j3   s5_8)
def Z46_n : Nat → (Sl TSel) → Int → Option Int
 | 0, _, _ => none
 | n + 1, a0, a1 => Z46_l7 a0 a1 (Z46_n n) (a0.l.length + 1) (0 : Int) 0
theorem Z46_step (n : Nat) (ih_48 : ∀ {a0 : (Sl TSel)} {a1 : Int} {w0 : Option Nat}  {r : Int}, Z46_n n a0 a1 = some r → ∀ (H : Heap), ACalls Tryz.prog 48 [.d (Sl.d 7 TSel.c w0 a0), .d (.int .i64 a1)] H fun v h' => v = .a (.d (.int .i64 r)) ∧ h' = H) : ∀ {a0 : (Sl TSel)} {a1 : Int} {w0 : Option Nat}  {r : Int}, Z46_n (n + 1) a0 a1 = some r → ∀ (H : Heap), ACalls Tryz.prog 48 [.d (Sl.d 7 TSel.c w0 a0), .d (.int .i64 a1)] H fun v h' => v = .a (.d (.int .i64 r)) ∧ h' = H := by
 intro a0 a1 w0  r hE H 
 rw [Z46_n] at hE
 refine ACalls.of_wp (fn := Tryz.f48) (c := _) Tryz.tab_ok (fun _ _ => Tryz.call48 _ _) Tryz.func48 rfl (n := 74) rfl (rs := [.tmp 4]) rfl rfl ?_
 refine seqK fun K1 hK1 => ?_
 refine region ?_
 refine s0 assignA rfl ?_
 refine nil ?_
 refine hK1 _ ?_
 clear hK1 K1
 refine seqK fun K2 hK2 => ?_
 refine region ?_
 refine s0 assignA rfl ?_
 refine nil ?_
 refine hK2 _ ?_
 clear hK2 K2
 refine seqJH KeepsT.nil (fun (z : Int) => [(5, .a (.d (.int .i64 z)))]) (fun z => H) (fun z => Z46_j3 z = some r) ?_ ?_
 ·intro K3 hK3
  refine seqK fun K6 hK6 => ?_
  refine region ?_
  refine s0 assignA rfl ?_
  refine nil ?_
  refine hK6 _ ?_
  clear hK6 K6
  refine block ?_
  refine loopH (KeepsT.A (k := 0) (KeepsT.A (k := 1) KeepsT.nil)) (fun (z : Nat × Int × Nat) => [(5, .a (.d (.int .i64 z.2.1))), (6, .a (.d (.int .i64 ((z.2.2 : Nat) : Int))))]) (fun z => H) (fun z => z.1) (fun z => Z46_l7 a0 a1 (Z46_n n) z.1 z.2.1 z.2.2 = some r) ((a0.l.length + 1), (0 : Int), 0) hE Weak.toA ?_
  rintro ⟨n7, s5_8, s6_9⟩ hE K7 hK7
  try dsimp only at hE
  cases n7 with
  | zero => cases hE
  | succ n7 =>
    rw [Z46_l7] at hE
    refine seqK fun K10 hK10 => ?_
    refine seqK fun K11 hK11 => ?_
    refine region ?_
    refine s0 moveA rfl ?_
    refine s0 moveA rfl ?_
    refine sLen (f := TSel.c) (s := a0) (TK rfl) rfl rfl rfl rfl fun hL12 => ?_
    refine s0 (binI rfl rfl rfl) rfl ?_
    refine s0 moveA rfl ?_
    refine gC rfl rfl (fun hC => moveA) rfl ?_
    refine gC rfl rfl (fun hC => moveA) rfl ?_
    refine gC rfl rfl (fun hC => ungdA (k := 13) rfl (ungdA (k := 14) rfl (binI rfl rfl rfl))) rfl ?_
    refine s0 (pickAndA rfl rfl rfl) rfl ?_
    refine nil ?_
    refine hK11 _ ?_
    clear hK11 K11
    refine condE hE rfl (fun hc13 hE => ?_) (fun hc13 hE => ?_)
    ·try dsimp only at hc13
     have hf13 := of_decide_eq_true (and_left hc13)
     refine AWp.skip ?_
     refine hK10 _ ?_
     clear hK10 K10
     refine seqJH (KeepsT.A (k := 0) (KeepsT.A (k := 1) (KeepsT.A (k := 6) KeepsT.nil))) (fun (z : Int) => [(5, .a (.d (.int .i64 z)))]) (fun z => H) (fun z => Z46_j14 s6_9 ((Z46_l7 a0 a1 (Z46_n n) n7)) z = some r) ?_ ?_
     ·intro K14 hK14
      refine block ?_
      refine seqK fun K16 hK16 => ?_
      refine AWp.draw rfl ?_
      refine DOps.s0 moveA rfl ?_
      obtain ⟨x17, gx17, hE⟩ := bindO_some hE
      refine DOps.s0 (addM rfl rfl gx17) rfl ?_
      refine DOps.s0 moveA rfl ?_
      refine DOps.s0 moveA rfl ?_
      obtain ⟨x18, gx18, hE⟩ := bindO_some hE
      refine DOps.s0 (idxMn (f := TSel.c) (n := s6_9) (TK rfl) rfl (TK rfl) rfl rfl rfl gx18) rfl ?_
      refine DOps.s0 (fieldVA (TK rfl) rfl rfl (TK rfl) rfl rfl) rfl ?_
      refine DOps.s0 (loadV (TK rfl) rfl rfl rfl) rfl ?_
      refine DOps.s0 (lenM' (f := TArg.c) (s := x18.FArgs) (TK rfl) rfl rfl rfl) rfl ?_
      obtain ⟨x19, gx19, hE⟩ := bindO_some hE
      refine DOps.s0 (addM rfl rfl gx19) rfl ?_
      refine DOps.s0 moveA rfl ?_
      refine DOps.s0 moveA rfl ?_
      obtain ⟨x20, gx20, hE⟩ := bindO_some hE
      refine DOps.s0 (idxMn (f := TSel.c) (n := s6_9) (TK rfl) rfl (TK rfl) rfl rfl rfl gx20) rfl ?_
      refine DOps.s0 (fieldVA (TK rfl) rfl rfl (TK rfl) rfl rfl) rfl ?_
      refine DOps.s0 (loadV (TK rfl) rfl rfl rfl) rfl ?_
      refine DOps.s0 (lenM' (f := TDir.c) (s := x20.FDirs) (TK rfl) rfl rfl rfl) rfl ?_
      obtain ⟨x21, gx21, hE⟩ := bindO_some hE
      refine DOps.s0 (addM rfl rfl gx21) rfl ?_
      refine DOps.s0 assignA rfl ?_
      refine DOps.nil (by decide +kernel) ?_
      refine hK16 _ ?_
      clear hK16 K16
      refine seqJH (KeepsT.A (k := 0) (KeepsT.A (k := 1) (KeepsT.A (k := 6) KeepsT.nil))) (fun (z : Int) => [(5, .a (.d (.int .i64 z)))]) (fun z => H) (fun z => Z46_j22 a0 a1 s6_9 ((Z46_l7 a0 a1 (Z46_n n) n7)) (Z46_n n) z = some r) ?_ ?_
      ·intro K22 hK22
       refine seqK fun K28 hK28 => ?_
       refine region ?_
       refine s0 assignA rfl ?_
       refine nil ?_
       refine hK28 _ ?_
       clear hK28 K28
       refine block ?_
       refine loopH (KeepsT.A (k := 0) (KeepsT.A (k := 1) (KeepsT.A (k := 6) KeepsT.nil))) (fun (z : Nat × Int × Nat) => [(5, .a (.d (.int .i64 z.2.1))), (7, .a (.d (.int .i64 ((z.2.2 : Nat) : Int))))]) (fun z => H) (fun z => z.1) (fun z => Z46_l29 a0 a1 s6_9 ((Z46_l7 a0 a1 (Z46_n n) n7)) (Z46_n n) z.1 z.2.1 z.2.2 = some r) ((Option.elim (a0.l[s6_9]?) 1 (fun x34 => x34.FArgs.l.length + 1)), x21, 0) hE Weak.toA ?_
       rintro ⟨n29, s5_30, s7_31⟩ hE K29 hK29
       try dsimp only at hE
       cases n29 with
       | zero => cases hE
       | succ n29 =>
         rw [Z46_l29] at hE
         refine seqK fun K32 hK32 => ?_
         refine seqK fun K33 hK33 => ?_
         refine region ?_
         refine s0 moveA rfl ?_
         refine s0 moveA rfl ?_
         refine s0 moveA rfl ?_
         obtain ⟨x34, gx34, hE⟩ := bindO_some hE
         refine s0 (idxMn (f := TSel.c) (n := s6_9) (TK rfl) rfl (TK rfl) rfl rfl rfl gx34) rfl ?_
         refine s0 (fieldVA (TK rfl) rfl rfl (TK rfl) rfl rfl) rfl ?_
         refine s0 (loadV (TK rfl) rfl rfl rfl) rfl ?_
         refine sLen (f := TArg.c) (s := x34.FArgs) (TK rfl) rfl rfl rfl rfl fun hL35 => ?_
         refine s0 (binI rfl rfl rfl) rfl ?_
         refine s0 moveA rfl ?_
         refine gC rfl rfl (fun hC => moveA) rfl ?_
         refine gC rfl rfl (fun hC => moveA) rfl ?_
         refine gC rfl rfl (fun hC => ungdA (k := 44) rfl (ungdA (k := 45) rfl (binI rfl rfl rfl))) rfl ?_
         refine s0 (pickAndA rfl rfl rfl) rfl ?_
         refine nil ?_
         refine hK33 _ ?_
         clear hK33 K33
         refine condE hE rfl (fun hc36 hE => ?_) (fun hc36 hE => ?_)
         ·try dsimp only at hc36
          have hf36 := of_decide_eq_true (and_left hc36)
          refine AWp.skip ?_
          refine hK32 _ ?_
          clear hK32 K32
          refine seqK fun K37 hK37 => ?_
          refine block ?_
          refine region ?_
          refine s0 moveA rfl ?_
          refine s0 moveA rfl ?_
          refine s0 moveA rfl ?_
          obtain ⟨x38, gx38, hE⟩ := bindO_some hE
          refine s0 (idxMn (f := TSel.c) (n := s6_9) (TK rfl) rfl (TK rfl) rfl rfl rfl gx38) rfl ?_
          refine s0 (fieldVA (TK rfl) rfl rfl (TK rfl) rfl rfl) rfl ?_
          refine s0 (loadV (TK rfl) rfl rfl rfl) rfl ?_
          refine s0 moveA rfl ?_
          obtain ⟨x39, gx39, hE⟩ := bindO_some hE
          refine s0 (idxMn (f := TArg.c) (n := s7_31) (TK rfl) rfl (TK rfl) rfl rfl rfl gx39) rfl ?_
          refine s0 (fieldVA (TK rfl) rfl rfl (TK rfl) rfl rfl) rfl ?_
          refine s0 (loadV (TK rfl) rfl rfl rfl) rfl ?_
          obtain ⟨x40, gx40, hE⟩ := bindO_some hE
          refine s0 (callP rfl rfl (fun H => Z17_walk gx40 H)) rfl ?_
          obtain ⟨x41, gx41, hE⟩ := bindO_some hE
          refine s0 (addM rfl rfl gx41) rfl ?_
          refine s0 assignA rfl ?_
          refine nil ?_
          refine hK37 _ ?_
          clear hK37 K37
          refine region ?_
          refine s0 moveA rfl ?_
          refine s0 (addIA rfl rfl) rfl ?_
          refine s0 assignA rfl ?_
          refine nil ?_
          exact hK29 _ (n29, x41, (s7_31 + 1)) Weak.toA hE (Nat.lt_succ_self _)
         refine AWp.exit ?_
         exact hK22 _ s5_30 Weak.toA hE
      rintro s5_23 hE
      try dsimp only at hE
      unfold Z46_j22 at hE
      refine region ?_
      refine s0 moveA rfl ?_
      refine s0 moveA rfl ?_
      refine s0 moveA rfl ?_
      obtain ⟨x24, gx24, hE⟩ := bindO_some hE
      refine s0 (idxMn (f := TSel.c) (n := s6_9) (TK rfl) rfl (TK rfl) rfl rfl rfl gx24) rfl ?_
      refine s0 (fieldVA (TK rfl) rfl rfl (TK rfl) rfl rfl) rfl ?_
      refine s0 (loadV (TK rfl) rfl rfl (congrArg (fun x => some (A.d x)) (TSel.FSelsD_eq _))) rfl ?_
      refine s0 moveA rfl ?_
      refine s0 moveA rfl ?_
      obtain ⟨x25, gx25, hE⟩ := bindO_some hE
      refine s0 (subM rfl rfl gx25) rfl ?_
      obtain ⟨x26, gx26, hE⟩ := bindO_some hE
      refine s0 (callP rfl rfl (fun H => ih_48 gx26 H)) rfl ?_
      obtain ⟨x27, gx27, hE⟩ := bindO_some hE
      refine s0 (addM rfl rfl gx27) rfl ?_
      refine s0 assignA rfl ?_
      refine nil ?_
      exact hK14 _ x27 Weak.toA hE
     rintro s5_15 hE
     try dsimp only at hE
     unfold Z46_j14 at hE
     refine region ?_
     refine s0 moveA rfl ?_
     refine s0 (addIA rfl rfl) rfl ?_
     refine s0 assignA rfl ?_
     refine nil ?_
     exact hK7 _ (n7, s5_15, (s6_9 + 1)) Weak.toA hE (Nat.lt_succ_self _)
    refine AWp.exit ?_
    exact hK3 _ s5_8 Weak.toA hE
 rintro s5_4 hE
 try dsimp only at hE
 unfold Z46_j3 at hE
 refine seqK fun K5 hK5 => ?_
 refine region ?_
 refine s0 moveA rfl ?_
 refine s0 assignA rfl ?_
 refine nil ?_
 refine hK5 _ ?_
 clear hK5 K5
 refine AWp.ret ?_
 repeat (first | refine xBlock_ret ?_ | refine xThen_ret ?_)
 obtain rfl := Option.some.inj hE
 refine retQ.retF H rfl ⟨rfl, rfl⟩ ?_
 exact (fun _ _ h => h)
theorem Z46_all : ∀ (n : Nat), (∀ {a0 : (Sl TSel)} {a1 : Int} {w0 : Option Nat}  {r : Int}, Z46_n n a0 a1 = some r → ∀ (H : Heap), ACalls Tryz.prog 48 [.d (Sl.d 7 TSel.c w0 a0), .d (.int .i64 a1)] H fun v h' => v = .a (.d (.int .i64 r)) ∧ h' = H)
 | 0 => fun hE => by first | cases hE | (rw [Z46_n] at hE; cases hE)
 | n + 1 => Z46_step n (Z46_all n)
def Z46 (a0 : (Sl TSel)) (a1 : Int) : Option Int := Z46_n F0 a0 a1
theorem Z46_walk {a0 : (Sl TSel)} {a1 : Int} {w0 : Option Nat}  {r : Int} (hE : Z46 a0 a1 = some r) (H : Heap)  : ACalls Tryz.prog 48 [.d (Sl.d 7 TSel.c w0 a0), .d (.int .i64 a1)] H fun v h' => v = .a (.d (.int .i64 r)) ∧ h' = H := (Z46_all F0) hE H 
def Z38_j8  (s3_9 : Int) : Option Bool := some (decide ((600 : Int) < s3_9))
def Z38_l12 (a0 : TQuery)  : Nat → Int → Nat → Option Bool
 | 0, _, _ => none
 | n12 + 1, s3_13, s5_14 => bif ((decide (((s5_14 : Nat) : Int) < ((a0.FFrags.l.length : Nat) : Int))) && (decide (s3_13 ≤ (600 : Int)))) then ((a0.FFrags.l[s5_14]?).bind fun x20 => (Z46 x20.FSels (600 : Int)).bind fun x21 => (addC s3_13 x21).bind fun x22 => (Z38_l12 a0 n12) x22 (s5_14 + 1)) else (Z38_j8   s3_13)
def Z38_j6 (a0 : TQuery)  (s3_7 : Int) : Option Bool := Z38_l12 a0 (a0.FFrags.l.length + 1) s3_7 0
def Z38_l24 (a0 : TQuery)  : Nat → Int → Nat → Option Bool
 | 0, _, _ => none
 | n24 + 1, s3_25, s4_26 => bif ((decide (((s4_26 : Nat) : Int) < ((a0.FOps.l.length : Nat) : Int))) && (decide (s3_25 ≤ (600 : Int)))) then ((a0.FOps.l[s4_26]?).bind fun x32 => (addC s3_25 ((x32.FVars.l.length : Nat) : Int)).bind fun x33 => (a0.FOps.l[s4_26]?).bind fun x34 => (Z46 x34.FSels (600 : Int)).bind fun x35 => (addC x33 x35).bind fun x36 => (Z38_l24 a0 n24) x36 (s4_26 + 1)) else (Z38_j6 a0  s3_25)
def Z38 (a0 : TQuery) : Option Bool := (addC ((a0.FOps.l.length : Nat) : Int) ((a0.FFrags.l.length : Nat) : Int)).bind fun x5 => Z38_l24 a0 (a0.FOps.l.length + 1) x5 0
theorem Z38_walk {a0 : TQuery}   {r : Bool} (hE : Z38 a0 = some r) (H : Heap)  : ACalls Tryz.prog 19 [.agg (TQuery.c a0)] H fun v h' => v = .a (.d (.bool r)) ∧ h' = H := by
 unfold Z38 at hE
 refine ACalls.of_wp (fn := Tryz.f19) (c := _) Tryz.tab_ok (fun _ _ => Tryz.call19 _ _) Tryz.func19 rfl (n := 63) rfl (rs := [.tmp 2]) rfl rfl ?_
 refine seqK fun K1 hK1 => ?_
 refine region ?_
 refine s0 (boxV rfl) rfl ?_
 refine s0 assignA rfl ?_
 refine nil ?_
 refine hK1 _ ?_
 clear hK1 K1
 refine seqK fun K2 hK2 => ?_
 refine region ?_
 refine s0 (fieldVA (TK rfl) rfl rfl (TK rfl) rfl rfl) rfl ?_
 refine s0 (loadV (TK rfl) rfl rfl rfl) rfl ?_
 refine sLen (f := TOp.c) (s := a0.FOps) (TK rfl) rfl rfl rfl rfl fun hL3 => ?_
 refine s0 (fieldVA (TK rfl) rfl rfl (TK rfl) rfl rfl) rfl ?_
 refine s0 (loadV (TK rfl) rfl rfl rfl) rfl ?_
 refine sLen (f := TFrag.c) (s := a0.FFrags) (TK rfl) rfl rfl rfl rfl fun hL4 => ?_
 obtain ⟨x5, gx5, hE⟩ := bindO_some hE
 refine s0 (addM rfl rfl gx5) rfl ?_
 refine s0 assignA rfl ?_
 refine nil ?_
 refine hK2 _ ?_
 clear hK2 K2
 refine seqJH (KeepsT.A (k := 1) KeepsT.nil) (fun (z : Int) => [(3, .a (.d (.int .i64 z)))]) (fun z => H) (fun z => Z38_j6 a0 z = some r) ?_ ?_
 ·intro K6 hK6
  refine seqK fun K23 hK23 => ?_
  refine region ?_
  refine s0 assignA rfl ?_
  refine nil ?_
  refine hK23 _ ?_
  clear hK23 K23
  refine block ?_
  refine loopH (KeepsT.A (k := 1) KeepsT.nil) (fun (z : Nat × Int × Nat) => [(3, .a (.d (.int .i64 z.2.1))), (4, .a (.d (.int .i64 ((z.2.2 : Nat) : Int))))]) (fun z => H) (fun z => z.1) (fun z => Z38_l24 a0 z.1 z.2.1 z.2.2 = some r) ((a0.FOps.l.length + 1), x5, 0) hE Weak.toA ?_
  rintro ⟨n24, s3_25, s4_26⟩ hE K24 hK24
  try dsimp only at hE
  cases n24 with
  | zero => cases hE
  | succ n24 =>
    rw [Z38_l24] at hE
    refine seqK fun K27 hK27 => ?_
    refine seqK fun K28 hK28 => ?_
    refine region ?_
    refine s0 moveA rfl ?_
    refine s0 (fieldVA (TK rfl) rfl rfl (TK rfl) rfl rfl) rfl ?_
    refine s0 (loadV (TK rfl) rfl rfl rfl) rfl ?_
    refine sLen (f := TOp.c) (s := a0.FOps) (TK rfl) rfl rfl rfl rfl fun hL29 => ?_
    refine s0 (binI rfl rfl rfl) rfl ?_
    refine s0 moveA rfl ?_
    refine gC rfl rfl (fun hC => moveA) rfl ?_
    refine gC rfl rfl (fun hC => ungdA (k := 19) rfl (binI rfl rfl rfl)) rfl ?_
    refine s0 (pickAndA rfl rfl rfl) rfl ?_
    refine nil ?_
    refine hK28 _ ?_
    clear hK28 K28
    refine condE hE rfl (fun hc30 hE => ?_) (fun hc30 hE => ?_)
    ·try dsimp only at hc30
     have hf30 := of_decide_eq_true (and_left hc30)
     refine AWp.skip ?_
     refine hK27 _ ?_
     clear hK27 K27
     refine seqK fun K31 hK31 => ?_
     refine block ?_
     refine AWp.draw rfl ?_
     refine DOps.s0 moveA rfl ?_
     refine DOps.s0 (fieldVA (TK rfl) rfl rfl (TK rfl) rfl rfl) rfl ?_
     refine DOps.s0 (loadV (TK rfl) rfl rfl rfl) rfl ?_
     refine DOps.s0 moveA rfl ?_
     obtain ⟨x32, gx32, hE⟩ := bindO_some hE
     refine DOps.s0 (idxMn (f := TOp.c) (n := s4_26) (TK rfl) rfl (TK rfl) rfl rfl rfl gx32) rfl ?_
     refine DOps.s0 (fieldVA (TK rfl) rfl rfl (TK rfl) rfl rfl) rfl ?_
     refine DOps.s0 (loadV (TK rfl) rfl rfl rfl) rfl ?_
     refine DOps.s0 (lenM' (f := TVar.c) (s := x32.FVars) (TK rfl) rfl rfl rfl) rfl ?_
     obtain ⟨x33, gx33, hE⟩ := bindO_some hE
     refine DOps.s0 (addM rfl rfl gx33) rfl ?_
     refine DOps.s0 (fieldVA (TK rfl) rfl rfl (TK rfl) rfl rfl) rfl ?_
     refine DOps.s0 (loadV (TK rfl) rfl rfl rfl) rfl ?_
     refine DOps.s0 moveA rfl ?_
     obtain ⟨x34, gx34, hE⟩ := bindO_some hE
     refine DOps.s0 (idxMn (f := TOp.c) (n := s4_26) (TK rfl) rfl (TK rfl) rfl rfl rfl gx34) rfl ?_
     refine DOps.s0 (fieldVA (TK rfl) rfl rfl (TK rfl) rfl rfl) rfl ?_
     refine DOps.s0 (loadV (TK rfl) rfl rfl rfl) rfl ?_
     obtain ⟨x35, gx35, hE⟩ := bindO_some hE
     refine DOps.s0 (callP rfl rfl (fun H => Z46_walk gx35 H)) rfl ?_
     obtain ⟨x36, gx36, hE⟩ := bindO_some hE
     refine DOps.s0 (addM rfl rfl gx36) rfl ?_
     refine DOps.s0 assignA rfl ?_
     refine DOps.nil (by decide +kernel) ?_
     refine hK31 _ ?_
     clear hK31 K31
     refine region ?_
     refine s0 moveA rfl ?_
     refine s0 (addIA rfl rfl) rfl ?_
     refine s0 assignA rfl ?_
     refine nil ?_
     exact hK24 _ (n24, x36, (s4_26 + 1)) Weak.toA hE (Nat.lt_succ_self _)
    refine AWp.exit ?_
    exact hK6 _ s3_25 Weak.toA hE
 rintro s3_7 hE
 try dsimp only at hE
 unfold Z38_j6 at hE
 refine seqJH KeepsT.nil (fun (z : Int) => [(3, .a (.d (.int .i64 z)))]) (fun z => H) (fun z => Z38_j8 z = some r) ?_ ?_
 ·intro K8 hK8
  refine seqK fun K11 hK11 => ?_
  refine region ?_
  refine s0 assignA rfl ?_
  refine nil ?_
  refine hK11 _ ?_
  clear hK11 K11
  refine block ?_
  refine loopH (KeepsT.A (k := 1) KeepsT.nil) (fun (z : Nat × Int × Nat) => [(3, .a (.d (.int .i64 z.2.1))), (5, .a (.d (.int .i64 ((z.2.2 : Nat) : Int))))]) (fun z => H) (fun z => z.1) (fun z => Z38_l12 a0 z.1 z.2.1 z.2.2 = some r) ((a0.FFrags.l.length + 1), s3_7, 0) hE Weak.toA ?_
  rintro ⟨n12, s3_13, s5_14⟩ hE K12 hK12
  try dsimp only at hE
  cases n12 with
  | zero => cases hE
  | succ n12 =>
    rw [Z38_l12] at hE
    refine seqK fun K15 hK15 => ?_
    refine seqK fun K16 hK16 => ?_
    refine region ?_
    refine s0 moveA rfl ?_
    refine s0 (fieldVA (TK rfl) rfl rfl (TK rfl) rfl rfl) rfl ?_
    refine s0 (loadV (TK rfl) rfl rfl rfl) rfl ?_
    refine sLen (f := TFrag.c) (s := a0.FFrags) (TK rfl) rfl rfl rfl rfl fun hL17 => ?_
    refine s0 (binI rfl rfl rfl) rfl ?_
    refine s0 moveA rfl ?_
    refine gC rfl rfl (fun hC => moveA) rfl ?_
    refine gC rfl rfl (fun hC => ungdA (k := 47) rfl (binI rfl rfl rfl)) rfl ?_
    refine s0 (pickAndA rfl rfl rfl) rfl ?_
    refine nil ?_
    refine hK16 _ ?_
    clear hK16 K16
    refine condE hE rfl (fun hc18 hE => ?_) (fun hc18 hE => ?_)
    ·try dsimp only at hc18
     have hf18 := of_decide_eq_true (and_left hc18)
     refine AWp.skip ?_
     refine hK15 _ ?_
     clear hK15 K15
     refine seqK fun K19 hK19 => ?_
     refine block ?_
     refine region ?_
     refine s0 moveA rfl ?_
     refine s0 (fieldVA (TK rfl) rfl rfl (TK rfl) rfl rfl) rfl ?_
     refine s0 (loadV (TK rfl) rfl rfl rfl) rfl ?_
     refine s0 moveA rfl ?_
     obtain ⟨x20, gx20, hE⟩ := bindO_some hE
     refine s0 (idxMn (f := TFrag.c) (n := s5_14) (TK rfl) rfl (TK rfl) rfl rfl rfl gx20) rfl ?_
     refine s0 (fieldVA (TK rfl) rfl rfl (TK rfl) rfl rfl) rfl ?_
     refine s0 (loadV (TK rfl) rfl rfl rfl) rfl ?_
     obtain ⟨x21, gx21, hE⟩ := bindO_some hE
     refine s0 (callP rfl rfl (fun H => Z46_walk gx21 H)) rfl ?_
     obtain ⟨x22, gx22, hE⟩ := bindO_some hE
     refine s0 (addM rfl rfl gx22) rfl ?_
     refine s0 assignA rfl ?_
     refine nil ?_
     refine hK19 _ ?_
     clear hK19 K19
     refine region ?_
     refine s0 moveA rfl ?_
     refine s0 (addIA rfl rfl) rfl ?_
     refine s0 assignA rfl ?_
     refine nil ?_
     exact hK12 _ (n12, x22, (s5_14 + 1)) Weak.toA hE (Nat.lt_succ_self _)
    refine AWp.exit ?_
    exact hK8 _ s3_13 Weak.toA hE
 rintro s3_9 hE
 try dsimp only at hE
 unfold Z38_j8 at hE
 refine seqK fun K10 hK10 => ?_
 refine region ?_
 refine s0 moveA rfl ?_
 refine s0 (binI rfl rfl rfl) rfl ?_
 refine s0 assignA rfl ?_
 refine nil ?_
 refine hK10 _ ?_
 clear hK10 K10
 refine AWp.ret ?_
 repeat (first | refine xBlock_ret ?_ | refine xThen_ret ?_)
 obtain rfl := Option.some.inj hE
 refine retQ.retF H rfl ⟨rfl, rfl⟩ ?_
 exact (fun _ _ h => h)
def Z14 (a0 : Int) : Option Bool := some ((((decide ((65 : Int) ≤ a0)) && (decide (a0 ≤ (90 : Int)))) || ((decide ((97 : Int) ≤ a0)) && (decide (a0 ≤ (122 : Int))))) || (decide (a0 = (95 : Int))))
theorem Z14_walk {a0 : Int}   {r : Bool} (hE : Z14 a0 = some r) (H : Heap)  : ACalls Tryz.prog 95 [.d (.int .u8 a0)] H fun v h' => v = .a (.d (.bool r)) ∧ h' = H := by
 unfold Z14 at hE
 refine ACalls.of_wp (fn := Tryz.f95) (c := _) Tryz.tab_ok (fun _ _ => Tryz.call95 _ _) Tryz.func95 rfl (n := 21) rfl (rs := [.tmp 2]) rfl rfl ?_
 refine seqK fun K1 hK1 => ?_
 refine region ?_
 refine s0 assignA rfl ?_
 refine nil ?_
 refine hK1 _ ?_
 clear hK1 K1
 refine seqK fun K2 hK2 => ?_
 refine region ?_
 refine s0 moveA rfl ?_
 refine s0 (binI rfl rfl rfl) rfl ?_
 refine s0 moveA rfl ?_
 refine gC rfl rfl (fun hC => moveA) rfl ?_
 refine gC rfl rfl (fun hC => ungdA (k := 6) rfl (binI rfl rfl rfl)) rfl ?_
 refine s0 (pickAndA rfl rfl rfl) rfl ?_
 refine s0 moveA rfl ?_
 refine gC rfl rfl (fun hC => moveA) rfl ?_
 refine gC rfl rfl (fun hC => ungdA (k := 10) rfl (binI rfl rfl rfl)) rfl ?_
 refine gC rfl rfl (fun hC => ungdA (k := 11) rfl moveA) rfl ?_
 refine gC rfl rfl (fun hC => moveA) rfl ?_
 refine gC rfl rfl (fun hC => ungdA (k := 13) rfl (binI rfl rfl rfl)) rfl ?_
 refine gC rfl rfl (fun hC => ungdA (k := 12) rfl (pickAndA rfl rfl rfl)) rfl ?_
 refine s0 (pickOrA rfl rfl rfl) rfl ?_
 refine s0 moveA rfl ?_
 refine gC rfl rfl (fun hC => moveA) rfl ?_
 refine gC rfl rfl (fun hC => ungdA (k := 18) rfl (binI rfl rfl rfl)) rfl ?_
 refine s0 (pickOrA rfl rfl rfl) rfl ?_
 refine s0 assignA rfl ?_
 refine nil ?_
 refine hK2 _ ?_
 clear hK2 K2
 refine AWp.ret ?_
 repeat (first | refine xBlock_ret ?_ | refine xThen_ret ?_)
 obtain rfl := Option.some.inj hE
 refine retQ.retF H rfl ⟨rfl, rfl⟩ ?_
 exact (fun _ _ h => h)
def Z13 (a0 : Int) : Option Bool := some ((decide ((48 : Int) ≤ a0)) && (decide (a0 ≤ (57 : Int))))
theorem Z13_walk {a0 : Int}   {r : Bool} (hE : Z13 a0 = some r) (H : Heap)  : ACalls Tryz.prog 96 [.d (.int .u8 a0)] H fun v h' => v = .a (.d (.bool r)) ∧ h' = H := by
 unfold Z13 at hE
 refine ACalls.of_wp (fn := Tryz.f96) (c := _) Tryz.tab_ok (fun _ _ => Tryz.call96 _ _) Tryz.func96 rfl (n := 9) rfl (rs := [.tmp 2]) rfl rfl ?_
 refine seqK fun K1 hK1 => ?_
 refine region ?_
 refine s0 assignA rfl ?_
 refine nil ?_
 refine hK1 _ ?_
 clear hK1 K1
 refine seqK fun K2 hK2 => ?_
 refine region ?_
 refine s0 moveA rfl ?_
 refine s0 (binI rfl rfl rfl) rfl ?_
 refine s0 moveA rfl ?_
 refine gC rfl rfl (fun hC => moveA) rfl ?_
 refine gC rfl rfl (fun hC => ungdA (k := 6) rfl (binI rfl rfl rfl)) rfl ?_
 refine s0 (pickAndA rfl rfl rfl) rfl ?_
 refine s0 assignA rfl ?_
 refine nil ?_
 refine hK2 _ ?_
 clear hK2 K2
 refine AWp.ret ?_
 repeat (first | refine xBlock_ret ?_ | refine xThen_ret ?_)
 obtain rfl := Option.some.inj hE
 refine retQ.retF H rfl ⟨rfl, rfl⟩ ?_
 exact (fun _ _ h => h)
end Go.Proofs
