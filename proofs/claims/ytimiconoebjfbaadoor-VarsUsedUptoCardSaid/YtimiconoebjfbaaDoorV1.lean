import Derived.Test.YtimiconoebjfbaaDoorE3
import Derived.Test.YtimiconoebjfbaaDoorTab
set_option maxRecDepth 100000
set_option maxHeartbeats 2000000
set_option linter.unusedVariables false
set_option linter.unusedSimpArgs false
namespace Go.Proofs
open Go Go.Ab
structure TRef where
 FName : Bs
 FWraps : (Sl Int)
noncomputable def TRef.c (x : TRef) : List D := [.str x.FName, Sl.d 1 (intE .i64) none x.FWraps]
def TRef.zero : TRef := ⟨([] : Bs), (Sl.nil : Sl Int)⟩
inductive TValue where
 | mk (FKind : Int) (FInt : Int) (FText : Bs) (FItems_nl : Bool) (FItems_l : List TValue) (FKeys : (Sl Bs))
def TValue.FKind : TValue → Int | .mk x _ _ _ _ _ => x
def TValue.FInt : TValue → Int | .mk _ x _ _ _ _ => x
def TValue.FText : TValue → Bs | .mk _ _ x _ _ _ => x
def TValue.FItems : TValue → (Sl TValue) | .mk _ _ _ nl l _ => ⟨nl, l⟩
def TValue.FKeys : TValue → (Sl Bs) | .mk _ _ _ _ _ x => x
noncomputable def TValue.FItemsD : TValue → D := @TValue.rec (fun _ => D) (fun _ => List (List D)) (fun _ _ _ nl _ _ ih => .slice 5 none nl ih) [] (fun v _ ih ihl => ((intE .i64) v.FKind ++ (intE .i64) v.FInt ++ strE v.FText ++ [ih] ++ (fun s => [Sl.d 1 strE none s]) v.FKeys) :: ihl)
noncomputable def TValue.c (v : TValue) : List D := (intE .i64) v.FKind ++ (intE .i64) v.FInt ++ strE v.FText ++ [v.FItemsD] ++ (fun s => [Sl.d 1 strE none s]) v.FKeys
theorem TValue.FItemsD_eq (v : TValue) : v.FItemsD = Sl.d 5 TValue.c none v.FItems := by
 cases v with
 | mk y_Kind y_Int y_Text nl l y_Keys =>
  show D.slice 5 none nl _ = D.slice 5 none nl (l.map TValue.c)
  congr 1
  induction l with
  | nil => rfl
  | cons a r ih => exact congrArg (TValue.c a :: ·) ih
def TValue.zero : TValue := .mk (0 : Int) (0 : Int) ([] : Bs) true [] (Sl.nil : Sl Bs)
structure TVar where
 FName : Bs
 FType : TRef
 FHas : Bool
 FDefault : TValue
noncomputable def TVar.c (x : TVar) : List D := strE x.FName ++ TRef.c x.FType ++ boolE x.FHas ++ TValue.c x.FDefault
def TVar.zero : TVar := ⟨([] : Bs), TRef.zero, false, TValue.zero⟩
structure TArg where
 FName : Bs
 FValue : TValue
noncomputable def TArg.c (x : TArg) : List D := strE x.FName ++ TValue.c x.FValue
def TArg.zero : TArg := ⟨([] : Bs), TValue.zero⟩
structure TDir where
 FName : Bs
 FArgs : (Sl TArg)
noncomputable def TDir.c (x : TDir) : List D := [.str x.FName, Sl.d 6 TArg.c none x.FArgs]
def TDir.zero : TDir := ⟨([] : Bs), (Sl.nil : Sl TArg)⟩
inductive TSel where
 | mk (FKind : Int) (FAlias : Bs) (FName : Bs) (FOn : Bs) (FArgs : (Sl TArg)) (FDirs : (Sl TDir)) (FSels_nl : Bool) (FSels_l : List TSel)
def TSel.FKind : TSel → Int | .mk x _ _ _ _ _ _ _ => x
def TSel.FAlias : TSel → Bs | .mk _ x _ _ _ _ _ _ => x
def TSel.FName : TSel → Bs | .mk _ _ x _ _ _ _ _ => x
def TSel.FOn : TSel → Bs | .mk _ _ _ x _ _ _ _ => x
def TSel.FArgs : TSel → (Sl TArg) | .mk _ _ _ _ x _ _ _ => x
def TSel.FDirs : TSel → (Sl TDir) | .mk _ _ _ _ _ x _ _ => x
def TSel.FSels : TSel → (Sl TSel) | .mk _ _ _ _ _ _ nl l => ⟨nl, l⟩
noncomputable def TSel.FSelsD : TSel → D := @TSel.rec (fun _ => D) (fun _ => List (List D)) (fun _ _ _ _ _ _ nl _ ih => .slice 7 none nl ih) [] (fun v _ ih ihl => ((intE .i64) v.FKind ++ strE v.FAlias ++ strE v.FName ++ strE v.FOn ++ (fun s => [Sl.d 6 TArg.c none s]) v.FArgs ++ (fun s => [Sl.d 2 TDir.c none s]) v.FDirs ++ [ih]) :: ihl)
noncomputable def TSel.c (v : TSel) : List D := (intE .i64) v.FKind ++ strE v.FAlias ++ strE v.FName ++ strE v.FOn ++ (fun s => [Sl.d 6 TArg.c none s]) v.FArgs ++ (fun s => [Sl.d 2 TDir.c none s]) v.FDirs ++ [v.FSelsD]
theorem TSel.FSelsD_eq (v : TSel) : v.FSelsD = Sl.d 7 TSel.c none v.FSels := by
 cases v with
 | mk y_Kind y_Alias y_Name y_On y_Args y_Dirs nl l =>
  show D.slice 7 none nl _ = D.slice 7 none nl (l.map TSel.c)
  congr 1
  induction l with
  | nil => rfl
  | cons a r ih => exact congrArg (TSel.c a :: ·) ih
def TSel.zero : TSel := .mk (0 : Int) ([] : Bs) ([] : Bs) ([] : Bs) (Sl.nil : Sl TArg) (Sl.nil : Sl TDir) true []
structure TOp where
 FKind : Int
 FName : Bs
 FVars : (Sl TVar)
 FSels : (Sl TSel)
noncomputable def TOp.c (x : TOp) : List D := [.int .i64 x.FKind, .str x.FName, Sl.d 9 TVar.c none x.FVars, Sl.d 7 TSel.c none x.FSels]
def TOp.zero : TOp := ⟨(0 : Int), ([] : Bs), (Sl.nil : Sl TVar), (Sl.nil : Sl TSel)⟩
structure TFrag where
 FName : Bs
 FOn : Bs
 FSels : (Sl TSel)
noncomputable def TFrag.c (x : TFrag) : List D := [.str x.FName, .str x.FOn, Sl.d 7 TSel.c none x.FSels]
def TFrag.zero : TFrag := ⟨([] : Bs), ([] : Bs), (Sl.nil : Sl TSel)⟩
structure TQuery where
 FOps : (Sl TOp)
 FFrags : (Sl TFrag)
noncomputable def TQuery.c (x : TQuery) : List D := [Sl.d 4 TOp.c none x.FOps, Sl.d 3 TFrag.c none x.FFrags]
def TQuery.zero : TQuery := ⟨(Sl.nil : Sl TOp), (Sl.nil : Sl TFrag)⟩
structure TInput where
 FName : Bs
 FType : TRef
 FHas : Bool
 FDefault : TValue
 FDirs : (Sl TDir)
noncomputable def TInput.c (x : TInput) : List D := strE x.FName ++ TRef.c x.FType ++ boolE x.FHas ++ TValue.c x.FDefault ++ (fun s => [Sl.d 2 TDir.c none s]) x.FDirs
def TInput.zero : TInput := ⟨([] : Bs), TRef.zero, false, TValue.zero, (Sl.nil : Sl TDir)⟩
structure TField where
 FName : Bs
 FArgs : (Sl TInput)
 FType : TRef
 FDirs : (Sl TDir)
noncomputable def TField.c (x : TField) : List D := strE x.FName ++ (fun s => [Sl.d 10 TInput.c none s]) x.FArgs ++ TRef.c x.FType ++ (fun s => [Sl.d 2 TDir.c none s]) x.FDirs
def TField.zero : TField := ⟨([] : Bs), (Sl.nil : Sl TInput), TRef.zero, (Sl.nil : Sl TDir)⟩
structure TMember where
 FName : Bs
 FDirs : (Sl TDir)
noncomputable def TMember.c (x : TMember) : List D := [.str x.FName, Sl.d 2 TDir.c none x.FDirs]
def TMember.zero : TMember := ⟨([] : Bs), (Sl.nil : Sl TDir)⟩
structure TDef where
 FKind : Int
 FName : Bs
 FImplements : (Sl Bs)
 FDirs : (Sl TDir)
 FFields : (Sl TField)
 FMembers : (Sl TMember)
 FInputs : (Sl TInput)
noncomputable def TDef.c (x : TDef) : List D := [.int .i64 x.FKind, .str x.FName, Sl.d 1 strE none x.FImplements, Sl.d 2 TDir.c none x.FDirs, Sl.d 5 TField.c none x.FFields, Sl.d 2 TMember.c none x.FMembers, Sl.d 10 TInput.c none x.FInputs]
def TDef.zero : TDef := ⟨(0 : Int), ([] : Bs), (Sl.nil : Sl Bs), (Sl.nil : Sl TDir), (Sl.nil : Sl TField), (Sl.nil : Sl TMember), (Sl.nil : Sl TInput)⟩
structure TDoc where
 FDefs : (Sl TDef)
noncomputable def TDoc.c (x : TDoc) : List D := [Sl.d 7 TDef.c none x.FDefs]
def TDoc.zero : TDoc := ⟨(Sl.nil : Sl TDef)⟩
structure TFault where
 FErr : Int
 FAt : Bs
def TFault.c (x : TFault) : List D := [.int .i64 x.FErr, .str x.FAt]
def TFault.zero : TFault := ⟨(0 : Int), ([] : Bs)⟩
structure Vars_checker where
 Fd : TDoc
 Fvars : (Sl TVar)
 Fout : (Sl TFault)
noncomputable def Vars_checker.c (x : Vars_checker) : List D := TDoc.c x.Fd ++ (fun s => [Sl.d 9 TVar.c none s]) x.Fvars ++ (fun s => [Sl.d 2 TFault.c none s]) x.Fout
def Vars_checker.zero : Vars_checker := ⟨TDoc.zero, (Sl.nil : Sl TVar), (Sl.nil : Sl TFault)⟩
noncomputable def Vars_checker.cg (t2 : Option Nat) (x : Vars_checker) : List D := TDoc.c x.Fd ++ (fun s => [Sl.d 9 TVar.c none s]) x.Fvars ++ [Sl.d 2 TFault.c t2 x.Fout]
end Go.Proofs

namespace Go.Proofs
open Go Go.Ab Go.RowKit
section
variable {H : Type} {B : DataW H → Nat} (hB : Bulk B)
noncomputable def TRef.sz (x : TRef) : Nat := Bs.sz x.FName + ((Sl.sz (fun _ => 1)) x.FWraps + (0))
def TRef.wf (x : TRef) : Prop := (fun _ => True) x.FName ∧ ((Sl.wf i64) x.FWraps ∧ (True))
include hB in
theorem rd_TRef_32 : ∀ N, RdN Tryd.prog B N 32 TRef.c TRef.sz TRef.wf := RdA.struct hB (Tryd.tab_ok 32 _ rfl) rfl (fun N_ => (RdP.cons (n := 2) (o := 0) (o' := 1) (Tryd.tab_ok 9 _ rfl) rfl ((RdS.str hB (Tryd.tab_ok 9 _ rfl) rfl) N_) (RdP.cons (n := 2) (o := 1) (o' := 2) (Tryd.tab_ok 30 _ rfl) rfl ((RdS.slice hB (Tryd.tab_ok 30 _ rfl) rfl (Tryd.tab_ok 3 _ rfl) rfl (by decide) (fun _ => rfl) (RdS.int hB (Tryd.tab_ok 3 _ rfl) rfl)) N_) (RdP.nil (n := 2))))) (fun a => (⟨a.1, a.2.1⟩ : TRef)) (fun _ => rfl) (fun _ => Nat.le_refl _) (fun _ h => h)
noncomputable def TValue.sz : TValue → Nat := @TValue.rec (fun _ => Nat) (fun _ => Nat) (fun y_Kind y_Int y_Text nl l y_Keys ih => (fun _ => 1) y_Kind + ((fun _ => 1) y_Int + (Bs.sz y_Text + ((1 + ih) + ((Sl.sz Bs.sz) y_Keys + (0)))))) 0 (fun _ _ ih ihl => ih + ihl)
noncomputable def TValue.szL : List TValue → Nat := @TValue.rec_1 (fun _ => Nat) (fun _ => Nat) (fun y_Kind y_Int y_Text nl l y_Keys ih => (fun _ => 1) y_Kind + ((fun _ => 1) y_Int + (Bs.sz y_Text + ((1 + ih) + ((Sl.sz Bs.sz) y_Keys + (0)))))) 0 (fun _ _ ih ihl => ih + ihl)
theorem TValue.szL_eq (l : List TValue) : TValue.szL l = (l.map TValue.sz).sum := by
 induction l with
 | nil => rfl
 | cons a r ih => exact congrArg (TValue.sz a + ·) ih
theorem TValue.sz_eq (x : TValue) : x.sz = (fun _ => 1) x.FKind + ((fun _ => 1) x.FInt + (Bs.sz x.FText + ((Sl.sz TValue.sz) x.FItems + ((Sl.sz Bs.sz) x.FKeys + (0))))) := by
 cases x with
 | mk y_Kind y_Int y_Text nl l y_Keys =>
  show (fun _ => 1) y_Kind + ((fun _ => 1) y_Int + (Bs.sz y_Text + ((1 + TValue.szL l) + ((Sl.sz Bs.sz) y_Keys + (0))))) = _
  rw [TValue.szL_eq]; rfl
def TValue.wf : TValue → Prop := @TValue.rec (fun _ => Prop) (fun _ => Prop) (fun y_Kind y_Int y_Text nl l y_Keys ih => i64 y_Kind ∧ (i64 y_Int ∧ ((fun _ => True) y_Text ∧ (((nl = true → l = []) ∧ l.length ≤ maxN ∧ ih) ∧ ((Sl.wf (fun _ => True)) y_Keys ∧ (True)))))) True (fun _ _ ih ihl => ih ∧ ihl)
def TValue.wfL : List TValue → Prop := @TValue.rec_1 (fun _ => Prop) (fun _ => Prop) (fun y_Kind y_Int y_Text nl l y_Keys ih => i64 y_Kind ∧ (i64 y_Int ∧ ((fun _ => True) y_Text ∧ (((nl = true → l = []) ∧ l.length ≤ maxN ∧ ih) ∧ ((Sl.wf (fun _ => True)) y_Keys ∧ (True)))))) True (fun _ _ ih ihl => ih ∧ ihl)
theorem TValue.wfL_iff (l : List TValue) : TValue.wfL l ↔ ∀ x ∈ l, TValue.wf x := by
 induction l with
 | nil => exact ⟨fun _ _ h => (by cases h), fun _ => trivial⟩
 | cons a r ih =>
  show (TValue.wf a ∧ TValue.wfL r) ↔ _
  rw [ih]; simp
theorem TValue.wf_iff (x : TValue) : x.wf ↔ i64 x.FKind ∧ (i64 x.FInt ∧ ((fun _ => True) x.FText ∧ ((Sl.wf TValue.wf) x.FItems ∧ ((Sl.wf (fun _ => True)) x.FKeys ∧ (True))))) := by
 cases x with
 | mk y_Kind y_Int y_Text nl l y_Keys =>
  show (i64 y_Kind ∧ (i64 y_Int ∧ ((fun _ => True) y_Text ∧ (((nl = true → l = []) ∧ l.length ≤ maxN ∧ TValue.wfL l) ∧ ((Sl.wf (fun _ => True)) y_Keys ∧ (True)))))) ↔ _
  rw [TValue.wfL_iff]; exact Iff.rfl
include hB in
theorem rd_TValue_35 : ∀ N, RdN Tryd.prog B N 35 TValue.c TValue.sz TValue.wf := by
 have key : ∀ N M, M ≤ N → RdN Tryd.prog B M 35 TValue.c TValue.sz TValue.wf := by
  intro N
  induction N with
  | zero => intro M hM; rw [Nat.le_zero.1 hM]; exact .zero
  | succ N ih =>
   intro M hM
   cases M with
   | zero => exact .zero
   | succ N_ =>
    have hit : RdN Tryd.prog B N_ 33 (fun s : Sl TValue => [Sl.d 5 TValue.c none s]) (Sl.sz TValue.sz) (Sl.wf TValue.wf) := by
     cases N_ with
     | zero => exact .zero
     | succ M => exact RdS.sliceN hB (Tryd.tab_ok 33 _ rfl) rfl (Tryd.tab_ok 35 _ rfl) rfl (by decide) (fun _ => rfl) (ih M (by omega))
    refine RdN.struct hB (Tryd.tab_ok 35 _ rfl) rfl (RdP.cons (n := 5) (o := 0) (o' := 1) (Tryd.tab_ok 3 _ rfl) rfl ((RdS.int hB (Tryd.tab_ok 3 _ rfl) rfl) N_) (RdP.cons (n := 5) (o := 1) (o' := 2) (Tryd.tab_ok 3 _ rfl) rfl ((RdS.int hB (Tryd.tab_ok 3 _ rfl) rfl) N_) (RdP.cons (n := 5) (o := 2) (o' := 3) (Tryd.tab_ok 9 _ rfl) rfl ((RdS.str hB (Tryd.tab_ok 9 _ rfl) rfl) N_) (RdP.cons (n := 5) (o := 3) (o' := 4) (Tryd.tab_ok 33 _ rfl) rfl hit (RdP.cons (n := 5) (o := 4) (o' := 5) (Tryd.tab_ok 28 _ rfl) rfl ((RdS.slice hB (Tryd.tab_ok 28 _ rfl) rfl (Tryd.tab_ok 9 _ rfl) rfl (by decide) (fun _ => rfl) (RdS.str hB (Tryd.tab_ok 9 _ rfl) rfl)) N_) (RdP.nil (n := 5))))))) (fun a => TValue.mk a.1 a.2.1 a.2.2.1 a.2.2.2.1.nl a.2.2.2.1.l a.2.2.2.2.1) (fun a => ?_) (fun a => by rw [TValue.sz_eq]; exact Nat.le_refl _) (fun a h => by rw [TValue.wf_iff]; exact h)
    unfold TValue.c
    rw [TValue.FItemsD_eq]
    rfl
 exact fun N => key N N (Nat.le_refl _)
noncomputable def TVar.sz (x : TVar) : Nat := Bs.sz x.FName + (TRef.sz x.FType + ((fun _ => 1) x.FHas + (TValue.sz x.FDefault + (0))))
def TVar.wf (x : TVar) : Prop := (fun _ => True) x.FName ∧ (TRef.wf x.FType ∧ ((fun _ => True) x.FHas ∧ (TValue.wf x.FDefault ∧ (True))))
include hB in
theorem rd_TVar_37 : ∀ N, RdN Tryd.prog B N 37 TVar.c TVar.sz TVar.wf := RdA.struct hB (Tryd.tab_ok 37 _ rfl) rfl (fun N_ => (RdP.cons (n := 9) (o := 0) (o' := 1) (Tryd.tab_ok 9 _ rfl) rfl ((RdS.str hB (Tryd.tab_ok 9 _ rfl) rfl) N_) (RdP.cons (n := 9) (o := 1) (o' := 3) (Tryd.tab_ok 32 _ rfl) rfl ((rd_TRef_32 hB) N_) (RdP.cons (n := 9) (o := 3) (o' := 4) (Tryd.tab_ok 4 _ rfl) rfl ((RdS.bool hB (Tryd.tab_ok 4 _ rfl) rfl) N_) (RdP.cons (n := 9) (o := 4) (o' := 9) (Tryd.tab_ok 35 _ rfl) rfl ((rd_TValue_35 hB) N_) (RdP.nil (n := 9))))))) (fun a => (⟨a.1, a.2.1, a.2.2.1, a.2.2.2.1⟩ : TVar)) (fun _ => rfl) (fun _ => Nat.le_refl _) (fun _ h => h)
noncomputable def TArg.sz (x : TArg) : Nat := Bs.sz x.FName + (TValue.sz x.FValue + (0))
def TArg.wf (x : TArg) : Prop := (fun _ => True) x.FName ∧ (TValue.wf x.FValue ∧ (True))
include hB in
theorem rd_TArg_54 : ∀ N, RdN Tryd.prog B N 54 TArg.c TArg.sz TArg.wf := RdA.struct hB (Tryd.tab_ok 54 _ rfl) rfl (fun N_ => (RdP.cons (n := 6) (o := 0) (o' := 1) (Tryd.tab_ok 9 _ rfl) rfl ((RdS.str hB (Tryd.tab_ok 9 _ rfl) rfl) N_) (RdP.cons (n := 6) (o := 1) (o' := 6) (Tryd.tab_ok 35 _ rfl) rfl ((rd_TValue_35 hB) N_) (RdP.nil (n := 6))))) (fun a => (⟨a.1, a.2.1⟩ : TArg)) (fun _ => rfl) (fun _ => Nat.le_refl _) (fun _ h => h)
noncomputable def TDir.sz (x : TDir) : Nat := Bs.sz x.FName + ((Sl.sz TArg.sz) x.FArgs + (0))
def TDir.wf (x : TDir) : Prop := (fun _ => True) x.FName ∧ ((Sl.wf TArg.wf) x.FArgs ∧ (True))
include hB in
theorem rd_TDir_94 : ∀ N, RdN Tryd.prog B N 94 TDir.c TDir.sz TDir.wf := RdA.struct hB (Tryd.tab_ok 94 _ rfl) rfl (fun N_ => (RdP.cons (n := 2) (o := 0) (o' := 1) (Tryd.tab_ok 9 _ rfl) rfl ((RdS.str hB (Tryd.tab_ok 9 _ rfl) rfl) N_) (RdP.cons (n := 2) (o := 1) (o' := 2) (Tryd.tab_ok 55 _ rfl) rfl ((RdS.slice hB (Tryd.tab_ok 55 _ rfl) rfl (Tryd.tab_ok 54 _ rfl) rfl (by decide) (fun _ => rfl) (rd_TArg_54 hB)) N_) (RdP.nil (n := 2))))) (fun a => (⟨a.1, a.2.1⟩ : TDir)) (fun _ => rfl) (fun _ => Nat.le_refl _) (fun _ h => h)
noncomputable def TSel.sz : TSel → Nat := @TSel.rec (fun _ => Nat) (fun _ => Nat) (fun y_Kind y_Alias y_Name y_On y_Args y_Dirs nl l ih => (fun _ => 1) y_Kind + (Bs.sz y_Alias + (Bs.sz y_Name + (Bs.sz y_On + ((Sl.sz TArg.sz) y_Args + ((Sl.sz TDir.sz) y_Dirs + ((1 + ih) + (0)))))))) 0 (fun _ _ ih ihl => ih + ihl)
noncomputable def TSel.szL : List TSel → Nat := @TSel.rec_1 (fun _ => Nat) (fun _ => Nat) (fun y_Kind y_Alias y_Name y_On y_Args y_Dirs nl l ih => (fun _ => 1) y_Kind + (Bs.sz y_Alias + (Bs.sz y_Name + (Bs.sz y_On + ((Sl.sz TArg.sz) y_Args + ((Sl.sz TDir.sz) y_Dirs + ((1 + ih) + (0)))))))) 0 (fun _ _ ih ihl => ih + ihl)
theorem TSel.szL_eq (l : List TSel) : TSel.szL l = (l.map TSel.sz).sum := by
 induction l with
 | nil => rfl
 | cons a r ih => exact congrArg (TSel.sz a + ·) ih
theorem TSel.sz_eq (x : TSel) : x.sz = (fun _ => 1) x.FKind + (Bs.sz x.FAlias + (Bs.sz x.FName + (Bs.sz x.FOn + ((Sl.sz TArg.sz) x.FArgs + ((Sl.sz TDir.sz) x.FDirs + ((Sl.sz TSel.sz) x.FSels + (0))))))) := by
 cases x with
 | mk y_Kind y_Alias y_Name y_On y_Args y_Dirs nl l =>
  show (fun _ => 1) y_Kind + (Bs.sz y_Alias + (Bs.sz y_Name + (Bs.sz y_On + ((Sl.sz TArg.sz) y_Args + ((Sl.sz TDir.sz) y_Dirs + ((1 + TSel.szL l) + (0))))))) = _
  rw [TSel.szL_eq]; rfl
def TSel.wf : TSel → Prop := @TSel.rec (fun _ => Prop) (fun _ => Prop) (fun y_Kind y_Alias y_Name y_On y_Args y_Dirs nl l ih => i64 y_Kind ∧ ((fun _ => True) y_Alias ∧ ((fun _ => True) y_Name ∧ ((fun _ => True) y_On ∧ ((Sl.wf TArg.wf) y_Args ∧ ((Sl.wf TDir.wf) y_Dirs ∧ (((nl = true → l = []) ∧ l.length ≤ maxN ∧ ih) ∧ (True)))))))) True (fun _ _ ih ihl => ih ∧ ihl)
def TSel.wfL : List TSel → Prop := @TSel.rec_1 (fun _ => Prop) (fun _ => Prop) (fun y_Kind y_Alias y_Name y_On y_Args y_Dirs nl l ih => i64 y_Kind ∧ ((fun _ => True) y_Alias ∧ ((fun _ => True) y_Name ∧ ((fun _ => True) y_On ∧ ((Sl.wf TArg.wf) y_Args ∧ ((Sl.wf TDir.wf) y_Dirs ∧ (((nl = true → l = []) ∧ l.length ≤ maxN ∧ ih) ∧ (True)))))))) True (fun _ _ ih ihl => ih ∧ ihl)
theorem TSel.wfL_iff (l : List TSel) : TSel.wfL l ↔ ∀ x ∈ l, TSel.wf x := by
 induction l with
 | nil => exact ⟨fun _ _ h => (by cases h), fun _ => trivial⟩
 | cons a r ih =>
  show (TSel.wf a ∧ TSel.wfL r) ↔ _
  rw [ih]; simp
theorem TSel.wf_iff (x : TSel) : x.wf ↔ i64 x.FKind ∧ ((fun _ => True) x.FAlias ∧ ((fun _ => True) x.FName ∧ ((fun _ => True) x.FOn ∧ ((Sl.wf TArg.wf) x.FArgs ∧ ((Sl.wf TDir.wf) x.FDirs ∧ ((Sl.wf TSel.wf) x.FSels ∧ (True))))))) := by
 cases x with
 | mk y_Kind y_Alias y_Name y_On y_Args y_Dirs nl l =>
  show (i64 y_Kind ∧ ((fun _ => True) y_Alias ∧ ((fun _ => True) y_Name ∧ ((fun _ => True) y_On ∧ ((Sl.wf TArg.wf) y_Args ∧ ((Sl.wf TDir.wf) y_Dirs ∧ (((nl = true → l = []) ∧ l.length ≤ maxN ∧ TSel.wfL l) ∧ (True)))))))) ↔ _
  rw [TSel.wfL_iff]; exact Iff.rfl
include hB in
theorem rd_TSel_58 : ∀ N, RdN Tryd.prog B N 58 TSel.c TSel.sz TSel.wf := by
 have key : ∀ N M, M ≤ N → RdN Tryd.prog B M 58 TSel.c TSel.sz TSel.wf := by
  intro N
  induction N with
  | zero => intro M hM; rw [Nat.le_zero.1 hM]; exact .zero
  | succ N ih =>
   intro M hM
   cases M with
   | zero => exact .zero
   | succ N_ =>
    have hit : RdN Tryd.prog B N_ 47 (fun s : Sl TSel => [Sl.d 7 TSel.c none s]) (Sl.sz TSel.sz) (Sl.wf TSel.wf) := by
     cases N_ with
     | zero => exact .zero
     | succ M => exact RdS.sliceN hB (Tryd.tab_ok 47 _ rfl) rfl (Tryd.tab_ok 58 _ rfl) rfl (by decide) (fun _ => rfl) (ih M (by omega))
    refine RdN.struct hB (Tryd.tab_ok 58 _ rfl) rfl (RdP.cons (n := 7) (o := 0) (o' := 1) (Tryd.tab_ok 3 _ rfl) rfl ((RdS.int hB (Tryd.tab_ok 3 _ rfl) rfl) N_) (RdP.cons (n := 7) (o := 1) (o' := 2) (Tryd.tab_ok 9 _ rfl) rfl ((RdS.str hB (Tryd.tab_ok 9 _ rfl) rfl) N_) (RdP.cons (n := 7) (o := 2) (o' := 3) (Tryd.tab_ok 9 _ rfl) rfl ((RdS.str hB (Tryd.tab_ok 9 _ rfl) rfl) N_) (RdP.cons (n := 7) (o := 3) (o' := 4) (Tryd.tab_ok 9 _ rfl) rfl ((RdS.str hB (Tryd.tab_ok 9 _ rfl) rfl) N_) (RdP.cons (n := 7) (o := 4) (o' := 5) (Tryd.tab_ok 55 _ rfl) rfl ((RdS.slice hB (Tryd.tab_ok 55 _ rfl) rfl (Tryd.tab_ok 54 _ rfl) rfl (by decide) (fun _ => rfl) (rd_TArg_54 hB)) N_) (RdP.cons (n := 7) (o := 5) (o' := 6) (Tryd.tab_ok 56 _ rfl) rfl ((RdS.slice hB (Tryd.tab_ok 56 _ rfl) rfl (Tryd.tab_ok 94 _ rfl) rfl (by decide) (fun _ => rfl) (rd_TDir_94 hB)) N_) (RdP.cons (n := 7) (o := 6) (o' := 7) (Tryd.tab_ok 47 _ rfl) rfl hit (RdP.nil (n := 7))))))))) (fun a => TSel.mk a.1 a.2.1 a.2.2.1 a.2.2.2.1 a.2.2.2.2.1 a.2.2.2.2.2.1 a.2.2.2.2.2.2.1.nl a.2.2.2.2.2.2.1.l) (fun a => ?_) (fun a => by rw [TSel.sz_eq]; exact Nat.le_refl _) (fun a h => by rw [TSel.wf_iff]; exact h)
    unfold TSel.c
    rw [TSel.FSelsD_eq]
    rfl
 exact fun N => key N N (Nat.le_refl _)
noncomputable def TOp.sz (x : TOp) : Nat := (fun _ => 1) x.FKind + (Bs.sz x.FName + ((Sl.sz TVar.sz) x.FVars + ((Sl.sz TSel.sz) x.FSels + (0))))
def TOp.wf (x : TOp) : Prop := i64 x.FKind ∧ ((fun _ => True) x.FName ∧ ((Sl.wf TVar.wf) x.FVars ∧ ((Sl.wf TSel.wf) x.FSels ∧ (True))))
include hB in
theorem rd_TOp_49 : ∀ N, RdN Tryd.prog B N 49 TOp.c TOp.sz TOp.wf := RdA.struct hB (Tryd.tab_ok 49 _ rfl) rfl (fun N_ => (RdP.cons (n := 4) (o := 0) (o' := 1) (Tryd.tab_ok 3 _ rfl) rfl ((RdS.int hB (Tryd.tab_ok 3 _ rfl) rfl) N_) (RdP.cons (n := 4) (o := 1) (o' := 2) (Tryd.tab_ok 9 _ rfl) rfl ((RdS.str hB (Tryd.tab_ok 9 _ rfl) rfl) N_) (RdP.cons (n := 4) (o := 2) (o' := 3) (Tryd.tab_ok 46 _ rfl) rfl ((RdS.slice hB (Tryd.tab_ok 46 _ rfl) rfl (Tryd.tab_ok 37 _ rfl) rfl (by decide) (fun _ => rfl) (rd_TVar_37 hB)) N_) (RdP.cons (n := 4) (o := 3) (o' := 4) (Tryd.tab_ok 47 _ rfl) rfl ((RdS.slice hB (Tryd.tab_ok 47 _ rfl) rfl (Tryd.tab_ok 58 _ rfl) rfl (by decide) (fun _ => rfl) (rd_TSel_58 hB)) N_) (RdP.nil (n := 4))))))) (fun a => (⟨a.1, a.2.1, a.2.2.1, a.2.2.2.1⟩ : TOp)) (fun _ => rfl) (fun _ => Nat.le_refl _) (fun _ h => h)
noncomputable def TFrag.sz (x : TFrag) : Nat := Bs.sz x.FName + (Bs.sz x.FOn + ((Sl.sz TSel.sz) x.FSels + (0)))
def TFrag.wf (x : TFrag) : Prop := (fun _ => True) x.FName ∧ ((fun _ => True) x.FOn ∧ ((Sl.wf TSel.wf) x.FSels ∧ (True)))
include hB in
theorem rd_TFrag_52 : ∀ N, RdN Tryd.prog B N 52 TFrag.c TFrag.sz TFrag.wf := RdA.struct hB (Tryd.tab_ok 52 _ rfl) rfl (fun N_ => (RdP.cons (n := 3) (o := 0) (o' := 1) (Tryd.tab_ok 9 _ rfl) rfl ((RdS.str hB (Tryd.tab_ok 9 _ rfl) rfl) N_) (RdP.cons (n := 3) (o := 1) (o' := 2) (Tryd.tab_ok 9 _ rfl) rfl ((RdS.str hB (Tryd.tab_ok 9 _ rfl) rfl) N_) (RdP.cons (n := 3) (o := 2) (o' := 3) (Tryd.tab_ok 47 _ rfl) rfl ((RdS.slice hB (Tryd.tab_ok 47 _ rfl) rfl (Tryd.tab_ok 58 _ rfl) rfl (by decide) (fun _ => rfl) (rd_TSel_58 hB)) N_) (RdP.nil (n := 3)))))) (fun a => (⟨a.1, a.2.1, a.2.2.1⟩ : TFrag)) (fun _ => rfl) (fun _ => Nat.le_refl _) (fun _ h => h)
noncomputable def TQuery.sz (x : TQuery) : Nat := (Sl.sz TOp.sz) x.FOps + ((Sl.sz TFrag.sz) x.FFrags + (0))
def TQuery.wf (x : TQuery) : Prop := (Sl.wf TOp.wf) x.FOps ∧ ((Sl.wf TFrag.wf) x.FFrags ∧ (True))
include hB in
theorem rd_TQuery_25 : ∀ N, RdN Tryd.prog B N 25 TQuery.c TQuery.sz TQuery.wf := RdA.struct hB (Tryd.tab_ok 25 _ rfl) rfl (fun N_ => (RdP.cons (n := 2) (o := 0) (o' := 1) (Tryd.tab_ok 22 _ rfl) rfl ((RdS.slice hB (Tryd.tab_ok 22 _ rfl) rfl (Tryd.tab_ok 49 _ rfl) rfl (by decide) (fun _ => rfl) (rd_TOp_49 hB)) N_) (RdP.cons (n := 2) (o := 1) (o' := 2) (Tryd.tab_ok 23 _ rfl) rfl ((RdS.slice hB (Tryd.tab_ok 23 _ rfl) rfl (Tryd.tab_ok 52 _ rfl) rfl (by decide) (fun _ => rfl) (rd_TFrag_52 hB)) N_) (RdP.nil (n := 2))))) (fun a => (⟨a.1, a.2.1⟩ : TQuery)) (fun _ => rfl) (fun _ => Nat.le_refl _) (fun _ h => h)
end
theorem TRef.sz_def (x : TRef) : x.sz = 0 + Bs.sz x.FName + (Sl.sz (fun _ => 1)) x.FWraps := by
 unfold TRef.sz; try dsimp only
 omega
theorem TRef.pos (x : TRef) : 1 ≤ x.sz := by
 rw [TRef.sz_def]; have := Bs.sz_pos x.FName; omega
theorem TValue.sz_def (x : TValue) : x.sz = 0 + 1 + 1 + Bs.sz x.FText + (Sl.sz TValue.sz) x.FItems + (Sl.sz Bs.sz) x.FKeys := by
 rw [TValue.sz_eq]; try dsimp only
 omega
theorem TValue.pos (x : TValue) : 1 ≤ x.sz := by
 rw [TValue.sz_def]; have := Bs.sz_pos x.FText; omega
theorem TVar.sz_def (x : TVar) : x.sz = 0 + Bs.sz x.FName + TRef.sz x.FType + 1 + TValue.sz x.FDefault := by
 unfold TVar.sz; try dsimp only
 omega
theorem TVar.pos (x : TVar) : 1 ≤ x.sz := by
 rw [TVar.sz_def]; have := Bs.sz_pos x.FName; omega
theorem TArg.sz_def (x : TArg) : x.sz = 0 + Bs.sz x.FName + TValue.sz x.FValue := by
 unfold TArg.sz; try dsimp only
 omega
theorem TArg.pos (x : TArg) : 1 ≤ x.sz := by
 rw [TArg.sz_def]; have := Bs.sz_pos x.FName; omega
theorem TDir.sz_def (x : TDir) : x.sz = 0 + Bs.sz x.FName + (Sl.sz TArg.sz) x.FArgs := by
 unfold TDir.sz; try dsimp only
 omega
theorem TDir.pos (x : TDir) : 1 ≤ x.sz := by
 rw [TDir.sz_def]; have := Bs.sz_pos x.FName; omega
theorem TSel.sz_def (x : TSel) : x.sz = 0 + 1 + Bs.sz x.FAlias + Bs.sz x.FName + Bs.sz x.FOn + (Sl.sz TArg.sz) x.FArgs + (Sl.sz TDir.sz) x.FDirs + (Sl.sz TSel.sz) x.FSels := by
 rw [TSel.sz_eq]; try dsimp only
 omega
theorem TSel.pos (x : TSel) : 1 ≤ x.sz := by
 rw [TSel.sz_def]; have := Bs.sz_pos x.FAlias; omega
theorem TOp.sz_def (x : TOp) : x.sz = 0 + 1 + Bs.sz x.FName + (Sl.sz TVar.sz) x.FVars + (Sl.sz TSel.sz) x.FSels := by
 unfold TOp.sz; try dsimp only
 omega
theorem TOp.pos (x : TOp) : 1 ≤ x.sz := by
 rw [TOp.sz_def]; have := Bs.sz_pos x.FName; omega
theorem TFrag.sz_def (x : TFrag) : x.sz = 0 + Bs.sz x.FName + Bs.sz x.FOn + (Sl.sz TSel.sz) x.FSels := by
 unfold TFrag.sz; try dsimp only
 omega
theorem TFrag.pos (x : TFrag) : 1 ≤ x.sz := by
 rw [TFrag.sz_def]; have := Bs.sz_pos x.FName; omega
theorem TQuery.sz_def (x : TQuery) : x.sz = 0 + (Sl.sz TOp.sz) x.FOps + (Sl.sz TFrag.sz) x.FFrags := by
 unfold TQuery.sz; try dsimp only
 omega
theorem TQuery.pos (x : TQuery) : 1 ≤ x.sz := by
 rw [TQuery.sz_def]; have := Sl.sz_pos TOp.sz x.FOps; omega
end Go.Proofs

namespace Go.Proofs
open Go Go.Ab
open AOps Cert AWp
def Z11_j2   : Option Bool := some false
def Z11_l5 (a0 : (Sl TSel)) (a1 : Int) (k_rec_12 : (Sl TSel) → Int → Option Bool) : Nat → Nat → Option Bool
 | 0, _ => none
 | n5 + 1, s5_6 => bif (decide (((s5_6 : Nat) : Int) < ((a0.l.length : Nat) : Int))) then (guardO (!(decide (a1 ≤ (0 : Int)))) (a0.l[s5_6]?) TSel.zero fun x13 => guardO (!(decide (a1 ≤ (0 : Int)))) (subC a1 (1 : Int)) (0 : Int) fun x14 => guardO (!(decide (a1 ≤ (0 : Int)))) (k_rec_12 x13.FSels x14) false fun x15 => bif ((decide (a1 ≤ (0 : Int))) || x15) then (some true) else ((Z11_l5 a0 a1 k_rec_12 n5) (s5_6 + 1))) else (Z11_j2   )
def Z11_n : Nat → (Sl TSel) → Int → Option Bool
 | 0, _, _ => none
 | n + 1, a0, a1 => Z11_l5 a0 a1 (Z11_n n) (a0.l.length + 1) 0
theorem Z11_step (n : Nat) (ih_12 : ∀ {a0 : (Sl TSel)} {a1 : Int} {w0 : Option Nat}  {r : Bool}, Z11_n n a0 a1 = some r → ∀ (H : Heap), ACalls Tryd.prog 12 [.d (Sl.d 7 TSel.c w0 a0), .d (.int .i64 a1)] H fun v h' => v = .a (.d (.bool r)) ∧ h' = H) : ∀ {a0 : (Sl TSel)} {a1 : Int} {w0 : Option Nat}  {r : Bool}, Z11_n (n + 1) a0 a1 = some r → ∀ (H : Heap), ACalls Tryd.prog 12 [.d (Sl.d 7 TSel.c w0 a0), .d (.int .i64 a1)] H fun v h' => v = .a (.d (.bool r)) ∧ h' = H := by
 intro a0 a1 w0  r hE H 
 rw [Z11_n] at hE
 refine ACalls.of_wp (fn := Tryd.f12) (c := _) Tryd.tab_ok (fun _ _ => Tryd.call12 _ _) Tryd.func12 rfl (n := 24) rfl (rs := [.tmp 4]) rfl rfl ?_
 refine seqK fun K1 hK1 => ?_
 refine region ?_
 refine s0 assignA rfl ?_
 refine nil ?_
 refine hK1 _ ?_
 clear hK1 K1
 refine seqJH KeepsT.nil (fun (z : Unit) => []) (fun z => H) (fun z => Z11_j2  = some r) ?_ ?_
 ·intro K2 hK2
  refine seqK fun K4 hK4 => ?_
  refine region ?_
  refine s0 assignA rfl ?_
  refine nil ?_
  refine hK4 _ ?_
  clear hK4 K4
  refine block ?_
  refine loopH (KeepsT.A (k := 0) (KeepsT.A (k := 1) KeepsT.nil)) (fun (z : Nat × Nat) => [(5, .a (.d (.int .i64 ((z.2 : Nat) : Int))))]) (fun z => H) (fun z => z.1) (fun z => Z11_l5 a0 a1 (Z11_n n) z.1 z.2 = some r) ((a0.l.length + 1), 0) hE Weak.toA ?_
  rintro ⟨n5, s5_6⟩ hE K5 hK5
  try dsimp only at hE
  cases n5 with
  | zero => cases hE
  | succ n5 =>
    rw [Z11_l5] at hE
    refine seqK fun K7 hK7 => ?_
    refine seqK fun K8 hK8 => ?_
    refine region ?_
    refine s0 moveA rfl ?_
    refine s0 moveA rfl ?_
    refine sLen (f := TSel.c) (s := a0) (TK rfl) rfl rfl rfl rfl fun hL9 => ?_
    refine s0 (binI rfl rfl rfl) rfl ?_
    refine nil ?_
    refine hK8 _ ?_
    clear hK8 K8
    refine condE hE rfl (fun hc10 hE => ?_) (fun hc10 hE => ?_)
    ·try dsimp only at hc10
     have hf10 := of_decide_eq_true hc10
     refine AWp.skip ?_
     refine hK7 _ ?_
     clear hK7 K7
     refine seqK fun K11 hK11 => ?_
     refine block ?_
     refine seqK fun K12 hK12 => ?_
     refine region ?_
     refine s0 moveA rfl ?_
     refine s0 (binI rfl rfl rfl) rfl ?_
     refine s0 moveA rfl ?_
     refine gC rfl rfl (fun hC => moveA) rfl ?_
     refine gC rfl rfl (fun hC => moveA) rfl ?_
     obtain ⟨x13, gx13, hE⟩ := guardO_some hE
     refine gC rfl rfl (fun hC => ungdA (k := 15) rfl (ungdA (k := 16) rfl (idxMn (f := TSel.c) (n := s5_6) (TK rfl) rfl (TK rfl) rfl rfl rfl (gx13 hC)))) rfl ?_
     refine gC rfl rfl (fun hC => ungdA (k := 17) rfl (fieldVA (TK rfl) rfl rfl (TK rfl) rfl rfl)) rfl ?_
     refine gC rfl rfl (fun hC => ungdA (k := 18) rfl (loadV (TK rfl) rfl rfl (congrArg (fun x => some (A.d x)) (TSel.FSelsD_eq _)))) rfl ?_
     refine gC rfl rfl (fun hC => moveA) rfl ?_
     obtain ⟨x14, gx14, hE⟩ := guardO_some hE
     refine gC rfl rfl (fun hC => ungdA (k := 20) rfl (subM rfl rfl (gx14 hC))) rfl ?_
     obtain ⟨x15, gx15, hE⟩ := guardO_some hE
     refine gC rfl rfl (fun hC => ungdA (k := 19) rfl (ungdA (k := 21) rfl (callP rfl rfl (fun H => ih_12 (gx15 hC) H)))) rfl ?_
     refine s0 (pickOrA rfl rfl rfl) rfl ?_
     refine nil ?_
     refine hK12 _ ?_
     clear hK12 K12
     refine condE hE rfl (fun hc16 hE => ?_) (fun hc16 hE => ?_)
     ·refine seqK fun K17 hK17 => ?_
      refine region ?_
      refine s0 assignA rfl ?_
      refine nil ?_
      refine hK17 _ ?_
      clear hK17 K17
      refine AWp.ret ?_
      repeat (first | refine xBlock_ret ?_ | refine xThen_ret ?_)
      obtain rfl := Option.some.inj hE
      refine retQ.retF H rfl ⟨rfl, rfl⟩ ?_
      exact (fun _ _ h => h)
     refine AWp.skip ?_
     refine hK11 _ ?_
     clear hK11 K11
     refine region ?_
     refine s0 moveA rfl ?_
     refine s0 (addIA rfl rfl) rfl ?_
     refine s0 assignA rfl ?_
     refine nil ?_
     exact hK5 _ (n5, (s5_6 + 1)) Weak.toA hE (Nat.lt_succ_self _)
    refine AWp.exit ?_
    exact hK2 _ () Weak.toA hE
 rintro _ hE
 try dsimp only at hE
 unfold Z11_j2 at hE
 refine seqK fun K3 hK3 => ?_
 refine region ?_
 refine s0 assignA rfl ?_
 refine nil ?_
 refine hK3 _ ?_
 clear hK3 K3
 refine AWp.ret ?_
 repeat (first | refine xBlock_ret ?_ | refine xThen_ret ?_)
 obtain rfl := Option.some.inj hE
 refine retQ.retF H rfl ⟨rfl, rfl⟩ ?_
 exact (fun _ _ h => h)
theorem Z11_all : ∀ (n : Nat), (∀ {a0 : (Sl TSel)} {a1 : Int} {w0 : Option Nat}  {r : Bool}, Z11_n n a0 a1 = some r → ∀ (H : Heap), ACalls Tryd.prog 12 [.d (Sl.d 7 TSel.c w0 a0), .d (.int .i64 a1)] H fun v h' => v = .a (.d (.bool r)) ∧ h' = H)
 | 0 => fun hE => by first | cases hE | (rw [Z11_n] at hE; cases hE)
 | n + 1 => Z11_step n (Z11_all n)
def Z11 (a0 : (Sl TSel)) (a1 : Int) : Option Bool := Z11_n F0 a0 a1
theorem Z11_walk {a0 : (Sl TSel)} {a1 : Int} {w0 : Option Nat}  {r : Bool} (hE : Z11 a0 a1 = some r) (H : Heap)  : ACalls Tryd.prog 12 [.d (Sl.d 7 TSel.c w0 a0), .d (.int .i64 a1)] H fun v h' => v = .a (.d (.bool r)) ∧ h' = H := (Z11_all F0) hE H 
def Z10_j3  (s5_4 : Int) : Option Int := some s5_4
def Z10_l7 (a0 : (Sl TSel)) (a1 : Int) (k_rec_13 : (Sl TSel) → Int → Option Int) : Nat → Int → Nat → Option Int
 | 0, _, _ => none
 | n7 + 1, s5_8, s6_9 => bif ((decide (((s6_9 : Nat) : Int) < ((a0.l.length : Nat) : Int))) && (decide (s5_8 < a1))) then ((a0.l[s6_9]?).bind fun x15 => (addC (1 : Int) ((x15.FArgs.l.length : Nat) : Int)).bind fun x16 => (a0.l[s6_9]?).bind fun x17 => (addC x16 ((x17.FDirs.l.length : Nat) : Int)).bind fun x18 => (a0.l[s6_9]?).bind fun x19 => (subC a1 s5_8).bind fun x20 => (k_rec_13 x19.FSels x20).bind fun x21 => (addC x18 x21).bind fun x22 => (addC s5_8 x22).bind fun x23 => (Z10_l7 a0 a1 k_rec_13 n7) x23 (s6_9 + 1)) else (Z10_j3   s5_8)
def Z10_n : Nat → (Sl TSel) → Int → Option Int
 | 0, _, _ => none
 | n + 1, a0, a1 => Z10_l7 a0 a1 (Z10_n n) (a0.l.length + 1) (0 : Int) 0
theorem Z10_step (n : Nat) (ih_13 : ∀ {a0 : (Sl TSel)} {a1 : Int} {w0 : Option Nat}  {r : Int}, Z10_n n a0 a1 = some r → ∀ (H : Heap), ACalls Tryd.prog 13 [.d (Sl.d 7 TSel.c w0 a0), .d (.int .i64 a1)] H fun v h' => v = .a (.d (.int .i64 r)) ∧ h' = H) : ∀ {a0 : (Sl TSel)} {a1 : Int} {w0 : Option Nat}  {r : Int}, Z10_n (n + 1) a0 a1 = some r → ∀ (H : Heap), ACalls Tryd.prog 13 [.d (Sl.d 7 TSel.c w0 a0), .d (.int .i64 a1)] H fun v h' => v = .a (.d (.int .i64 r)) ∧ h' = H := by
 intro a0 a1 w0  r hE H 
 rw [Z10_n] at hE
 refine ACalls.of_wp (fn := Tryd.f13) (c := _) Tryd.tab_ok (fun _ _ => Tryd.call13 _ _) Tryd.func13 rfl (n := 45) rfl (rs := [.tmp 4]) rfl rfl ?_
 refine seqK fun K1 hK1 => ?_
 refine region ?_
 refine s0 assignA rfl ?_
 refine nil ?_
 refine hK1 _ ?_
 clear hK1 K1
 refine seqK fun K2 hK2 => ?_
 refine region ?_
 refine s0 assignA rfl ?_
 refine nil ?_
 refine hK2 _ ?_
 clear hK2 K2
 refine seqJH KeepsT.nil (fun (z : Int) => [(5, .a (.d (.int .i64 z)))]) (fun z => H) (fun z => Z10_j3 z = some r) ?_ ?_
 ·intro K3 hK3
  refine seqK fun K6 hK6 => ?_
  refine region ?_
  refine s0 assignA rfl ?_
  refine nil ?_
  refine hK6 _ ?_
  clear hK6 K6
  refine block ?_
  refine loopH (KeepsT.A (k := 0) (KeepsT.A (k := 1) KeepsT.nil)) (fun (z : Nat × Int × Nat) => [(5, .a (.d (.int .i64 z.2.1))), (6, .a (.d (.int .i64 ((z.2.2 : Nat) : Int))))]) (fun z => H) (fun z => z.1) (fun z => Z10_l7 a0 a1 (Z10_n n) z.1 z.2.1 z.2.2 = some r) ((a0.l.length + 1), (0 : Int), 0) hE Weak.toA ?_
  rintro ⟨n7, s5_8, s6_9⟩ hE K7 hK7
  try dsimp only at hE
  cases n7 with
  | zero => cases hE
  | succ n7 =>
    rw [Z10_l7] at hE
    refine seqK fun K10 hK10 => ?_
    refine seqK fun K11 hK11 => ?_
    refine region ?_
    refine s0 moveA rfl ?_
    refine s0 moveA rfl ?_
    refine sLen (f := TSel.c) (s := a0) (TK rfl) rfl rfl rfl rfl fun hL12 => ?_
    refine s0 (binI rfl rfl rfl) rfl ?_
    refine s0 moveA rfl ?_
    refine gC rfl rfl (fun hC => moveA) rfl ?_
    refine gC rfl rfl (fun hC => moveA) rfl ?_
    refine gC rfl rfl (fun hC => ungdA (k := 12) rfl (ungdA (k := 13) rfl (binI rfl rfl rfl))) rfl ?_
    refine s0 (pickAndA rfl rfl rfl) rfl ?_
    refine nil ?_
    refine hK11 _ ?_
    clear hK11 K11
    refine condE hE rfl (fun hc13 hE => ?_) (fun hc13 hE => ?_)
    ·try dsimp only at hc13
     have hf13 := of_decide_eq_true (and_left hc13)
     refine AWp.skip ?_
     refine hK10 _ ?_
     clear hK10 K10
     refine seqK fun K14 hK14 => ?_
     refine block ?_
     refine AWp.draw rfl ?_
     refine DOps.s0 moveA rfl ?_
     refine DOps.s0 moveA rfl ?_
     refine DOps.s0 moveA rfl ?_
     obtain ⟨x15, gx15, hE⟩ := bindO_some hE
     refine DOps.s0 (idxMn (f := TSel.c) (n := s6_9) (TK rfl) rfl (TK rfl) rfl rfl rfl gx15) rfl ?_
     refine DOps.s0 (fieldVA (TK rfl) rfl rfl (TK rfl) rfl rfl) rfl ?_
     refine DOps.s0 (loadV (TK rfl) rfl rfl rfl) rfl ?_
     refine DOps.s0 (lenM' (f := TArg.c) (s := x15.FArgs) (TK rfl) rfl rfl rfl) rfl ?_
     obtain ⟨x16, gx16, hE⟩ := bindO_some hE
     refine DOps.s0 (addM rfl rfl gx16) rfl ?_
     refine DOps.s0 moveA rfl ?_
     refine DOps.s0 moveA rfl ?_
     obtain ⟨x17, gx17, hE⟩ := bindO_some hE
     refine DOps.s0 (idxMn (f := TSel.c) (n := s6_9) (TK rfl) rfl (TK rfl) rfl rfl rfl gx17) rfl ?_
     refine DOps.s0 (fieldVA (TK rfl) rfl rfl (TK rfl) rfl rfl) rfl ?_
     refine DOps.s0 (loadV (TK rfl) rfl rfl rfl) rfl ?_
     refine DOps.s0 (lenM' (f := TDir.c) (s := x17.FDirs) (TK rfl) rfl rfl rfl) rfl ?_
     obtain ⟨x18, gx18, hE⟩ := bindO_some hE
     refine DOps.s0 (addM rfl rfl gx18) rfl ?_
     refine DOps.s0 moveA rfl ?_
     refine DOps.s0 moveA rfl ?_
     obtain ⟨x19, gx19, hE⟩ := bindO_some hE
     refine DOps.s0 (idxMn (f := TSel.c) (n := s6_9) (TK rfl) rfl (TK rfl) rfl rfl rfl gx19) rfl ?_
     refine DOps.s0 (fieldVA (TK rfl) rfl rfl (TK rfl) rfl rfl) rfl ?_
     refine DOps.s0 (loadV (TK rfl) rfl rfl (congrArg (fun x => some (A.d x)) (TSel.FSelsD_eq _))) rfl ?_
     refine DOps.s0 moveA rfl ?_
     refine DOps.s0 moveA rfl ?_
     obtain ⟨x20, gx20, hE⟩ := bindO_some hE
     refine DOps.s0 (subM rfl rfl gx20) rfl ?_
     obtain ⟨x21, gx21, hE⟩ := bindO_some hE
     refine DOps.s0 (callP rfl rfl (fun H => ih_13 gx21 H)) rfl ?_
     obtain ⟨x22, gx22, hE⟩ := bindO_some hE
     refine DOps.s0 (addM rfl rfl gx22) rfl ?_
     obtain ⟨x23, gx23, hE⟩ := bindO_some hE
     refine DOps.s0 (addM rfl rfl gx23) rfl ?_
     refine DOps.s0 assignA rfl ?_
     refine DOps.nil (by decide +kernel) ?_
     refine hK14 _ ?_
     clear hK14 K14
     refine region ?_
     refine s0 moveA rfl ?_
     refine s0 (addIA rfl rfl) rfl ?_
     refine s0 assignA rfl ?_
     refine nil ?_
     exact hK7 _ (n7, x23, (s6_9 + 1)) Weak.toA hE (Nat.lt_succ_self _)
    refine AWp.exit ?_
    exact hK3 _ s5_8 Weak.toA hE
 rintro s5_4 hE
 try dsimp only at hE
 unfold Z10_j3 at hE
 refine seqK fun K5 hK5 => ?_
 refine region ?_
 refine s0 moveA rfl ?_
 refine s0 assignA rfl ?_
 refine nil ?_
 refine hK5 _ ?_
 clear hK5 K5
 refine AWp.ret ?_
 repeat (first | refine xBlock_ret ?_ | refine xThen_ret ?_)
 obtain rfl := Option.some.inj hE
 refine retQ.retF H rfl ⟨rfl, rfl⟩ ?_
 exact (fun _ _ h => h)
theorem Z10_all : ∀ (n : Nat), (∀ {a0 : (Sl TSel)} {a1 : Int} {w0 : Option Nat}  {r : Int}, Z10_n n a0 a1 = some r → ∀ (H : Heap), ACalls Tryd.prog 13 [.d (Sl.d 7 TSel.c w0 a0), .d (.int .i64 a1)] H fun v h' => v = .a (.d (.int .i64 r)) ∧ h' = H)
 | 0 => fun hE => by first | cases hE | (rw [Z10_n] at hE; cases hE)
 | n + 1 => Z10_step n (Z10_all n)
def Z10 (a0 : (Sl TSel)) (a1 : Int) : Option Int := Z10_n F0 a0 a1
theorem Z10_walk {a0 : (Sl TSel)} {a1 : Int} {w0 : Option Nat}  {r : Int} (hE : Z10 a0 a1 = some r) (H : Heap)  : ACalls Tryd.prog 13 [.d (Sl.d 7 TSel.c w0 a0), .d (.int .i64 a1)] H fun v h' => v = .a (.d (.int .i64 r)) ∧ h' = H := (Z10_all F0) hE H 
def Z9_j10  (s3_11 : Int) : Option Bool := some (decide ((300 : Int) < s3_11))
def Z9_l14 (a0 : TQuery)  : Nat → Int → Nat → Option Bool
 | 0, _, _ => none
 | n14 + 1, s3_15, s5_16 => bif (decide (((s5_16 : Nat) : Int) < ((a0.FFrags.l.length : Nat) : Int))) then ((a0.FFrags.l[s5_16]?).bind fun x24 => (Z11 x24.FSels (26 : Int)).bind fun x25 => bif x25 then (some true) else ((a0.FFrags.l[s5_16]?).bind fun x28 => (Z10 x28.FSels (300 : Int)).bind fun x29 => (addC s3_15 x29).bind fun x30 => (Z9_l14 a0 n14) x30 (s5_16 + 1))) else (Z9_j10   s3_15)
def Z9_j8 (a0 : TQuery)  (s3_9 : Int) : Option Bool := Z9_l14 a0 (a0.FFrags.l.length + 1) s3_9 0
def Z9_l32 (a0 : TQuery)  : Nat → Int → Nat → Option Bool
 | 0, _, _ => none
 | n32 + 1, s3_33, s4_34 => bif (decide (((s4_34 : Nat) : Int) < ((a0.FOps.l.length : Nat) : Int))) then ((a0.FOps.l[s4_34]?).bind fun x42 => (Z11 x42.FSels (26 : Int)).bind fun x43 => guardO (!x43) (a0.FOps.l[s4_34]?) TOp.zero fun x44 => bif (x43 || (decide ((30 : Int) < ((x44.FVars.l.length : Nat) : Int)))) then (some true) else ((a0.FOps.l[s4_34]?).bind fun x47 => (Z10 x47.FSels (300 : Int)).bind fun x48 => (addC s3_33 x48).bind fun x49 => (Z9_l32 a0 n32) x49 (s4_34 + 1))) else (Z9_j8 a0  s3_33)
def Z9 (a0 : TQuery) : Option Bool := bif ((decide ((8 : Int) < ((a0.FOps.l.length : Nat) : Int))) || (decide ((12 : Int) < ((a0.FFrags.l.length : Nat) : Int)))) then (some true) else (Z9_l32 a0 (a0.FOps.l.length + 1) (0 : Int) 0)
theorem Z9_walk {a0 : TQuery}   {r : Bool} (hE : Z9 a0 = some r) (H : Heap)  : ACalls Tryd.prog 5 [.agg (TQuery.c a0)] H fun v h' => v = .a (.d (.bool r)) ∧ h' = H := by
 unfold Z9 at hE
 refine ACalls.of_wp (fn := Tryd.f5) (c := _) Tryd.tab_ok (fun _ _ => Tryd.call5 _ _) Tryd.func5 rfl (n := 74) rfl (rs := [.tmp 2]) rfl rfl ?_
 refine seqK fun K1 hK1 => ?_
 refine region ?_
 refine s0 (boxV rfl) rfl ?_
 refine s0 assignA rfl ?_
 refine nil ?_
 refine hK1 _ ?_
 clear hK1 K1
 refine seqK fun K2 hK2 => ?_
 refine seqK fun K3 hK3 => ?_
 refine region ?_
 refine s0 (fieldVA (TK rfl) rfl rfl (TK rfl) rfl rfl) rfl ?_
 refine s0 (loadV (TK rfl) rfl rfl rfl) rfl ?_
 refine sLen (f := TOp.c) (s := a0.FOps) (TK rfl) rfl rfl rfl rfl fun hL4 => ?_
 refine s0 (binI rfl rfl rfl) rfl ?_
 refine s0 moveA rfl ?_
 refine gC rfl rfl (fun hC => fieldVA (TK rfl) rfl rfl (TK rfl) rfl rfl) rfl ?_
 refine gC rfl rfl (fun hC => ungdA (k := 11) rfl (loadV (TK rfl) rfl rfl rfl)) rfl ?_
 refine gC rfl rfl (fun hC => ungdA (k := 12) rfl (lenM' (f := TFrag.c) (s := a0.FFrags) (TK rfl) rfl rfl rfl)) rfl ?_
 refine gC rfl rfl (fun hC => ungdA (k := 13) rfl (binI rfl rfl rfl)) rfl ?_
 refine s0 (pickOrA rfl rfl rfl) rfl ?_
 refine nil ?_
 refine hK3 _ ?_
 clear hK3 K3
 refine condE hE rfl (fun hc5 hE => ?_) (fun hc5 hE => ?_)
 ·refine seqK fun K6 hK6 => ?_
  refine region ?_
  refine s0 assignA rfl ?_
  refine nil ?_
  refine hK6 _ ?_
  clear hK6 K6
  refine AWp.ret ?_
  repeat (first | refine xBlock_ret ?_ | refine xThen_ret ?_)
  obtain rfl := Option.some.inj hE
  refine retQ.retF H rfl ⟨rfl, rfl⟩ ?_
  exact (fun _ _ h => h)
 refine AWp.skip ?_
 refine hK2 _ ?_
 clear hK2 K2
 refine seqK fun K7 hK7 => ?_
 refine region ?_
 refine s0 assignA rfl ?_
 refine nil ?_
 refine hK7 _ ?_
 clear hK7 K7
 refine seqJH (KeepsT.A (k := 1) KeepsT.nil) (fun (z : Int) => [(3, .a (.d (.int .i64 z)))]) (fun z => H) (fun z => Z9_j8 a0 z = some r) ?_ ?_
 ·intro K8 hK8
  refine seqK fun K31 hK31 => ?_
  refine region ?_
  refine s0 assignA rfl ?_
  refine nil ?_
  refine hK31 _ ?_
  clear hK31 K31
  refine block ?_
  refine loopH (KeepsT.A (k := 1) KeepsT.nil) (fun (z : Nat × Int × Nat) => [(3, .a (.d (.int .i64 z.2.1))), (4, .a (.d (.int .i64 ((z.2.2 : Nat) : Int))))]) (fun z => H) (fun z => z.1) (fun z => Z9_l32 a0 z.1 z.2.1 z.2.2 = some r) ((a0.FOps.l.length + 1), (0 : Int), 0) hE Weak.toA ?_
  rintro ⟨n32, s3_33, s4_34⟩ hE K32 hK32
  try dsimp only at hE
  cases n32 with
  | zero => cases hE
  | succ n32 =>
    rw [Z9_l32] at hE
    refine seqK fun K35 hK35 => ?_
    refine seqK fun K36 hK36 => ?_
    refine region ?_
    refine s0 moveA rfl ?_
    refine s0 (fieldVA (TK rfl) rfl rfl (TK rfl) rfl rfl) rfl ?_
    refine s0 (loadV (TK rfl) rfl rfl rfl) rfl ?_
    refine sLen (f := TOp.c) (s := a0.FOps) (TK rfl) rfl rfl rfl rfl fun hL37 => ?_
    refine s0 (binI rfl rfl rfl) rfl ?_
    refine nil ?_
    refine hK36 _ ?_
    clear hK36 K36
    refine condE hE rfl (fun hc38 hE => ?_) (fun hc38 hE => ?_)
    ·try dsimp only at hc38
     have hf38 := of_decide_eq_true hc38
     refine AWp.skip ?_
     refine hK35 _ ?_
     clear hK35 K35
     refine seqK fun K39 hK39 => ?_
     refine block ?_
     refine seqK fun K40 hK40 => ?_
     refine seqK fun K41 hK41 => ?_
     refine region ?_
     refine s0 (fieldVA (TK rfl) rfl rfl (TK rfl) rfl rfl) rfl ?_
     refine s0 (loadV (TK rfl) rfl rfl rfl) rfl ?_
     refine s0 moveA rfl ?_
     obtain ⟨x42, gx42, hE⟩ := bindO_some hE
     refine s0 (idxMn (f := TOp.c) (n := s4_34) (TK rfl) rfl (TK rfl) rfl rfl rfl gx42) rfl ?_
     refine s0 (fieldVA (TK rfl) rfl rfl (TK rfl) rfl rfl) rfl ?_
     refine s0 (loadV (TK rfl) rfl rfl rfl) rfl ?_
     obtain ⟨x43, gx43, hE⟩ := bindO_some hE
     refine s0 (callP rfl rfl (fun H => Z11_walk gx43 H)) rfl ?_
     refine s0 moveA rfl ?_
     refine gC rfl rfl (fun hC => fieldVA (TK rfl) rfl rfl (TK rfl) rfl rfl) rfl ?_
     refine gC rfl rfl (fun hC => ungdA (k := 31) rfl (loadV (TK rfl) rfl rfl rfl)) rfl ?_
     refine gC rfl rfl (fun hC => moveA) rfl ?_
     obtain ⟨x44, gx44, hE⟩ := guardO_some hE
     refine gC rfl rfl (fun hC => ungdA (k := 32) rfl (ungdA (k := 33) rfl (idxMn (f := TOp.c) (n := s4_34) (TK rfl) rfl (TK rfl) rfl rfl rfl (gx44 hC)))) rfl ?_
     refine gC rfl rfl (fun hC => ungdA (k := 34) rfl (fieldVA (TK rfl) rfl rfl (TK rfl) rfl rfl)) rfl ?_
     refine gC rfl rfl (fun hC => ungdA (k := 35) rfl (loadV (TK rfl) rfl rfl rfl)) rfl ?_
     refine gC rfl rfl (fun hC => ungdA (k := 36) rfl (lenM' (f := TVar.c) (s := x44.FVars) (TK rfl) rfl rfl rfl)) rfl ?_
     refine gC rfl rfl (fun hC => ungdA (k := 37) rfl (binI rfl rfl rfl)) rfl ?_
     refine s0 (pickOrA rfl rfl rfl) rfl ?_
     refine nil ?_
     refine hK41 _ ?_
     clear hK41 K41
     refine condE hE rfl (fun hc45 hE => ?_) (fun hc45 hE => ?_)
     ·refine seqK fun K46 hK46 => ?_
      refine region ?_
      refine s0 assignA rfl ?_
      refine nil ?_
      refine hK46 _ ?_
      clear hK46 K46
      refine AWp.ret ?_
      repeat (first | refine xBlock_ret ?_ | refine xThen_ret ?_)
      obtain rfl := Option.some.inj hE
      refine retQ.retF H rfl ⟨rfl, rfl⟩ ?_
      exact (fun _ _ h => h)
     refine AWp.skip ?_
     refine hK40 _ ?_
     clear hK40 K40
     refine region ?_
     refine s0 moveA rfl ?_
     refine s0 (fieldVA (TK rfl) rfl rfl (TK rfl) rfl rfl) rfl ?_
     refine s0 (loadV (TK rfl) rfl rfl rfl) rfl ?_
     refine s0 moveA rfl ?_
     obtain ⟨x47, gx47, hE⟩ := bindO_some hE
     refine s0 (idxMn (f := TOp.c) (n := s4_34) (TK rfl) rfl (TK rfl) rfl rfl rfl gx47) rfl ?_
     refine s0 (fieldVA (TK rfl) rfl rfl (TK rfl) rfl rfl) rfl ?_
     refine s0 (loadV (TK rfl) rfl rfl rfl) rfl ?_
     obtain ⟨x48, gx48, hE⟩ := bindO_some hE
     refine s0 (callP rfl rfl (fun H => Z10_walk gx48 H)) rfl ?_
     obtain ⟨x49, gx49, hE⟩ := bindO_some hE
     refine s0 (addM rfl rfl gx49) rfl ?_
     refine s0 assignA rfl ?_
     refine nil ?_
     refine hK39 _ ?_
     clear hK39 K39
     refine region ?_
     refine s0 moveA rfl ?_
     refine s0 (addIA rfl rfl) rfl ?_
     refine s0 assignA rfl ?_
     refine nil ?_
     exact hK32 _ (n32, x49, (s4_34 + 1)) Weak.toA hE (Nat.lt_succ_self _)
    refine AWp.exit ?_
    exact hK8 _ s3_33 Weak.toA hE
 rintro s3_9 hE
 try dsimp only at hE
 unfold Z9_j8 at hE
 refine seqJH KeepsT.nil (fun (z : Int) => [(3, .a (.d (.int .i64 z)))]) (fun z => H) (fun z => Z9_j10 z = some r) ?_ ?_
 ·intro K10 hK10
  refine seqK fun K13 hK13 => ?_
  refine region ?_
  refine s0 assignA rfl ?_
  refine nil ?_
  refine hK13 _ ?_
  clear hK13 K13
  refine block ?_
  refine loopH (KeepsT.A (k := 1) KeepsT.nil) (fun (z : Nat × Int × Nat) => [(3, .a (.d (.int .i64 z.2.1))), (5, .a (.d (.int .i64 ((z.2.2 : Nat) : Int))))]) (fun z => H) (fun z => z.1) (fun z => Z9_l14 a0 z.1 z.2.1 z.2.2 = some r) ((a0.FFrags.l.length + 1), s3_9, 0) hE Weak.toA ?_
  rintro ⟨n14, s3_15, s5_16⟩ hE K14 hK14
  try dsimp only at hE
  cases n14 with
  | zero => cases hE
  | succ n14 =>
    rw [Z9_l14] at hE
    refine seqK fun K17 hK17 => ?_
    refine seqK fun K18 hK18 => ?_
    refine region ?_
    refine s0 moveA rfl ?_
    refine s0 (fieldVA (TK rfl) rfl rfl (TK rfl) rfl rfl) rfl ?_
    refine s0 (loadV (TK rfl) rfl rfl rfl) rfl ?_
    refine sLen (f := TFrag.c) (s := a0.FFrags) (TK rfl) rfl rfl rfl rfl fun hL19 => ?_
    refine s0 (binI rfl rfl rfl) rfl ?_
    refine nil ?_
    refine hK18 _ ?_
    clear hK18 K18
    refine condE hE rfl (fun hc20 hE => ?_) (fun hc20 hE => ?_)
    ·try dsimp only at hc20
     have hf20 := of_decide_eq_true hc20
     refine AWp.skip ?_
     refine hK17 _ ?_
     clear hK17 K17
     refine seqK fun K21 hK21 => ?_
     refine block ?_
     refine seqK fun K22 hK22 => ?_
     refine seqK fun K23 hK23 => ?_
     refine region ?_
     refine s0 (fieldVA (TK rfl) rfl rfl (TK rfl) rfl rfl) rfl ?_
     refine s0 (loadV (TK rfl) rfl rfl rfl) rfl ?_
     refine s0 moveA rfl ?_
     obtain ⟨x24, gx24, hE⟩ := bindO_some hE
     refine s0 (idxMn (f := TFrag.c) (n := s5_16) (TK rfl) rfl (TK rfl) rfl rfl rfl gx24) rfl ?_
     refine s0 (fieldVA (TK rfl) rfl rfl (TK rfl) rfl rfl) rfl ?_
     refine s0 (loadV (TK rfl) rfl rfl rfl) rfl ?_
     obtain ⟨x25, gx25, hE⟩ := bindO_some hE
     refine s0 (callP rfl rfl (fun H => Z11_walk gx25 H)) rfl ?_
     refine nil ?_
     refine hK23 _ ?_
     clear hK23 K23
     refine condE hE rfl (fun hc26 hE => ?_) (fun hc26 hE => ?_)
     ·refine seqK fun K27 hK27 => ?_
      refine region ?_
      refine s0 assignA rfl ?_
      refine nil ?_
      refine hK27 _ ?_
      clear hK27 K27
      refine AWp.ret ?_
      repeat (first | refine xBlock_ret ?_ | refine xThen_ret ?_)
      obtain rfl := Option.some.inj hE
      refine retQ.retF H rfl ⟨rfl, rfl⟩ ?_
      exact (fun _ _ h => h)
     refine AWp.skip ?_
     refine hK22 _ ?_
     clear hK22 K22
     refine region ?_
     refine s0 moveA rfl ?_
     refine s0 (fieldVA (TK rfl) rfl rfl (TK rfl) rfl rfl) rfl ?_
     refine s0 (loadV (TK rfl) rfl rfl rfl) rfl ?_
     refine s0 moveA rfl ?_
     obtain ⟨x28, gx28, hE⟩ := bindO_some hE
     refine s0 (idxMn (f := TFrag.c) (n := s5_16) (TK rfl) rfl (TK rfl) rfl rfl rfl gx28) rfl ?_
     refine s0 (fieldVA (TK rfl) rfl rfl (TK rfl) rfl rfl) rfl ?_
     refine s0 (loadV (TK rfl) rfl rfl rfl) rfl ?_
     obtain ⟨x29, gx29, hE⟩ := bindO_some hE
     refine s0 (callP rfl rfl (fun H => Z10_walk gx29 H)) rfl ?_
     obtain ⟨x30, gx30, hE⟩ := bindO_some hE
     refine s0 (addM rfl rfl gx30) rfl ?_
     refine s0 assignA rfl ?_
     refine nil ?_
     refine hK21 _ ?_
     clear hK21 K21
     refine region ?_
     refine s0 moveA rfl ?_
     refine s0 (addIA rfl rfl) rfl ?_
     refine s0 assignA rfl ?_
     refine nil ?_
     exact hK14 _ (n14, x30, (s5_16 + 1)) Weak.toA hE (Nat.lt_succ_self _)
    refine AWp.exit ?_
    exact hK10 _ s3_15 Weak.toA hE
 rintro s3_11 hE
 try dsimp only at hE
 unfold Z9_j10 at hE
 refine seqK fun K12 hK12 => ?_
 refine region ?_
 refine s0 moveA rfl ?_
 refine s0 (binI rfl rfl rfl) rfl ?_
 refine s0 assignA rfl ?_
 refine nil ?_
 refine hK12 _ ?_
 clear hK12 K12
 refine AWp.ret ?_
 repeat (first | refine xBlock_ret ?_ | refine xThen_ret ?_)
 obtain rfl := Option.some.inj hE
 refine retQ.retF H rfl ⟨rfl, rfl⟩ ?_
 exact (fun _ _ h => h)
def Z1_j2  (y3_l0 : TFrag) : Option (TFrag × Bool) := some ((TFrag.mk ([] : Bs) ([] : Bs) (Sl.nil : Sl TSel)), false)
def Z1_l7 (a0 : TQuery) (a1 : Bs)  : Nat → Nat → TFrag → Option (TFrag × Bool)
 | 0, _, _ => none
 | n7 + 1, s11_8, y9_l0 => bif (decide (((s11_8 : Nat) : Int) < ((a0.FFrags.l.length : Nat) : Int))) then ((a0.FFrags.l[s11_8]?).bind fun x15 => bif ((x15.FName == a1)) then (some (x15, true)) else ((Z1_l7 a0 a1 n7) (s11_8 + 1) y9_l0)) else (Z1_j2   y9_l0)
def Z1 (a0 : TQuery) (a1 : Bs) : Option (TFrag × Bool) := Z1_l7 a0 a1 (a0.FFrags.l.length + 1) 0 TFrag.zero
theorem Z1_walk {a0 : TQuery} {a1 : Bs}   {r : (TFrag × Bool)} (hE : Z1 a0 a1 = some r) (H : Heap)  : ACalls Tryd.prog 28 [.agg (TQuery.c a0), .d (.str a1)] H fun v h' => v = .tup [.agg (TFrag.c r.1), .d (.bool r.2)] ∧ h' = H := by
 unfold Z1 at hE
 refine ACalls.of_wp (fn := Tryd.f28) (c := _) Tryd.tab_ok (fun _ _ => Tryd.call28 _ _) Tryd.func28 rfl (n := 22) rfl (rs := [.cell 4 52, .tmp 5]) rfl rfl ?_
 refine seqK fun K1 hK1 => ?_
 refine region ?_
 refine s0 (boxV rfl) rfl ?_
 refine sL (allocLA (TK rfl) rfl) rfl ?_
 refine s0 assignA rfl ?_
 refine nil ?_
 refine hK1 _ ?_
 clear hK1 K1
 refine seqJ (KeepsT.A (k := 4) KeepsT.nil) (fun (z : TFrag) => []) (fun z => [TFrag.c z]) (fun z => H) (fun z => Z1_j2 z = some r) ?_ ?_
 ·intro K2 hK2
  refine seqK fun K5 hK5 => ?_
  refine region ?_
  refine s0 (fieldVA (TK rfl) rfl rfl (TK rfl) rfl rfl) rfl ?_
  refine s0 (loadV (TK rfl) rfl rfl rfl) rfl ?_
  refine sLen (f := TFrag.c) (s := a0.FFrags) (TK rfl) rfl rfl rfl rfl fun hL6 => ?_
  refine s0 moveA rfl ?_
  refine nil ?_
  refine hK5 _ ?_
  clear hK5 K5
  refine block ?_
  refine loopO (KeepsT.A (k := 1) (KeepsT.A (k := 4) (KeepsT.A (k := 9) (KeepsT.A (k := 10) KeepsT.nil)))) (fun (z : Nat × Nat × TFrag) => [(11, .a (.d (.int .i64 ((z.2.1 : Nat) : Int))))]) (fun z => [TFrag.c z.2.2]) (fun z => H) (fun z => z.1) (fun z => Z1_l7 a0 a1 z.1 z.2.1 z.2.2 = some r) ((a0.FFrags.l.length + 1), 0, TFrag.zero) hE Weak.toA ?_
  rintro ⟨n7, s11_8, y9_l0⟩ hE K7 hK7
  try dsimp only at hE
  cases n7 with
  | zero => cases hE
  | succ n7 =>
    rw [Z1_l7] at hE
    refine seqK fun K10 hK10 => ?_
    refine region ?_
    refine s0 (binI rfl rfl rfl) rfl ?_
    refine nil ?_
    refine hK10 _ ?_
    clear hK10 K10
    refine seqK fun K11 hK11 => ?_
    refine condE hE rfl (fun hc12 hE => ?_) (fun hc12 hE => ?_)
    ·try dsimp only at hc12
     have hf12 := of_decide_eq_true hc12
     refine AWp.skip ?_
     refine hK11 _ ?_
     clear hK11 K11
     refine seqK fun K13 hK13 => ?_
     refine block ?_
     refine seqK fun K14 hK14 => ?_
     refine region ?_
     obtain ⟨x15, gx15, hE⟩ := bindO_some hE
     refine s0 (idxMn (f := TFrag.c) (n := s11_8) (TK rfl) rfl (TK rfl) rfl rfl rfl gx15) rfl ?_
     refine s0 (loadV (TK rfl) rfl rfl rfl) rfl ?_
     refine sL (allocLA (TK rfl) rfl) rfl ?_
     refine sLn (storeLFA (TK rfl) rfl rfl rfl rfl rfl) ?_
     refine nil ?_
     refine hK14 _ ?_
     clear hK14 K14
     refine freezeA 7 _ rfl (Keeps.c (k := 1) (by conv => lhs; whnf) (by rfl) (Keeps.c (k := 4) (by conv => lhs; whnf) (by rfl) (Keeps.c (k := 9) (by conv => lhs; whnf) (by rfl) (Keeps.c (k := 10) (by conv => lhs; whnf) (by rfl) (Keeps.c (k := 11) (by conv => lhs; whnf) (by rfl) Keeps.nil))))) ?_
     refine seqK fun K16 hK16 => ?_
     refine region ?_
     refine s0 (fieldVA (TK rfl) rfl rfl (TK rfl) rfl rfl) rfl ?_
     refine s0 (loadV (TK rfl) rfl rfl rfl) rfl ?_
     refine s0 moveA rfl ?_
     refine s0 (binS rfl rfl rfl) rfl ?_
     refine nil ?_
     refine hK16 _ ?_
     clear hK16 K16
     refine condE hE rfl (fun hc17 hE => ?_) (fun hc17 hE => ?_)
     ·refine seqK fun K18 hK18 => ?_
      refine region ?_
      refine s0 (loadV (TK rfl) rfl rfl rfl) rfl ?_
      refine sLn (storeLFA (TK rfl) rfl rfl rfl rfl rfl) ?_
      refine s0 assignA rfl ?_
      refine nil ?_
      refine hK18 _ ?_
      clear hK18 K18
      refine AWp.ret ?_
      repeat (first | refine xBlock_ret ?_ | refine xThen_ret ?_)
      obtain rfl := Option.some.inj hE
      refine retQ.retF H rfl ⟨rfl, rfl⟩ ?_
      exact (fun _ _ h => h)
     refine AWp.skip ?_
     refine hK13 _ ?_
     clear hK13 K13
     refine region ?_
     refine s0 (addIA rfl rfl) rfl ?_
     refine s0 moveA rfl ?_
     refine nil ?_
     exact hK7 _ (n7, (s11_8 + 1), y9_l0) Weak.toA hE (Nat.lt_succ_self _)
    refine AWp.exit ?_
    exact hK2 _ y9_l0 Weak.toA hE
 rintro y3_l0 hE
 try dsimp only at hE
 unfold Z1_j2 at hE
 refine seqK fun K4 hK4 => ?_
 refine region ?_
 refine s0 (build Tryd.tab_ok rfl rfl rfl rfl rfl rfl) rfl ?_
 refine sLn (storeLFA (TK rfl) rfl rfl rfl rfl rfl) ?_
 refine s0 assignA rfl ?_
 refine nil ?_
 refine hK4 _ ?_
 clear hK4 K4
 refine AWp.ret ?_
 repeat (first | refine xBlock_ret ?_ | refine xThen_ret ?_)
 obtain rfl := Option.some.inj hE
 refine retQ.retF H rfl ⟨rfl, rfl⟩ ?_
 exact (fun _ _ h => h)
def Z54_j2  (s1_3 : (Sl Bs)) : Option (Sl Bs) := some s1_3
def Z54_l15 (a0 : TValue) (k_rec_29 : TValue → (Sl Bs) → Option (Sl Bs)) : Nat → (Sl Bs) → Nat → Option (Sl Bs)
 | 0, _, _ => none
 | n15 + 1, s1_16, s22_17 => bif (decide (((s22_17 : Nat) : Int) < ((a0.FItems.l.length : Nat) : Int))) then ((a0.FItems.l[s22_17]?).bind fun x23 => (k_rec_29 x23 s1_16).bind fun x24 => (Z54_l15 a0 k_rec_29 n15) x24 (s22_17 + 1)) else (Z54_j2   s1_16)
def Z54_j10 (a0 : TValue) (a1 : (Sl Bs)) (k_rec_29 : TValue → (Sl Bs) → Option (Sl Bs)) (s16_11 : Bool) : Option (Sl Bs) := bif s16_11 then (Z54_l15 a0 k_rec_29 (a0.FItems.l.length + 1) a1 0) else (Z54_j2   a1)
def Z54_n : Nat → TValue → (Sl Bs) → Option (Sl Bs)
 | 0, _, _ => none
 | n + 1, a0, a1 => bif (decide (a0.FKind = (7 : Int))) then ((appC 16 a1 (⟨false, [a0.FText]⟩ : Sl Bs)).bind fun x9 => some x9) else (bif (decide (a0.FKind = (5 : Int))) then (Z54_j10 a0 a1 (Z54_n n) (decide (a0.FKind = (5 : Int)))) else (Z54_j10 a0 a1 (Z54_n n) (decide (a0.FKind = (6 : Int)))))
theorem Z54_step (n : Nat) (ih_29 : ∀ {a0 : TValue} {a1 : (Sl Bs)}  {g1 : Nat} {r : (Sl Bs)}, Z54_n n a0 a1 = some r → ∀ (H : Heap) (hg1 : H g1 = some (.tok 1 a1.l.length)), ACalls Tryd.prog 29 [.agg (TValue.c a0), .d (Sl.d 1 strE (some g1) a1)] H fun v h' => v = .a (.d (Sl.d 1 strE (some g1) r)) ∧ h' = (H.set g1 (some (.tok 1 r.l.length)))) : ∀ {a0 : TValue} {a1 : (Sl Bs)}  {g1 : Nat} {r : (Sl Bs)}, Z54_n (n + 1) a0 a1 = some r → ∀ (H : Heap) (hg1 : H g1 = some (.tok 1 a1.l.length)), ACalls Tryd.prog 29 [.agg (TValue.c a0), .d (Sl.d 1 strE (some g1) a1)] H fun v h' => v = .a (.d (Sl.d 1 strE (some g1) r)) ∧ h' = (H.set g1 (some (.tok 1 r.l.length))) := by
 intro a0 a1  g1 r hE H hg1
 rw [Z54_n] at hE
 refine ACalls.of_wp (fn := Tryd.f29) (c := _) Tryd.tab_ok (fun _ _ => Tryd.call29 _ _) Tryd.func29 rfl (n := 31) rfl (rs := [.tmp 4]) rfl rfl ?_
 refine AWp.heqA (h' := (H.set g1 (some (.tok 1 a1.l.length)))) (by funext n_; simp only [Heap.set]; (repeat' split) <;> simp_all) ?_
 refine seqK fun K1 hK1 => ?_
 refine region ?_
 refine s0 (boxV rfl) rfl ?_
 refine s0 assignA rfl ?_
 refine nil ?_
 refine hK1 _ ?_
 clear hK1 K1
 refine seqJH KeepsT.nil (fun (z : (Sl Bs)) => [(1, .a (.d (Sl.d 1 strE (some g1) z)))]) (fun z => (H.set g1 (some (.tok 1 z.l.length)))) (fun z => Z54_j2 z = some r) ?_ ?_
 ·intro K2 hK2
  refine seqK fun K5 hK5 => ?_
  refine region ?_
  refine s0 (fieldVA (TK rfl) rfl rfl (TK rfl) rfl rfl) rfl ?_
  refine s0 (loadV (TK rfl) rfl rfl rfl) rfl ?_
  refine nil ?_
  refine hK5 _ ?_
  clear hK5 K5
  refine block ?_
  refine seqK fun K6 hK6 => ?_
  refine region ?_
  refine s0 (binI rfl rfl rfl) rfl ?_
  refine s0 assignA rfl ?_
  refine nil ?_
  refine hK6 _ ?_
  clear hK6 K6
  refine condE hE rfl (fun hc7 hE => ?_) (fun hc7 hE => ?_)
  ·refine seqK fun K8 hK8 => ?_
   refine region ?_
   refine s0 moveA rfl ?_
   refine s0 (fieldVA (TK rfl) rfl rfl (TK rfl) rfl rfl) rfl ?_
   refine s0 (loadV (TK rfl) rfl rfl rfl) rfl ?_
   refine s0 (buildSlice (TK rfl) rfl (TK rfl) rfl rfl rfl rfl rfl rfl) rfl ?_
   obtain ⟨x9, gx9, hE⟩ := bindO_some hE
   refine sH (appM (f := strE) (TK rfl) rfl (TK rfl) (TK rfl) ⟨_, rfl⟩ rfl rfl (by decide) rfl rfl rfl rfl hpG rfl gx9) rfl ?_
   refine AOps.heq (h' := (H.set g1 (some (.tok 1 x9.l.length)))) (by first | rfl | (rw [Heap.set_set]; rfl) | (funext n_; simp only [Heap.set]; (repeat' split) <;> first | rfl | (exfalso; simp_all; done) | (simp_all; done))) ?_
   refine s0 assignA rfl ?_
   refine nil ?_
   refine hK8 _ ?_
   clear hK8 K8
   refine AWp.ret ?_
   repeat (first | refine xBlock_ret ?_ | refine xThen_ret ?_)
   obtain rfl := Option.some.inj hE
   refine retQ.retF (H.set g1 (some (.tok 1 x9.l.length))) rfl ⟨rfl, rfl⟩ ?_
   exact (fun _ _ h => h)
  refine seqJH (KeepsT.A (k := 1) (KeepsT.A (k := 2) KeepsT.nil)) (fun (z : Bool) => [(16, .a (.d (.bool z)))]) (fun z => (H.set g1 (some (.tok 1 a1.l.length)))) (fun z => Z54_j10 a0 a1 (Z54_n n) z = some r) ?_ ?_
  ·intro K10 hK10
   refine seqK fun K25 hK25 => ?_
   refine region ?_
   refine s0 (binI rfl rfl rfl) rfl ?_
   refine s0 assignA rfl ?_
   refine nil ?_
   refine hK25 _ ?_
   clear hK25 K25
   refine condE hE rfl (fun hc26 hE => ?_) (fun hc26 hE => ?_)
   ·refine AWp.skip ?_
    exact hK10 _ (decide (a0.FKind = (5 : Int))) Weak.toA hE
   refine region ?_
   refine s0 (binI rfl rfl rfl) rfl ?_
   refine s0 assignA rfl ?_
   refine nil ?_
   exact hK10 _ (decide (a0.FKind = (6 : Int))) Weak.toA hE
  rintro s16_11 hE
  try dsimp only at hE
  unfold Z54_j10 at hE
  refine condE hE rfl (fun hc12 hE => ?_) (fun hc12 hE => ?_)
  ·refine seqK fun K13 hK13 => ?_
   refine region ?_
   refine s0 (fieldVA (TK rfl) rfl rfl (TK rfl) rfl rfl) rfl ?_
   refine s0 (loadV (TK rfl) rfl rfl (congrArg (fun x => some (A.d x)) (TValue.FItemsD_eq _))) rfl ?_
   refine sLen (f := TValue.c) (s := a0.FItems) (TK rfl) rfl rfl rfl rfl fun hL14 => ?_
   refine s0 moveA rfl ?_
   refine nil ?_
   refine hK13 _ ?_
   clear hK13 K13
   refine block ?_
   refine loopH (KeepsT.A (k := 20) (KeepsT.A (k := 21) KeepsT.nil)) (fun (z : Nat × (Sl Bs) × Nat) => [(1, .a (.d (Sl.d 1 strE (some g1) z.2.1))), (22, .a (.d (.int .i64 ((z.2.2 : Nat) : Int))))]) (fun z => (H.set g1 (some (.tok 1 z.2.1.l.length)))) (fun z => z.1) (fun z => Z54_l15 a0 (Z54_n n) z.1 z.2.1 z.2.2 = some r) ((a0.FItems.l.length + 1), a1, 0) hE Weak.toA ?_
   rintro ⟨n15, s1_16, s22_17⟩ hE K15 hK15
   try dsimp only at hE
   cases n15 with
   | zero => cases hE
   | succ n15 =>
     rw [Z54_l15] at hE
     refine seqK fun K18 hK18 => ?_
     refine region ?_
     refine s0 (binI rfl rfl rfl) rfl ?_
     refine nil ?_
     refine hK18 _ ?_
     clear hK18 K18
     refine seqK fun K19 hK19 => ?_
     refine condE hE rfl (fun hc20 hE => ?_) (fun hc20 hE => ?_)
     ·try dsimp only at hc20
      have hf20 := of_decide_eq_true hc20
      refine AWp.skip ?_
      refine hK19 _ ?_
      clear hK19 K19
      refine seqK fun K21 hK21 => ?_
      refine block ?_
      refine seqK fun K22 hK22 => ?_
      refine region ?_
      obtain ⟨x23, gx23, hE⟩ := bindO_some hE
      refine s0 (idxMn (f := TValue.c) (n := s22_17) (TK rfl) rfl (TK rfl) rfl rfl rfl gx23) rfl ?_
      refine s0 (loadV (TK rfl) rfl rfl rfl) rfl ?_
      refine sL (allocLA (TK rfl) rfl) rfl ?_
      refine sLn (storeLFA (TK rfl) rfl rfl rfl rfl rfl) ?_
      refine nil ?_
      refine hK22 _ ?_
      clear hK22 K22
      refine freezeA 6 _ rfl (Keeps.c (k := 1) (by conv => lhs; whnf) (by rfl) (Keeps.c (k := 20) (by conv => lhs; whnf) (by rfl) (Keeps.c (k := 21) (by conv => lhs; whnf) (by rfl) (Keeps.c (k := 22) (by conv => lhs; whnf) (by rfl) Keeps.nil)))) ?_
      refine region ?_
      refine s0 (loadV (TK rfl) rfl rfl rfl) rfl ?_
      refine s0 moveA rfl ?_
      obtain ⟨x24, gx24, hE⟩ := bindO_some hE
      refine sH (callH rfl rfl (ih_29 gx24 _ hpG)) rfl ?_
      refine AOps.heq (h' := (H.set g1 (some (.tok 1 x24.l.length)))) (by first | rfl | (rw [Heap.set_set]; rfl) | (funext n_; simp only [Heap.set]; (repeat' split) <;> first | rfl | (exfalso; simp_all; done) | (simp_all; done))) ?_
      refine s0 assignA rfl ?_
      refine nil ?_
      refine hK21 _ ?_
      clear hK21 K21
      refine region ?_
      refine s0 (addIA rfl rfl) rfl ?_
      refine s0 moveA rfl ?_
      refine nil ?_
      exact hK15 _ (n15, x24, (s22_17 + 1)) Weak.toA hE (Nat.lt_succ_self _)
     refine AWp.exit ?_
     exact hK2 _ s1_16 Weak.toA hE
  refine AWp.skip ?_
  exact hK2 _ a1 Weak.toA hE
 rintro s1_3 hE
 try dsimp only at hE
 unfold Z54_j2 at hE
 refine seqK fun K4 hK4 => ?_
 refine region ?_
 refine s0 moveA rfl ?_
 refine s0 assignA rfl ?_
 refine nil ?_
 refine hK4 _ ?_
 clear hK4 K4
 refine AWp.ret ?_
 repeat (first | refine xBlock_ret ?_ | refine xThen_ret ?_)
 obtain rfl := Option.some.inj hE
 refine retQ.retF (H.set g1 (some (.tok 1 s1_3.l.length))) rfl ⟨rfl, rfl⟩ ?_
 exact (fun _ _ h => h)
theorem Z54_all : ∀ (n : Nat), (∀ {a0 : TValue} {a1 : (Sl Bs)}  {g1 : Nat} {r : (Sl Bs)}, Z54_n n a0 a1 = some r → ∀ (H : Heap) (hg1 : H g1 = some (.tok 1 a1.l.length)), ACalls Tryd.prog 29 [.agg (TValue.c a0), .d (Sl.d 1 strE (some g1) a1)] H fun v h' => v = .a (.d (Sl.d 1 strE (some g1) r)) ∧ h' = (H.set g1 (some (.tok 1 r.l.length))))
 | 0 => fun hE => by first | cases hE | (rw [Z54_n] at hE; cases hE)
 | n + 1 => Z54_step n (Z54_all n)
def Z54 (a0 : TValue) (a1 : (Sl Bs)) : Option (Sl Bs) := Z54_n F0 a0 a1
theorem Z54_walk {a0 : TValue} {a1 : (Sl Bs)}  {g1 : Nat} {r : (Sl Bs)} (hE : Z54 a0 a1 = some r) (H : Heap) (hg1 : H g1 = some (.tok 1 a1.l.length)) : ACalls Tryd.prog 29 [.agg (TValue.c a0), .d (Sl.d 1 strE (some g1) a1)] H fun v h' => v = .a (.d (Sl.d 1 strE (some g1) r)) ∧ h' = (H.set g1 (some (.tok 1 r.l.length))) := (Z54_all F0) hE H hg1
end Go.Proofs
