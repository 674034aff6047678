import Derived.Test.YtidaliegaojliaaGreatDoorE3
import Derived.Test.YtidaliegaojliaaGreatDoorTab
set_option maxRecDepth 100000
set_option maxHeartbeats 2000000
set_option linter.unusedVariables false
set_option linter.unusedSimpArgs false
namespace Go.Proofs
open Go Go.Ab
inductive TValue where
 | mk (FKind : Int) (FInt : Int) (FText : Bs) (FItems_nl : Bool) (FItems_l : List TValue) (FKeys : (Sl Bs))
def TValue.FKind : TValue → Int | .mk x _ _ _ _ _ => x
def TValue.FInt : TValue → Int | .mk _ x _ _ _ _ => x
def TValue.FText : TValue → Bs | .mk _ _ x _ _ _ => x
def TValue.FItems : TValue → (Sl TValue) | .mk _ _ _ nl l _ => ⟨nl, l⟩
def TValue.FKeys : TValue → (Sl Bs) | .mk _ _ _ _ _ x => x
noncomputable def TValue.FItemsD : TValue → D := @TValue.rec (fun _ => D) (fun _ => List (List D)) (fun _ _ _ nl _ _ ih => .slice 5 none nl ih) [] (fun v _ ih ihl => ((intE .i64) v.FKind ++ (intE .i64) v.FInt ++ strE v.FText ++ [ih] ++ (fun s => [Sl.d 1 strE none s]) v.FKeys) :: ihl)
noncomputable def TValue.c (v : TValue) : List D := (intE .i64) v.FKind ++ (intE .i64) v.FInt ++ strE v.FText ++ [v.FItemsD] ++ (fun s => [Sl.d 1 strE none s]) v.FKeys
theorem TValue.FItemsD_eq (v : TValue) : v.FItemsD = Sl.d 5 TValue.c none v.FItems := by
 cases v with
 | mk y_Kind y_Int y_Text nl l y_Keys =>
  show D.slice 5 none nl _ = D.slice 5 none nl (l.map TValue.c)
  congr 1
  induction l with
  | nil => rfl
  | cons a r ih => exact congrArg (TValue.c a :: ·) ih
def TValue.zero : TValue := .mk (0 : Int) (0 : Int) ([] : Bs) true [] (Sl.nil : Sl Bs)
structure TArg where
 FName : Bs
 FValue : TValue
noncomputable def TArg.c (x : TArg) : List D := strE x.FName ++ TValue.c x.FValue
def TArg.zero : TArg := ⟨([] : Bs), TValue.zero⟩
structure TDir where
 FName : Bs
 FArgs : (Sl TArg)
noncomputable def TDir.c (x : TDir) : List D := [.str x.FName, Sl.d 6 TArg.c none x.FArgs]
def TDir.zero : TDir := ⟨([] : Bs), (Sl.nil : Sl TArg)⟩
structure TRef where
 FName : Bs
 FWraps : (Sl Int)
noncomputable def TRef.c (x : TRef) : List D := [.str x.FName, Sl.d 1 (intE .i64) none x.FWraps]
def TRef.zero : TRef := ⟨([] : Bs), (Sl.nil : Sl Int)⟩
structure TVar where
 FName : Bs
 FType : TRef
 FHas : Bool
 FDefault : TValue
noncomputable def TVar.c (x : TVar) : List D := strE x.FName ++ TRef.c x.FType ++ boolE x.FHas ++ TValue.c x.FDefault
def TVar.zero : TVar := ⟨([] : Bs), TRef.zero, false, TValue.zero⟩
inductive TSel where
 | mk (FKind : Int) (FAlias : Bs) (FName : Bs) (FOn : Bs) (FArgs : (Sl TArg)) (FDirs : (Sl TDir)) (FSels_nl : Bool) (FSels_l : List TSel)
def TSel.FKind : TSel → Int | .mk x _ _ _ _ _ _ _ => x
def TSel.FAlias : TSel → Bs | .mk _ x _ _ _ _ _ _ => x
def TSel.FName : TSel → Bs | .mk _ _ x _ _ _ _ _ => x
def TSel.FOn : TSel → Bs | .mk _ _ _ x _ _ _ _ => x
def TSel.FArgs : TSel → (Sl TArg) | .mk _ _ _ _ x _ _ _ => x
def TSel.FDirs : TSel → (Sl TDir) | .mk _ _ _ _ _ x _ _ => x
def TSel.FSels : TSel → (Sl TSel) | .mk _ _ _ _ _ _ nl l => ⟨nl, l⟩
noncomputable def TSel.FSelsD : TSel → D := @TSel.rec (fun _ => D) (fun _ => List (List D)) (fun _ _ _ _ _ _ nl _ ih => .slice 7 none nl ih) [] (fun v _ ih ihl => ((intE .i64) v.FKind ++ strE v.FAlias ++ strE v.FName ++ strE v.FOn ++ (fun s => [Sl.d 6 TArg.c none s]) v.FArgs ++ (fun s => [Sl.d 2 TDir.c none s]) v.FDirs ++ [ih]) :: ihl)
noncomputable def TSel.c (v : TSel) : List D := (intE .i64) v.FKind ++ strE v.FAlias ++ strE v.FName ++ strE v.FOn ++ (fun s => [Sl.d 6 TArg.c none s]) v.FArgs ++ (fun s => [Sl.d 2 TDir.c none s]) v.FDirs ++ [v.FSelsD]
theorem TSel.FSelsD_eq (v : TSel) : v.FSelsD = Sl.d 7 TSel.c none v.FSels := by
 cases v with
 | mk y_Kind y_Alias y_Name y_On y_Args y_Dirs nl l =>
  show D.slice 7 none nl _ = D.slice 7 none nl (l.map TSel.c)
  congr 1
  induction l with
  | nil => rfl
  | cons a r ih => exact congrArg (TSel.c a :: ·) ih
def TSel.zero : TSel := .mk (0 : Int) ([] : Bs) ([] : Bs) ([] : Bs) (Sl.nil : Sl TArg) (Sl.nil : Sl TDir) true []
structure TOp where
 FKind : Int
 FName : Bs
 FVars : (Sl TVar)
 FSels : (Sl TSel)
noncomputable def TOp.c (x : TOp) : List D := [.int .i64 x.FKind, .str x.FName, Sl.d 9 TVar.c none x.FVars, Sl.d 7 TSel.c none x.FSels]
def TOp.zero : TOp := ⟨(0 : Int), ([] : Bs), (Sl.nil : Sl TVar), (Sl.nil : Sl TSel)⟩
structure TFrag where
 FName : Bs
 FOn : Bs
 FSels : (Sl TSel)
noncomputable def TFrag.c (x : TFrag) : List D := [.str x.FName, .str x.FOn, Sl.d 7 TSel.c none x.FSels]
def TFrag.zero : TFrag := ⟨([] : Bs), ([] : Bs), (Sl.nil : Sl TSel)⟩
structure TQuery where
 FOps : (Sl TOp)
 FFrags : (Sl TFrag)
noncomputable def TQuery.c (x : TQuery) : List D := [Sl.d 4 TOp.c none x.FOps, Sl.d 3 TFrag.c none x.FFrags]
def TQuery.zero : TQuery := ⟨(Sl.nil : Sl TOp), (Sl.nil : Sl TFrag)⟩
structure TInput where
 FName : Bs
 FType : TRef
 FHas : Bool
 FDefault : TValue
 FDirs : (Sl TDir)
noncomputable def TInput.c (x : TInput) : List D := strE x.FName ++ TRef.c x.FType ++ boolE x.FHas ++ TValue.c x.FDefault ++ (fun s => [Sl.d 2 TDir.c none s]) x.FDirs
def TInput.zero : TInput := ⟨([] : Bs), TRef.zero, false, TValue.zero, (Sl.nil : Sl TDir)⟩
structure TField where
 FName : Bs
 FArgs : (Sl TInput)
 FType : TRef
 FDirs : (Sl TDir)
noncomputable def TField.c (x : TField) : List D := strE x.FName ++ (fun s => [Sl.d 10 TInput.c none s]) x.FArgs ++ TRef.c x.FType ++ (fun s => [Sl.d 2 TDir.c none s]) x.FDirs
def TField.zero : TField := ⟨([] : Bs), (Sl.nil : Sl TInput), TRef.zero, (Sl.nil : Sl TDir)⟩
structure TMember where
 FName : Bs
 FDirs : (Sl TDir)
noncomputable def TMember.c (x : TMember) : List D := [.str x.FName, Sl.d 2 TDir.c none x.FDirs]
def TMember.zero : TMember := ⟨([] : Bs), (Sl.nil : Sl TDir)⟩
structure TDef where
 FKind : Int
 FName : Bs
 FImplements : (Sl Bs)
 FDirs : (Sl TDir)
 FFields : (Sl TField)
 FMembers : (Sl TMember)
 FInputs : (Sl TInput)
noncomputable def TDef.c (x : TDef) : List D := [.int .i64 x.FKind, .str x.FName, Sl.d 1 strE none x.FImplements, Sl.d 2 TDir.c none x.FDirs, Sl.d 5 TField.c none x.FFields, Sl.d 2 TMember.c none x.FMembers, Sl.d 10 TInput.c none x.FInputs]
def TDef.zero : TDef := ⟨(0 : Int), ([] : Bs), (Sl.nil : Sl Bs), (Sl.nil : Sl TDir), (Sl.nil : Sl TField), (Sl.nil : Sl TMember), (Sl.nil : Sl TInput)⟩
structure TDoc where
 FDefs : (Sl TDef)
noncomputable def TDoc.c (x : TDoc) : List D := [Sl.d 7 TDef.c none x.FDefs]
def TDoc.zero : TDoc := ⟨(Sl.nil : Sl TDef)⟩
structure TFault where
 FErr : Int
 FAt : Bs
def TFault.c (x : TFault) : List D := [.int .i64 x.FErr, .str x.FAt]
def TFault.zero : TFault := ⟨(0 : Int), ([] : Bs)⟩
structure Schema_checker where
 Fd : TDoc
 Ffaults : (Sl TFault)
noncomputable def Schema_checker.c (x : Schema_checker) : List D := TDoc.c x.Fd ++ (fun s => [Sl.d 2 TFault.c none s]) x.Ffaults
def Schema_checker.zero : Schema_checker := ⟨TDoc.zero, (Sl.nil : Sl TFault)⟩
noncomputable def Schema_checker.cg (t1 : Option Nat) (x : Schema_checker) : List D := TDoc.c x.Fd ++ [Sl.d 2 TFault.c t1 x.Ffaults]
structure Abstract_faces where
 Fd : TDoc
 Fout : (Sl TFault)
noncomputable def Abstract_faces.c (x : Abstract_faces) : List D := TDoc.c x.Fd ++ (fun s => [Sl.d 2 TFault.c none s]) x.Fout
def Abstract_faces.zero : Abstract_faces := ⟨TDoc.zero, (Sl.nil : Sl TFault)⟩
noncomputable def Abstract_faces.cg (t1 : Option Nat) (x : Abstract_faces) : List D := TDoc.c x.Fd ++ [Sl.d 2 TFault.c t1 x.Fout]
end Go.Proofs

namespace Go.Proofs
open Go Go.Ab Go.RowKit
section
variable {H : Type} {B : DataW H → Nat} (hB : Bulk B)
noncomputable def TRef.sz (x : TRef) : Nat := Bs.sz x.FName + ((Sl.sz (fun _ => 1)) x.FWraps + (0))
def TRef.wf (x : TRef) : Prop := (fun _ => True) x.FName ∧ ((Sl.wf i64) x.FWraps ∧ (True))
include hB in
theorem rd_TRef_37 : ∀ N, RdN Tryz.prog B N 37 TRef.c TRef.sz TRef.wf := RdA.struct hB (Tryz.tab_ok 37 _ rfl) rfl (fun N_ => (RdP.cons (n := 2) (o := 0) (o' := 1) (Tryz.tab_ok 9 _ rfl) rfl ((RdS.str hB (Tryz.tab_ok 9 _ rfl) rfl) N_) (RdP.cons (n := 2) (o := 1) (o' := 2) (Tryz.tab_ok 35 _ rfl) rfl ((RdS.slice hB (Tryz.tab_ok 35 _ rfl) rfl (Tryz.tab_ok 3 _ rfl) rfl (by decide) (fun _ => rfl) (RdS.int hB (Tryz.tab_ok 3 _ rfl) rfl)) N_) (RdP.nil (n := 2))))) (fun a => (⟨a.1, a.2.1⟩ : TRef)) (fun _ => rfl) (fun _ => Nat.le_refl _) (fun _ h => h)
noncomputable def TValue.sz : TValue → Nat := @TValue.rec (fun _ => Nat) (fun _ => Nat) (fun y_Kind y_Int y_Text nl l y_Keys ih => (fun _ => 1) y_Kind + ((fun _ => 1) y_Int + (Bs.sz y_Text + ((1 + ih) + ((Sl.sz Bs.sz) y_Keys + (0)))))) 0 (fun _ _ ih ihl => ih + ihl)
noncomputable def TValue.szL : List TValue → Nat := @TValue.rec_1 (fun _ => Nat) (fun _ => Nat) (fun y_Kind y_Int y_Text nl l y_Keys ih => (fun _ => 1) y_Kind + ((fun _ => 1) y_Int + (Bs.sz y_Text + ((1 + ih) + ((Sl.sz Bs.sz) y_Keys + (0)))))) 0 (fun _ _ ih ihl => ih + ihl)
theorem TValue.szL_eq (l : List TValue) : TValue.szL l = (l.map TValue.sz).sum := by
 induction l with
 | nil => rfl
 | cons a r ih => exact congrArg (TValue.sz a + ·) ih
theorem TValue.sz_eq (x : TValue) : x.sz = (fun _ => 1) x.FKind + ((fun _ => 1) x.FInt + (Bs.sz x.FText + ((Sl.sz TValue.sz) x.FItems + ((Sl.sz Bs.sz) x.FKeys + (0))))) := by
 cases x with
 | mk y_Kind y_Int y_Text nl l y_Keys =>
  show (fun _ => 1) y_Kind + ((fun _ => 1) y_Int + (Bs.sz y_Text + ((1 + TValue.szL l) + ((Sl.sz Bs.sz) y_Keys + (0))))) = _
  rw [TValue.szL_eq]; rfl
def TValue.wf : TValue → Prop := @TValue.rec (fun _ => Prop) (fun _ => Prop) (fun y_Kind y_Int y_Text nl l y_Keys ih => i64 y_Kind ∧ (i64 y_Int ∧ ((fun _ => True) y_Text ∧ (((nl = true → l = []) ∧ l.length ≤ maxN ∧ ih) ∧ ((Sl.wf (fun _ => True)) y_Keys ∧ (True)))))) True (fun _ _ ih ihl => ih ∧ ihl)
def TValue.wfL : List TValue → Prop := @TValue.rec_1 (fun _ => Prop) (fun _ => Prop) (fun y_Kind y_Int y_Text nl l y_Keys ih => i64 y_Kind ∧ (i64 y_Int ∧ ((fun _ => True) y_Text ∧ (((nl = true → l = []) ∧ l.length ≤ maxN ∧ ih) ∧ ((Sl.wf (fun _ => True)) y_Keys ∧ (True)))))) True (fun _ _ ih ihl => ih ∧ ihl)
theorem TValue.wfL_iff (l : List TValue) : TValue.wfL l ↔ ∀ x ∈ l, TValue.wf x := by
 induction l with
 | nil => exact ⟨fun _ _ h => (by cases h), fun _ => trivial⟩
 | cons a r ih =>
  show (TValue.wf a ∧ TValue.wfL r) ↔ _
  rw [ih]; simp
theorem TValue.wf_iff (x : TValue) : x.wf ↔ i64 x.FKind ∧ (i64 x.FInt ∧ ((fun _ => True) x.FText ∧ ((Sl.wf TValue.wf) x.FItems ∧ ((Sl.wf (fun _ => True)) x.FKeys ∧ (True))))) := by
 cases x with
 | mk y_Kind y_Int y_Text nl l y_Keys =>
  show (i64 y_Kind ∧ (i64 y_Int ∧ ((fun _ => True) y_Text ∧ (((nl = true → l = []) ∧ l.length ≤ maxN ∧ TValue.wfL l) ∧ ((Sl.wf (fun _ => True)) y_Keys ∧ (True)))))) ↔ _
  rw [TValue.wfL_iff]; exact Iff.rfl
include hB in
theorem rd_TValue_56 : ∀ N, RdN Tryz.prog B N 56 TValue.c TValue.sz TValue.wf := by
 have key : ∀ N M, M ≤ N → RdN Tryz.prog B M 56 TValue.c TValue.sz TValue.wf := by
  intro N
  induction N with
  | zero => intro M hM; rw [Nat.le_zero.1 hM]; exact .zero
  | succ N ih =>
   intro M hM
   cases M with
   | zero => exact .zero
   | succ N_ =>
    have hit : RdN Tryz.prog B N_ 53 (fun s : Sl TValue => [Sl.d 5 TValue.c none s]) (Sl.sz TValue.sz) (Sl.wf TValue.wf) := by
     cases N_ with
     | zero => exact .zero
     | succ M => exact RdS.sliceN hB (Tryz.tab_ok 53 _ rfl) rfl (Tryz.tab_ok 56 _ rfl) rfl (by decide) (fun _ => rfl) (ih M (by omega))
    refine RdN.struct hB (Tryz.tab_ok 56 _ rfl) rfl (RdP.cons (n := 5) (o := 0) (o' := 1) (Tryz.tab_ok 3 _ rfl) rfl ((RdS.int hB (Tryz.tab_ok 3 _ rfl) rfl) N_) (RdP.cons (n := 5) (o := 1) (o' := 2) (Tryz.tab_ok 3 _ rfl) rfl ((RdS.int hB (Tryz.tab_ok 3 _ rfl) rfl) N_) (RdP.cons (n := 5) (o := 2) (o' := 3) (Tryz.tab_ok 9 _ rfl) rfl ((RdS.str hB (Tryz.tab_ok 9 _ rfl) rfl) N_) (RdP.cons (n := 5) (o := 3) (o' := 4) (Tryz.tab_ok 53 _ rfl) rfl hit (RdP.cons (n := 5) (o := 4) (o' := 5) (Tryz.tab_ok 24 _ rfl) rfl ((RdS.slice hB (Tryz.tab_ok 24 _ rfl) rfl (Tryz.tab_ok 9 _ rfl) rfl (by decide) (fun _ => rfl) (RdS.str hB (Tryz.tab_ok 9 _ rfl) rfl)) N_) (RdP.nil (n := 5))))))) (fun a => TValue.mk a.1 a.2.1 a.2.2.1 a.2.2.2.1.nl a.2.2.2.1.l a.2.2.2.2.1) (fun a => ?_) (fun a => by rw [TValue.sz_eq]; exact Nat.le_refl _) (fun a h => by rw [TValue.wf_iff]; exact h)
    unfold TValue.c
    rw [TValue.FItemsD_eq]
    rfl
 exact fun N => key N N (Nat.le_refl _)
noncomputable def TVar.sz (x : TVar) : Nat := Bs.sz x.FName + (TRef.sz x.FType + ((fun _ => 1) x.FHas + (TValue.sz x.FDefault + (0))))
def TVar.wf (x : TVar) : Prop := (fun _ => True) x.FName ∧ (TRef.wf x.FType ∧ ((fun _ => True) x.FHas ∧ (TValue.wf x.FDefault ∧ (True))))
include hB in
theorem rd_TVar_174 : ∀ N, RdN Tryz.prog B N 174 TVar.c TVar.sz TVar.wf := RdA.struct hB (Tryz.tab_ok 174 _ rfl) rfl (fun N_ => (RdP.cons (n := 9) (o := 0) (o' := 1) (Tryz.tab_ok 9 _ rfl) rfl ((RdS.str hB (Tryz.tab_ok 9 _ rfl) rfl) N_) (RdP.cons (n := 9) (o := 1) (o' := 3) (Tryz.tab_ok 37 _ rfl) rfl ((rd_TRef_37 hB) N_) (RdP.cons (n := 9) (o := 3) (o' := 4) (Tryz.tab_ok 4 _ rfl) rfl ((RdS.bool hB (Tryz.tab_ok 4 _ rfl) rfl) N_) (RdP.cons (n := 9) (o := 4) (o' := 9) (Tryz.tab_ok 56 _ rfl) rfl ((rd_TValue_56 hB) N_) (RdP.nil (n := 9))))))) (fun a => (⟨a.1, a.2.1, a.2.2.1, a.2.2.2.1⟩ : TVar)) (fun _ => rfl) (fun _ => Nat.le_refl _) (fun _ h => h)
noncomputable def TArg.sz (x : TArg) : Nat := Bs.sz x.FName + (TValue.sz x.FValue + (0))
def TArg.wf (x : TArg) : Prop := (fun _ => True) x.FName ∧ (TValue.wf x.FValue ∧ (True))
include hB in
theorem rd_TArg_70 : ∀ N, RdN Tryz.prog B N 70 TArg.c TArg.sz TArg.wf := RdA.struct hB (Tryz.tab_ok 70 _ rfl) rfl (fun N_ => (RdP.cons (n := 6) (o := 0) (o' := 1) (Tryz.tab_ok 9 _ rfl) rfl ((RdS.str hB (Tryz.tab_ok 9 _ rfl) rfl) N_) (RdP.cons (n := 6) (o := 1) (o' := 6) (Tryz.tab_ok 56 _ rfl) rfl ((rd_TValue_56 hB) N_) (RdP.nil (n := 6))))) (fun a => (⟨a.1, a.2.1⟩ : TArg)) (fun _ => rfl) (fun _ => Nat.le_refl _) (fun _ h => h)
noncomputable def TDir.sz (x : TDir) : Nat := Bs.sz x.FName + ((Sl.sz TArg.sz) x.FArgs + (0))
def TDir.wf (x : TDir) : Prop := (fun _ => True) x.FName ∧ ((Sl.wf TArg.wf) x.FArgs ∧ (True))
include hB in
theorem rd_TDir_72 : ∀ N, RdN Tryz.prog B N 72 TDir.c TDir.sz TDir.wf := RdA.struct hB (Tryz.tab_ok 72 _ rfl) rfl (fun N_ => (RdP.cons (n := 2) (o := 0) (o' := 1) (Tryz.tab_ok 9 _ rfl) rfl ((RdS.str hB (Tryz.tab_ok 9 _ rfl) rfl) N_) (RdP.cons (n := 2) (o := 1) (o' := 2) (Tryz.tab_ok 62 _ rfl) rfl ((RdS.slice hB (Tryz.tab_ok 62 _ rfl) rfl (Tryz.tab_ok 70 _ rfl) rfl (by decide) (fun _ => rfl) (rd_TArg_70 hB)) N_) (RdP.nil (n := 2))))) (fun a => (⟨a.1, a.2.1⟩ : TDir)) (fun _ => rfl) (fun _ => Nat.le_refl _) (fun _ h => h)
noncomputable def TSel.sz : TSel → Nat := @TSel.rec (fun _ => Nat) (fun _ => Nat) (fun y_Kind y_Alias y_Name y_On y_Args y_Dirs nl l ih => (fun _ => 1) y_Kind + (Bs.sz y_Alias + (Bs.sz y_Name + (Bs.sz y_On + ((Sl.sz TArg.sz) y_Args + ((Sl.sz TDir.sz) y_Dirs + ((1 + ih) + (0)))))))) 0 (fun _ _ ih ihl => ih + ihl)
noncomputable def TSel.szL : List TSel → Nat := @TSel.rec_1 (fun _ => Nat) (fun _ => Nat) (fun y_Kind y_Alias y_Name y_On y_Args y_Dirs nl l ih => (fun _ => 1) y_Kind + (Bs.sz y_Alias + (Bs.sz y_Name + (Bs.sz y_On + ((Sl.sz TArg.sz) y_Args + ((Sl.sz TDir.sz) y_Dirs + ((1 + ih) + (0)))))))) 0 (fun _ _ ih ihl => ih + ihl)
theorem TSel.szL_eq (l : List TSel) : TSel.szL l = (l.map TSel.sz).sum := by
 induction l with
 | nil => rfl
 | cons a r ih => exact congrArg (TSel.sz a + ·) ih
theorem TSel.sz_eq (x : TSel) : x.sz = (fun _ => 1) x.FKind + (Bs.sz x.FAlias + (Bs.sz x.FName + (Bs.sz x.FOn + ((Sl.sz TArg.sz) x.FArgs + ((Sl.sz TDir.sz) x.FDirs + ((Sl.sz TSel.sz) x.FSels + (0))))))) := by
 cases x with
 | mk y_Kind y_Alias y_Name y_On y_Args y_Dirs nl l =>
  show (fun _ => 1) y_Kind + (Bs.sz y_Alias + (Bs.sz y_Name + (Bs.sz y_On + ((Sl.sz TArg.sz) y_Args + ((Sl.sz TDir.sz) y_Dirs + ((1 + TSel.szL l) + (0))))))) = _
  rw [TSel.szL_eq]; rfl
def TSel.wf : TSel → Prop := @TSel.rec (fun _ => Prop) (fun _ => Prop) (fun y_Kind y_Alias y_Name y_On y_Args y_Dirs nl l ih => i64 y_Kind ∧ ((fun _ => True) y_Alias ∧ ((fun _ => True) y_Name ∧ ((fun _ => True) y_On ∧ ((Sl.wf TArg.wf) y_Args ∧ ((Sl.wf TDir.wf) y_Dirs ∧ (((nl = true → l = []) ∧ l.length ≤ maxN ∧ ih) ∧ (True)))))))) True (fun _ _ ih ihl => ih ∧ ihl)
def TSel.wfL : List TSel → Prop := @TSel.rec_1 (fun _ => Prop) (fun _ => Prop) (fun y_Kind y_Alias y_Name y_On y_Args y_Dirs nl l ih => i64 y_Kind ∧ ((fun _ => True) y_Alias ∧ ((fun _ => True) y_Name ∧ ((fun _ => True) y_On ∧ ((Sl.wf TArg.wf) y_Args ∧ ((Sl.wf TDir.wf) y_Dirs ∧ (((nl = true → l = []) ∧ l.length ≤ maxN ∧ ih) ∧ (True)))))))) True (fun _ _ ih ihl => ih ∧ ihl)
theorem TSel.wfL_iff (l : List TSel) : TSel.wfL l ↔ ∀ x ∈ l, TSel.wf x := by
 induction l with
 | nil => exact ⟨fun _ _ h => (by cases h), fun _ => trivial⟩
 | cons a r ih =>
  show (TSel.wf a ∧ TSel.wfL r) ↔ _
  rw [ih]; simp
theorem TSel.wf_iff (x : TSel) : x.wf ↔ i64 x.FKind ∧ ((fun _ => True) x.FAlias ∧ ((fun _ => True) x.FName ∧ ((fun _ => True) x.FOn ∧ ((Sl.wf TArg.wf) x.FArgs ∧ ((Sl.wf TDir.wf) x.FDirs ∧ ((Sl.wf TSel.wf) x.FSels ∧ (True))))))) := by
 cases x with
 | mk y_Kind y_Alias y_Name y_On y_Args y_Dirs nl l =>
  show (i64 y_Kind ∧ ((fun _ => True) y_Alias ∧ ((fun _ => True) y_Name ∧ ((fun _ => True) y_On ∧ ((Sl.wf TArg.wf) y_Args ∧ ((Sl.wf TDir.wf) y_Dirs ∧ (((nl = true → l = []) ∧ l.length ≤ maxN ∧ TSel.wfL l) ∧ (True)))))))) ↔ _
  rw [TSel.wfL_iff]; exact Iff.rfl
include hB in
theorem rd_TSel_64 : ∀ N, RdN Tryz.prog B N 64 TSel.c TSel.sz TSel.wf := by
 have key : ∀ N M, M ≤ N → RdN Tryz.prog B M 64 TSel.c TSel.sz TSel.wf := by
  intro N
  induction N with
  | zero => intro M hM; rw [Nat.le_zero.1 hM]; exact .zero
  | succ N ih =>
   intro M hM
   cases M with
   | zero => exact .zero
   | succ N_ =>
    have hit : RdN Tryz.prog B N_ 59 (fun s : Sl TSel => [Sl.d 7 TSel.c none s]) (Sl.sz TSel.sz) (Sl.wf TSel.wf) := by
     cases N_ with
     | zero => exact .zero
     | succ M => exact RdS.sliceN hB (Tryz.tab_ok 59 _ rfl) rfl (Tryz.tab_ok 64 _ rfl) rfl (by decide) (fun _ => rfl) (ih M (by omega))
    refine RdN.struct hB (Tryz.tab_ok 64 _ rfl) rfl (RdP.cons (n := 7) (o := 0) (o' := 1) (Tryz.tab_ok 3 _ rfl) rfl ((RdS.int hB (Tryz.tab_ok 3 _ rfl) rfl) N_) (RdP.cons (n := 7) (o := 1) (o' := 2) (Tryz.tab_ok 9 _ rfl) rfl ((RdS.str hB (Tryz.tab_ok 9 _ rfl) rfl) N_) (RdP.cons (n := 7) (o := 2) (o' := 3) (Tryz.tab_ok 9 _ rfl) rfl ((RdS.str hB (Tryz.tab_ok 9 _ rfl) rfl) N_) (RdP.cons (n := 7) (o := 3) (o' := 4) (Tryz.tab_ok 9 _ rfl) rfl ((RdS.str hB (Tryz.tab_ok 9 _ rfl) rfl) N_) (RdP.cons (n := 7) (o := 4) (o' := 5) (Tryz.tab_ok 62 _ rfl) rfl ((RdS.slice hB (Tryz.tab_ok 62 _ rfl) rfl (Tryz.tab_ok 70 _ rfl) rfl (by decide) (fun _ => rfl) (rd_TArg_70 hB)) N_) (RdP.cons (n := 7) (o := 5) (o' := 6) (Tryz.tab_ok 22 _ rfl) rfl ((RdS.slice hB (Tryz.tab_ok 22 _ rfl) rfl (Tryz.tab_ok 72 _ rfl) rfl (by decide) (fun _ => rfl) (rd_TDir_72 hB)) N_) (RdP.cons (n := 7) (o := 6) (o' := 7) (Tryz.tab_ok 59 _ rfl) rfl hit (RdP.nil (n := 7))))))))) (fun a => TSel.mk a.1 a.2.1 a.2.2.1 a.2.2.2.1 a.2.2.2.2.1 a.2.2.2.2.2.1 a.2.2.2.2.2.2.1.nl a.2.2.2.2.2.2.1.l) (fun a => ?_) (fun a => by rw [TSel.sz_eq]; exact Nat.le_refl _) (fun a h => by rw [TSel.wf_iff]; exact h)
    unfold TSel.c
    rw [TSel.FSelsD_eq]
    rfl
 exact fun N => key N N (Nat.le_refl _)
noncomputable def TOp.sz (x : TOp) : Nat := (fun _ => 1) x.FKind + (Bs.sz x.FName + ((Sl.sz TVar.sz) x.FVars + ((Sl.sz TSel.sz) x.FSels + (0))))
def TOp.wf (x : TOp) : Prop := i64 x.FKind ∧ ((fun _ => True) x.FName ∧ ((Sl.wf TVar.wf) x.FVars ∧ ((Sl.wf TSel.wf) x.FSels ∧ (True))))
include hB in
theorem rd_TOp_61 : ∀ N, RdN Tryz.prog B N 61 TOp.c TOp.sz TOp.wf := RdA.struct hB (Tryz.tab_ok 61 _ rfl) rfl (fun N_ => (RdP.cons (n := 4) (o := 0) (o' := 1) (Tryz.tab_ok 3 _ rfl) rfl ((RdS.int hB (Tryz.tab_ok 3 _ rfl) rfl) N_) (RdP.cons (n := 4) (o := 1) (o' := 2) (Tryz.tab_ok 9 _ rfl) rfl ((RdS.str hB (Tryz.tab_ok 9 _ rfl) rfl) N_) (RdP.cons (n := 4) (o := 2) (o' := 3) (Tryz.tab_ok 58 _ rfl) rfl ((RdS.slice hB (Tryz.tab_ok 58 _ rfl) rfl (Tryz.tab_ok 174 _ rfl) rfl (by decide) (fun _ => rfl) (rd_TVar_174 hB)) N_) (RdP.cons (n := 4) (o := 3) (o' := 4) (Tryz.tab_ok 59 _ rfl) rfl ((RdS.slice hB (Tryz.tab_ok 59 _ rfl) rfl (Tryz.tab_ok 64 _ rfl) rfl (by decide) (fun _ => rfl) (rd_TSel_64 hB)) N_) (RdP.nil (n := 4))))))) (fun a => (⟨a.1, a.2.1, a.2.2.1, a.2.2.2.1⟩ : TOp)) (fun _ => rfl) (fun _ => Nat.le_refl _) (fun _ h => h)
noncomputable def TFrag.sz (x : TFrag) : Nat := Bs.sz x.FName + (Bs.sz x.FOn + ((Sl.sz TSel.sz) x.FSels + (0)))
def TFrag.wf (x : TFrag) : Prop := (fun _ => True) x.FName ∧ ((fun _ => True) x.FOn ∧ ((Sl.wf TSel.wf) x.FSels ∧ (True)))
include hB in
theorem rd_TFrag_105 : ∀ N, RdN Tryz.prog B N 105 TFrag.c TFrag.sz TFrag.wf := RdA.struct hB (Tryz.tab_ok 105 _ rfl) rfl (fun N_ => (RdP.cons (n := 3) (o := 0) (o' := 1) (Tryz.tab_ok 9 _ rfl) rfl ((RdS.str hB (Tryz.tab_ok 9 _ rfl) rfl) N_) (RdP.cons (n := 3) (o := 1) (o' := 2) (Tryz.tab_ok 9 _ rfl) rfl ((RdS.str hB (Tryz.tab_ok 9 _ rfl) rfl) N_) (RdP.cons (n := 3) (o := 2) (o' := 3) (Tryz.tab_ok 59 _ rfl) rfl ((RdS.slice hB (Tryz.tab_ok 59 _ rfl) rfl (Tryz.tab_ok 64 _ rfl) rfl (by decide) (fun _ => rfl) (rd_TSel_64 hB)) N_) (RdP.nil (n := 3)))))) (fun a => (⟨a.1, a.2.1, a.2.2.1⟩ : TFrag)) (fun _ => rfl) (fun _ => Nat.le_refl _) (fun _ h => h)
noncomputable def TQuery.sz (x : TQuery) : Nat := (Sl.sz TOp.sz) x.FOps + ((Sl.sz TFrag.sz) x.FFrags + (0))
def TQuery.wf (x : TQuery) : Prop := (Sl.wf TOp.wf) x.FOps ∧ ((Sl.wf TFrag.wf) x.FFrags ∧ (True))
include hB in
theorem rd_TQuery_30 : ∀ N, RdN Tryz.prog B N 30 TQuery.c TQuery.sz TQuery.wf := RdA.struct hB (Tryz.tab_ok 30 _ rfl) rfl (fun N_ => (RdP.cons (n := 2) (o := 0) (o' := 1) (Tryz.tab_ok 27 _ rfl) rfl ((RdS.slice hB (Tryz.tab_ok 27 _ rfl) rfl (Tryz.tab_ok 61 _ rfl) rfl (by decide) (fun _ => rfl) (rd_TOp_61 hB)) N_) (RdP.cons (n := 2) (o := 1) (o' := 2) (Tryz.tab_ok 28 _ rfl) rfl ((RdS.slice hB (Tryz.tab_ok 28 _ rfl) rfl (Tryz.tab_ok 105 _ rfl) rfl (by decide) (fun _ => rfl) (rd_TFrag_105 hB)) N_) (RdP.nil (n := 2))))) (fun a => (⟨a.1, a.2.1⟩ : TQuery)) (fun _ => rfl) (fun _ => Nat.le_refl _) (fun _ h => h)
end
theorem TRef.sz_def (x : TRef) : x.sz = 0 + Bs.sz x.FName + (Sl.sz (fun _ => 1)) x.FWraps := by
 unfold TRef.sz; try dsimp only
 omega
theorem TRef.pos (x : TRef) : 1 ≤ x.sz := by
 rw [TRef.sz_def]; have := Bs.sz_pos x.FName; omega
theorem TValue.sz_def (x : TValue) : x.sz = 0 + 1 + 1 + Bs.sz x.FText + (Sl.sz TValue.sz) x.FItems + (Sl.sz Bs.sz) x.FKeys := by
 rw [TValue.sz_eq]; try dsimp only
 omega
theorem TValue.pos (x : TValue) : 1 ≤ x.sz := by
 rw [TValue.sz_def]; have := Bs.sz_pos x.FText; omega
theorem TVar.sz_def (x : TVar) : x.sz = 0 + Bs.sz x.FName + TRef.sz x.FType + 1 + TValue.sz x.FDefault := by
 unfold TVar.sz; try dsimp only
 omega
theorem TVar.pos (x : TVar) : 1 ≤ x.sz := by
 rw [TVar.sz_def]; have := Bs.sz_pos x.FName; omega
theorem TArg.sz_def (x : TArg) : x.sz = 0 + Bs.sz x.FName + TValue.sz x.FValue := by
 unfold TArg.sz; try dsimp only
 omega
theorem TArg.pos (x : TArg) : 1 ≤ x.sz := by
 rw [TArg.sz_def]; have := Bs.sz_pos x.FName; omega
theorem TDir.sz_def (x : TDir) : x.sz = 0 + Bs.sz x.FName + (Sl.sz TArg.sz) x.FArgs := by
 unfold TDir.sz; try dsimp only
 omega
theorem TDir.pos (x : TDir) : 1 ≤ x.sz := by
 rw [TDir.sz_def]; have := Bs.sz_pos x.FName; omega
theorem TSel.sz_def (x : TSel) : x.sz = 0 + 1 + Bs.sz x.FAlias + Bs.sz x.FName + Bs.sz x.FOn + (Sl.sz TArg.sz) x.FArgs + (Sl.sz TDir.sz) x.FDirs + (Sl.sz TSel.sz) x.FSels := by
 rw [TSel.sz_eq]; try dsimp only
 omega
theorem TSel.pos (x : TSel) : 1 ≤ x.sz := by
 rw [TSel.sz_def]; have := Bs.sz_pos x.FAlias; omega
theorem TOp.sz_def (x : TOp) : x.sz = 0 + 1 + Bs.sz x.FName + (Sl.sz TVar.sz) x.FVars + (Sl.sz TSel.sz) x.FSels := by
 unfold TOp.sz; try dsimp only
 omega
theorem TOp.pos (x : TOp) : 1 ≤ x.sz := by
 rw [TOp.sz_def]; have := Bs.sz_pos x.FName; omega
theorem TFrag.sz_def (x : TFrag) : x.sz = 0 + Bs.sz x.FName + Bs.sz x.FOn + (Sl.sz TSel.sz) x.FSels := by
 unfold TFrag.sz; try dsimp only
 omega
theorem TFrag.pos (x : TFrag) : 1 ≤ x.sz := by
 rw [TFrag.sz_def]; have := Bs.sz_pos x.FName; omega
theorem TQuery.sz_def (x : TQuery) : x.sz = 0 + (Sl.sz TOp.sz) x.FOps + (Sl.sz TFrag.sz) x.FFrags := by
 unfold TQuery.sz; try dsimp only
 omega
theorem TQuery.pos (x : TQuery) : 1 ≤ x.sz := by
 rw [TQuery.sz_def]; have := Sl.sz_pos TOp.sz x.FOps; omega
end Go.Proofs

namespace Go.Proofs
open Go Go.Ab
open AOps Cert AWp
def Z37_j11   : Option (Int × Int) := some ((0 : Int), (8 : Int))
def Z37_l15 (a0 : TQuery) (a1 : Bs)  : Nat → Nat → Option (Int × Int)
 | 0, _ => none
 | n15 + 1, s17_16 => bif (decide (((s17_16 : Nat) : Int) < ((a0.FOps.l.length : Nat) : Int))) then ((a0.FOps.l[s17_16]?).bind fun x22 => bif ((x22.FName == a1)) then (some (((s17_16 : Nat) : Int), (0 : Int))) else ((Z37_l15 a0 a1 n15) (s17_16 + 1))) else (Z37_j11   )
def Z37 (a0 : TQuery) (a1 : Bs) : Option (Int × Int) := bif ((a1 == ([] : Bs))) then (bif (decide (((a0.FOps.l.length : Nat) : Int) = (1 : Int))) then (some ((0 : Int), (0 : Int))) else (some ((0 : Int), (8 : Int)))) else (Z37_l15 a0 a1 (a0.FOps.l.length + 1) 0)
theorem Z37_walk {a0 : TQuery} {a1 : Bs}   {r : (Int × Int)} (hE : Z37 a0 a1 = some r) (H : Heap)  : ACalls Tryz.prog 8 [.agg (TQuery.c a0), .d (.str a1)] H fun v h' => v = .tup [.d (.int .i64 r.1), .d (.int .i64 r.2)] ∧ h' = H := by
 unfold Z37 at hE
 refine ACalls.of_wp (fn := Tryz.f8) (c := _) Tryz.tab_ok (fun _ _ => Tryz.call8 _ _) Tryz.func8 rfl (n := 28) rfl (rs := [.tmp 4, .tmp 5]) rfl rfl ?_
 refine seqK fun K1 hK1 => ?_
 refine region ?_
 refine s0 (boxV rfl) rfl ?_
 refine s0 assignA rfl ?_
 refine s0 assignA rfl ?_
 refine nil ?_
 refine hK1 _ ?_
 clear hK1 K1
 refine seqK fun K2 hK2 => ?_
 refine seqK fun K3 hK3 => ?_
 refine region ?_
 refine s0 moveA rfl ?_
 refine s0 (binS rfl rfl rfl) rfl ?_
 refine nil ?_
 refine hK3 _ ?_
 clear hK3 K3
 refine condE hE rfl (fun hc4 hE => ?_) (fun hc4 hE => ?_)
 ·refine seqK fun K5 hK5 => ?_
  refine seqK fun K6 hK6 => ?_
  refine region ?_
  refine s0 (fieldVA (TK rfl) rfl rfl (TK rfl) rfl rfl) rfl ?_
  refine s0 (loadV (TK rfl) rfl rfl rfl) rfl ?_
  refine sLen (f := TOp.c) (s := a0.FOps) (TK rfl) rfl rfl rfl rfl fun hL7 => ?_
  refine s0 (binI rfl rfl rfl) rfl ?_
  refine nil ?_
  refine hK6 _ ?_
  clear hK6 K6
  refine condE hE rfl (fun hc8 hE => ?_) (fun hc8 hE => ?_)
  ·refine seqK fun K9 hK9 => ?_
   refine region ?_
   refine s0 assignA rfl ?_
   refine s0 assignA rfl ?_
   refine nil ?_
   refine hK9 _ ?_
   clear hK9 K9
   refine AWp.ret ?_
   repeat (first | refine xBlock_ret ?_ | refine xThen_ret ?_)
   obtain rfl := Option.some.inj hE
   refine retQ.retF H rfl ⟨rfl, rfl⟩ ?_
   exact (fun _ _ h => h)
  refine AWp.skip ?_
  refine hK5 _ ?_
  clear hK5 K5
  refine seqK fun K10 hK10 => ?_
  refine region ?_
  refine s0 assignA rfl ?_
  refine s0 assignA rfl ?_
  refine nil ?_
  refine hK10 _ ?_
  clear hK10 K10
  refine AWp.ret ?_
  repeat (first | refine xBlock_ret ?_ | refine xThen_ret ?_)
  obtain rfl := Option.some.inj hE
  refine retQ.retF H rfl ⟨rfl, rfl⟩ ?_
  exact (fun _ _ h => h)
 refine AWp.skip ?_
 refine hK2 _ ?_
 clear hK2 K2
 refine seqJH KeepsT.nil (fun (z : Unit) => []) (fun z => H) (fun z => Z37_j11  = some r) ?_ ?_
 ·intro K11 hK11
  refine seqK fun K13 hK13 => ?_
  refine region ?_
  refine s0 (fieldVA (TK rfl) rfl rfl (TK rfl) rfl rfl) rfl ?_
  refine s0 (loadV (TK rfl) rfl rfl rfl) rfl ?_
  refine sLen (f := TOp.c) (s := a0.FOps) (TK rfl) rfl rfl rfl rfl fun hL14 => ?_
  refine s0 moveA rfl ?_
  refine nil ?_
  refine hK13 _ ?_
  clear hK13 K13
  refine block ?_
  refine loopH (KeepsT.A (k := 1) (KeepsT.A (k := 15) (KeepsT.A (k := 16) KeepsT.nil))) (fun (z : Nat × Nat) => [(17, .a (.d (.int .i64 ((z.2 : Nat) : Int))))]) (fun z => H) (fun z => z.1) (fun z => Z37_l15 a0 a1 z.1 z.2 = some r) ((a0.FOps.l.length + 1), 0) hE Weak.toA ?_
  rintro ⟨n15, s17_16⟩ hE K15 hK15
  try dsimp only at hE
  cases n15 with
  | zero => cases hE
  | succ n15 =>
    rw [Z37_l15] at hE
    refine seqK fun K17 hK17 => ?_
    refine region ?_
    refine s0 (binI rfl rfl rfl) rfl ?_
    refine nil ?_
    refine hK17 _ ?_
    clear hK17 K17
    refine seqK fun K18 hK18 => ?_
    refine condE hE rfl (fun hc19 hE => ?_) (fun hc19 hE => ?_)
    ·try dsimp only at hc19
     have hf19 := of_decide_eq_true hc19
     refine AWp.skip ?_
     refine hK18 _ ?_
     clear hK18 K18
     refine seqK fun K20 hK20 => ?_
     refine block ?_
     refine seqK fun K21 hK21 => ?_
     refine region ?_
     refine s0 moveA rfl ?_
     obtain ⟨x22, gx22, hE⟩ := bindO_some hE
     refine s0 (idxMn (f := TOp.c) (n := s17_16) (TK rfl) rfl (TK rfl) rfl rfl rfl gx22) rfl ?_
     refine s0 (loadV (TK rfl) rfl rfl rfl) rfl ?_
     refine sL (allocLA (TK rfl) rfl) rfl ?_
     refine s0 assignA rfl ?_
     refine sLn (storeLFA (TK rfl) rfl rfl rfl rfl rfl) ?_
     refine nil ?_
     refine hK21 _ ?_
     clear hK21 K21
     refine freezeA 7 _ rfl (Keeps.c (k := 1) (by conv => lhs; whnf) (by rfl) (Keeps.c (k := 6) (by conv => lhs; whnf) (by rfl) (Keeps.c (k := 15) (by conv => lhs; whnf) (by rfl) (Keeps.c (k := 16) (by conv => lhs; whnf) (by rfl) (Keeps.c (k := 17) (by conv => lhs; whnf) (by rfl) Keeps.nil))))) ?_
     refine seqK fun K23 hK23 => ?_
     refine region ?_
     refine s0 (fieldVA (TK rfl) rfl rfl (TK rfl) rfl rfl) rfl ?_
     refine s0 (loadV (TK rfl) rfl rfl rfl) rfl ?_
     refine s0 moveA rfl ?_
     refine s0 (binS rfl rfl rfl) rfl ?_
     refine nil ?_
     refine hK23 _ ?_
     clear hK23 K23
     refine condE hE rfl (fun hc24 hE => ?_) (fun hc24 hE => ?_)
     ·refine seqK fun K25 hK25 => ?_
      refine region ?_
      refine s0 moveA rfl ?_
      refine s0 assignA rfl ?_
      refine s0 assignA rfl ?_
      refine nil ?_
      refine hK25 _ ?_
      clear hK25 K25
      refine AWp.ret ?_
      repeat (first | refine xBlock_ret ?_ | refine xThen_ret ?_)
      obtain rfl := Option.some.inj hE
      refine retQ.retF H rfl ⟨rfl, rfl⟩ ?_
      exact (fun _ _ h => h)
     refine AWp.skip ?_
     refine hK20 _ ?_
     clear hK20 K20
     refine region ?_
     refine s0 (addIA rfl rfl) rfl ?_
     refine s0 moveA rfl ?_
     refine nil ?_
     exact hK15 _ (n15, (s17_16 + 1)) Weak.toA hE (Nat.lt_succ_self _)
    refine AWp.exit ?_
    exact hK11 _ () Weak.toA hE
 rintro _ hE
 try dsimp only at hE
 unfold Z37_j11 at hE
 refine seqK fun K12 hK12 => ?_
 refine region ?_
 refine s0 assignA rfl ?_
 refine s0 assignA rfl ?_
 refine nil ?_
 refine hK12 _ ?_
 clear hK12 K12
 refine AWp.ret ?_
 repeat (first | refine xBlock_ret ?_ | refine xThen_ret ?_)
 obtain rfl := Option.some.inj hE
 refine retQ.retF H rfl ⟨rfl, rfl⟩ ?_
 exact (fun _ _ h => h)
def Z13_j6   : Option (Int × Int) := some ((0 : Int), (8 : Int))
def Z13_l9 (a0 : TQuery) (a1 : Bs)  : Nat → Nat → Option (Int × Int)
 | 0, _ => none
 | n9 + 1, s6_10 => bif (decide (((s6_10 : Nat) : Int) < ((a0.FOps.l.length : Nat) : Int))) then (guardO ((!(a1 == ([] : Bs)))) (a0.FOps.l[s6_10]?) TOp.zero fun x17 => bif ((!(a1 == ([] : Bs))) && ((x17.FName == a1))) then (some (((s6_10 : Nat) : Int), (0 : Int))) else ((Z13_l9 a0 a1 n9) (s6_10 + 1))) else (Z13_j6   )
def Z13 (a0 : TQuery) (a1 : Bs) : Option (Int × Int) := bif (((a1 == ([] : Bs))) && (decide (((a0.FOps.l.length : Nat) : Int) = (1 : Int)))) then (some ((0 : Int), (0 : Int))) else (Z13_l9 a0 a1 (a0.FOps.l.length + 1) 0)
theorem Z13_walk {a0 : TQuery} {a1 : Bs}   {r : (Int × Int)} (hE : Z13 a0 a1 = some r) (H : Heap)  : ACalls Tryz.prog 9 [.agg (TQuery.c a0), .d (.str a1)] H fun v h' => v = .tup [.d (.int .i64 r.1), .d (.int .i64 r.2)] ∧ h' = H := by
 unfold Z13 at hE
 refine ACalls.of_wp (fn := Tryz.f9) (c := _) Tryz.tab_ok (fun _ _ => Tryz.call9 _ _) Tryz.func9 rfl (n := 35) rfl (rs := [.tmp 4, .tmp 5]) rfl rfl ?_
 refine seqK fun K1 hK1 => ?_
 refine region ?_
 refine s0 (boxV rfl) rfl ?_
 refine s0 assignA rfl ?_
 refine s0 assignA rfl ?_
 refine nil ?_
 refine hK1 _ ?_
 clear hK1 K1
 refine seqK fun K2 hK2 => ?_
 refine seqK fun K3 hK3 => ?_
 refine region ?_
 refine s0 moveA rfl ?_
 refine s0 (binS rfl rfl rfl) rfl ?_
 refine s0 moveA rfl ?_
 refine gC rfl rfl (fun hC => fieldVA (TK rfl) rfl rfl (TK rfl) rfl rfl) rfl ?_
 refine gC rfl rfl (fun hC => ungdA (k := 10) rfl (loadV (TK rfl) rfl rfl rfl)) rfl ?_
 refine gC rfl rfl (fun hC => ungdA (k := 11) rfl (lenM' (f := TOp.c) (s := a0.FOps) (TK rfl) rfl rfl rfl)) rfl ?_
 refine gC rfl rfl (fun hC => ungdA (k := 12) rfl (binI rfl rfl rfl)) rfl ?_
 refine s0 (pickAndA rfl rfl rfl) rfl ?_
 refine nil ?_
 refine hK3 _ ?_
 clear hK3 K3
 refine condE hE rfl (fun hc4 hE => ?_) (fun hc4 hE => ?_)
 ·refine seqK fun K5 hK5 => ?_
  refine region ?_
  refine s0 assignA rfl ?_
  refine s0 assignA rfl ?_
  refine nil ?_
  refine hK5 _ ?_
  clear hK5 K5
  refine AWp.ret ?_
  repeat (first | refine xBlock_ret ?_ | refine xThen_ret ?_)
  obtain rfl := Option.some.inj hE
  refine retQ.retF H rfl ⟨rfl, rfl⟩ ?_
  exact (fun _ _ h => h)
 refine AWp.skip ?_
 refine hK2 _ ?_
 clear hK2 K2
 refine seqJH KeepsT.nil (fun (z : Unit) => []) (fun z => H) (fun z => Z13_j6  = some r) ?_ ?_
 ·intro K6 hK6
  refine seqK fun K8 hK8 => ?_
  refine region ?_
  refine s0 assignA rfl ?_
  refine nil ?_
  refine hK8 _ ?_
  clear hK8 K8
  refine block ?_
  refine loopH (KeepsT.A (k := 1) (KeepsT.A (k := 2) KeepsT.nil)) (fun (z : Nat × Nat) => [(6, .a (.d (.int .i64 ((z.2 : Nat) : Int))))]) (fun z => H) (fun z => z.1) (fun z => Z13_l9 a0 a1 z.1 z.2 = some r) ((a0.FOps.l.length + 1), 0) hE Weak.toA ?_
  rintro ⟨n9, s6_10⟩ hE K9 hK9
  try dsimp only at hE
  cases n9 with
  | zero => cases hE
  | succ n9 =>
    rw [Z13_l9] at hE
    refine seqK fun K11 hK11 => ?_
    refine seqK fun K12 hK12 => ?_
    refine region ?_
    refine s0 moveA rfl ?_
    refine s0 (fieldVA (TK rfl) rfl rfl (TK rfl) rfl rfl) rfl ?_
    refine s0 (loadV (TK rfl) rfl rfl rfl) rfl ?_
    refine sLen (f := TOp.c) (s := a0.FOps) (TK rfl) rfl rfl rfl rfl fun hL13 => ?_
    refine s0 (binI rfl rfl rfl) rfl ?_
    refine nil ?_
    refine hK12 _ ?_
    clear hK12 K12
    refine condE hE rfl (fun hc14 hE => ?_) (fun hc14 hE => ?_)
    ·try dsimp only at hc14
     have hf14 := of_decide_eq_true hc14
     refine AWp.skip ?_
     refine hK11 _ ?_
     clear hK11 K11
     refine seqK fun K15 hK15 => ?_
     refine block ?_
     refine seqK fun K16 hK16 => ?_
     refine region ?_
     refine s0 moveA rfl ?_
     refine s0 (binS rfl rfl rfl) rfl ?_
     refine s0 moveA rfl ?_
     refine gC rfl rfl (fun hC => fieldVA (TK rfl) rfl rfl (TK rfl) rfl rfl) rfl ?_
     refine gC rfl rfl (fun hC => ungdA (k := 25) rfl (loadV (TK rfl) rfl rfl rfl)) rfl ?_
     refine gC rfl rfl (fun hC => moveA) rfl ?_
     obtain ⟨x17, gx17, hE⟩ := guardO_some hE
     refine gC rfl rfl (fun hC => ungdA (k := 26) rfl (ungdA (k := 27) rfl (idxMn (f := TOp.c) (n := s6_10) (TK rfl) rfl (TK rfl) rfl rfl rfl (gx17 hC)))) rfl ?_
     refine gC rfl rfl (fun hC => ungdA (k := 28) rfl (fieldVA (TK rfl) rfl rfl (TK rfl) rfl rfl)) rfl ?_
     refine gC rfl rfl (fun hC => ungdA (k := 29) rfl (loadV (TK rfl) rfl rfl rfl)) rfl ?_
     refine gC rfl rfl (fun hC => moveA) rfl ?_
     refine gC rfl rfl (fun hC => ungdA (k := 30) rfl (ungdA (k := 31) rfl (binS rfl rfl rfl))) rfl ?_
     refine s0 (pickAndA rfl rfl rfl) rfl ?_
     refine nil ?_
     refine hK16 _ ?_
     clear hK16 K16
     refine condE hE rfl (fun hc18 hE => ?_) (fun hc18 hE => ?_)
     ·refine seqK fun K19 hK19 => ?_
      refine region ?_
      refine s0 moveA rfl ?_
      refine s0 assignA rfl ?_
      refine s0 assignA rfl ?_
      refine nil ?_
      refine hK19 _ ?_
      clear hK19 K19
      refine AWp.ret ?_
      repeat (first | refine xBlock_ret ?_ | refine xThen_ret ?_)
      obtain rfl := Option.some.inj hE
      refine retQ.retF H rfl ⟨rfl, rfl⟩ ?_
      exact (fun _ _ h => h)
     refine AWp.skip ?_
     refine hK15 _ ?_
     clear hK15 K15
     refine region ?_
     refine s0 moveA rfl ?_
     refine s0 (addIA rfl rfl) rfl ?_
     refine s0 assignA rfl ?_
     refine nil ?_
     exact hK9 _ (n9, (s6_10 + 1)) Weak.toA hE (Nat.lt_succ_self _)
    refine AWp.exit ?_
    exact hK6 _ () Weak.toA hE
 rintro _ hE
 try dsimp only at hE
 unfold Z13_j6 at hE
 refine seqK fun K7 hK7 => ?_
 refine region ?_
 refine s0 assignA rfl ?_
 refine s0 assignA rfl ?_
 refine nil ?_
 refine hK7 _ ?_
 clear hK7 K7
 refine AWp.ret ?_
 repeat (first | refine xBlock_ret ?_ | refine xThen_ret ?_)
 obtain rfl := Option.some.inj hE
 refine retQ.retF H rfl ⟨rfl, rfl⟩ ?_
 exact (fun _ _ h => h)
def Z15_j2  (y3_l0 : TDef) : Option (TDef × Bool) := some ((TDef.mk (0 : Int) ([] : Bs) (Sl.nil : Sl Bs) (Sl.nil : Sl TDir) (Sl.nil : Sl TField) (Sl.nil : Sl TMember) (Sl.nil : Sl TInput)), false)
def Z15_l7 (a0 : TDoc) (a1 : Bs)  : Nat → Nat → TDef → Option (TDef × Bool)
 | 0, _, _ => none
 | n7 + 1, s11_8, y9_l0 => bif (decide (((s11_8 : Nat) : Int) < ((a0.FDefs.l.length : Nat) : Int))) then ((a0.FDefs.l[s11_8]?).bind fun x15 => bif ((x15.FName == a1)) then (some (x15, true)) else ((Z15_l7 a0 a1 n7) (s11_8 + 1) y9_l0)) else (Z15_j2   y9_l0)
def Z15 (a0 : TDoc) (a1 : Bs) : Option (TDef × Bool) := Z15_l7 a0 a1 (a0.FDefs.l.length + 1) 0 TDef.zero
theorem Z15_walk {a0 : TDoc} {a1 : Bs}   {r : (TDef × Bool)} (hE : Z15 a0 a1 = some r) (H : Heap)  : ACalls Tryz.prog 24 [.agg (TDoc.c a0), .d (.str a1)] H fun v h' => v = .tup [.agg (TDef.c r.1), .d (.bool r.2)] ∧ h' = H := by
 unfold Z15 at hE
 refine ACalls.of_wp (fn := Tryz.f24) (c := _) Tryz.tab_ok (fun _ _ => Tryz.call24 _ _) Tryz.func24 rfl (n := 22) rfl (rs := [.cell 4 45, .tmp 5]) rfl rfl ?_
 refine seqK fun K1 hK1 => ?_
 refine region ?_
 refine s0 (boxV rfl) rfl ?_
 refine sL (allocLA (TK rfl) rfl) rfl ?_
 refine s0 assignA rfl ?_
 refine nil ?_
 refine hK1 _ ?_
 clear hK1 K1
 refine seqJ (KeepsT.A (k := 4) KeepsT.nil) (fun (z : TDef) => []) (fun z => [TDef.c z]) (fun z => H) (fun z => Z15_j2 z = some r) ?_ ?_
 ·intro K2 hK2
  refine seqK fun K5 hK5 => ?_
  refine region ?_
  refine s0 (fieldVA (TK rfl) rfl rfl (TK rfl) rfl rfl) rfl ?_
  refine s0 (loadV (TK rfl) rfl rfl rfl) rfl ?_
  refine sLen (f := TDef.c) (s := a0.FDefs) (TK rfl) rfl rfl rfl rfl fun hL6 => ?_
  refine s0 moveA rfl ?_
  refine nil ?_
  refine hK5 _ ?_
  clear hK5 K5
  refine block ?_
  refine loopO (KeepsT.A (k := 1) (KeepsT.A (k := 4) (KeepsT.A (k := 9) (KeepsT.A (k := 10) KeepsT.nil)))) (fun (z : Nat × Nat × TDef) => [(11, .a (.d (.int .i64 ((z.2.1 : Nat) : Int))))]) (fun z => [TDef.c z.2.2]) (fun z => H) (fun z => z.1) (fun z => Z15_l7 a0 a1 z.1 z.2.1 z.2.2 = some r) ((a0.FDefs.l.length + 1), 0, TDef.zero) hE Weak.toA ?_
  rintro ⟨n7, s11_8, y9_l0⟩ hE K7 hK7
  try dsimp only at hE
  cases n7 with
  | zero => cases hE
  | succ n7 =>
    rw [Z15_l7] at hE
    refine seqK fun K10 hK10 => ?_
    refine region ?_
    refine s0 (binI rfl rfl rfl) rfl ?_
    refine nil ?_
    refine hK10 _ ?_
    clear hK10 K10
    refine seqK fun K11 hK11 => ?_
    refine condE hE rfl (fun hc12 hE => ?_) (fun hc12 hE => ?_)
    ·try dsimp only at hc12
     have hf12 := of_decide_eq_true hc12
     refine AWp.skip ?_
     refine hK11 _ ?_
     clear hK11 K11
     refine seqK fun K13 hK13 => ?_
     refine block ?_
     refine seqK fun K14 hK14 => ?_
     refine region ?_
     obtain ⟨x15, gx15, hE⟩ := bindO_some hE
     refine s0 (idxMn (f := TDef.c) (n := s11_8) (TK rfl) rfl (TK rfl) rfl rfl rfl gx15) rfl ?_
     refine s0 (loadV (TK rfl) rfl rfl rfl) rfl ?_
     refine sL (allocLA (TK rfl) rfl) rfl ?_
     refine sLn (storeLFA (TK rfl) rfl rfl rfl rfl rfl) ?_
     refine nil ?_
     refine hK14 _ ?_
     clear hK14 K14
     refine freezeA 7 _ rfl (Keeps.c (k := 1) (by conv => lhs; whnf) (by rfl) (Keeps.c (k := 4) (by conv => lhs; whnf) (by rfl) (Keeps.c (k := 9) (by conv => lhs; whnf) (by rfl) (Keeps.c (k := 10) (by conv => lhs; whnf) (by rfl) (Keeps.c (k := 11) (by conv => lhs; whnf) (by rfl) Keeps.nil))))) ?_
     refine seqK fun K16 hK16 => ?_
     refine region ?_
     refine s0 (fieldVA (TK rfl) rfl rfl (TK rfl) rfl rfl) rfl ?_
     refine s0 (loadV (TK rfl) rfl rfl rfl) rfl ?_
     refine s0 moveA rfl ?_
     refine s0 (binS rfl rfl rfl) rfl ?_
     refine nil ?_
     refine hK16 _ ?_
     clear hK16 K16
     refine condE hE rfl (fun hc17 hE => ?_) (fun hc17 hE => ?_)
     ·refine seqK fun K18 hK18 => ?_
      refine region ?_
      refine s0 (loadV (TK rfl) rfl rfl rfl) rfl ?_
      refine sLn (storeLFA (TK rfl) rfl rfl rfl rfl rfl) ?_
      refine s0 assignA rfl ?_
      refine nil ?_
      refine hK18 _ ?_
      clear hK18 K18
      refine AWp.ret ?_
      repeat (first | refine xBlock_ret ?_ | refine xThen_ret ?_)
      obtain rfl := Option.some.inj hE
      refine retQ.retF H rfl ⟨rfl, rfl⟩ ?_
      exact (fun _ _ h => h)
     refine AWp.skip ?_
     refine hK13 _ ?_
     clear hK13 K13
     refine region ?_
     refine s0 (addIA rfl rfl) rfl ?_
     refine s0 moveA rfl ?_
     refine nil ?_
     exact hK7 _ (n7, (s11_8 + 1), y9_l0) Weak.toA hE (Nat.lt_succ_self _)
    refine AWp.exit ?_
    exact hK2 _ y9_l0 Weak.toA hE
 rintro y3_l0 hE
 try dsimp only at hE
 unfold Z15_j2 at hE
 refine seqK fun K4 hK4 => ?_
 refine region ?_
 refine s0 (build Tryz.tab_ok rfl rfl rfl rfl rfl rfl) rfl ?_
 refine sLn (storeLFA (TK rfl) rfl rfl rfl rfl rfl) ?_
 refine s0 assignA rfl ?_
 refine nil ?_
 refine hK4 _ ?_
 clear hK4 K4
 refine AWp.ret ?_
 repeat (first | refine xBlock_ret ?_ | refine xThen_ret ?_)
 obtain rfl := Option.some.inj hE
 refine retQ.retF H rfl ⟨rfl, rfl⟩ ?_
 exact (fun _ _ h => h)
def Z18 (a0 : Int) : Option Bs := bif (decide (a0 = (1 : Int))) then (some ([81, 117, 101, 114, 121] : Bs)) else (bif (decide (a0 = (2 : Int))) then (some ([77, 117, 116, 97, 116, 105, 111, 110] : Bs)) else (bif (decide (a0 = (3 : Int))) then (some ([83, 117, 98, 115, 99, 114, 105, 112, 116, 105, 111, 110] : Bs)) else (some ([] : Bs))))
theorem Z18_walk {a0 : Int}   {r : Bs} (hE : Z18 a0 = some r) (H : Heap)  : ACalls Tryz.prog 47 [.d (.int .i64 a0)] H fun v h' => v = .a (.d (.str r)) ∧ h' = H := by
 unfold Z18 at hE
 refine ACalls.of_wp (fn := Tryz.f47) (c := _) Tryz.tab_ok (fun _ _ => Tryz.call47 _ _) Tryz.func47 rfl (n := 10) rfl (rs := [.tmp 2]) rfl rfl ?_
 refine seqK fun K1 hK1 => ?_
 refine region ?_
 refine s0 assignA rfl ?_
 refine nil ?_
 refine hK1 _ ?_
 clear hK1 K1
 refine seqK fun K2 hK2 => ?_
 refine seqK fun K3 hK3 => ?_
 refine region ?_
 refine s0 moveA rfl ?_
 refine nil ?_
 refine hK3 _ ?_
 clear hK3 K3
 refine block ?_
 refine seqK fun K4 hK4 => ?_
 refine region ?_
 refine s0 (binI rfl rfl rfl) rfl ?_
 refine s0 assignA rfl ?_
 refine nil ?_
 refine hK4 _ ?_
 clear hK4 K4
 refine condE hE rfl (fun hc5 hE => ?_) (fun hc5 hE => ?_)
 ·refine seqK fun K6 hK6 => ?_
  refine region ?_
  refine s0 assignA rfl ?_
  refine nil ?_
  refine hK6 _ ?_
  clear hK6 K6
  refine AWp.ret ?_
  repeat (first | refine xBlock_ret ?_ | refine xThen_ret ?_)
  obtain rfl := Option.some.inj hE
  refine retQ.retF H rfl ⟨rfl, rfl⟩ ?_
  exact (fun _ _ h => h)
 refine seqK fun K7 hK7 => ?_
 refine region ?_
 refine s0 (binI rfl rfl rfl) rfl ?_
 refine s0 assignA rfl ?_
 refine nil ?_
 refine hK7 _ ?_
 clear hK7 K7
 refine condE hE rfl (fun hc8 hE => ?_) (fun hc8 hE => ?_)
 ·refine seqK fun K9 hK9 => ?_
  refine region ?_
  refine s0 assignA rfl ?_
  refine nil ?_
  refine hK9 _ ?_
  clear hK9 K9
  refine AWp.ret ?_
  repeat (first | refine xBlock_ret ?_ | refine xThen_ret ?_)
  obtain rfl := Option.some.inj hE
  refine retQ.retF H rfl ⟨rfl, rfl⟩ ?_
  exact (fun _ _ h => h)
 refine seqK fun K10 hK10 => ?_
 refine region ?_
 refine s0 (binI rfl rfl rfl) rfl ?_
 refine s0 assignA rfl ?_
 refine nil ?_
 refine hK10 _ ?_
 clear hK10 K10
 refine condE hE rfl (fun hc11 hE => ?_) (fun hc11 hE => ?_)
 ·refine seqK fun K12 hK12 => ?_
  refine region ?_
  refine s0 assignA rfl ?_
  refine nil ?_
  refine hK12 _ ?_
  clear hK12 K12
  refine AWp.ret ?_
  repeat (first | refine xBlock_ret ?_ | refine xThen_ret ?_)
  obtain rfl := Option.some.inj hE
  refine retQ.retF H rfl ⟨rfl, rfl⟩ ?_
  exact (fun _ _ h => h)
 refine AWp.skip ?_
 refine hK2 _ ?_
 clear hK2 K2
 refine seqK fun K13 hK13 => ?_
 refine region ?_
 refine s0 assignA rfl ?_
 refine nil ?_
 refine hK13 _ ?_
 clear hK13 K13
 refine AWp.ret ?_
 repeat (first | refine xBlock_ret ?_ | refine xThen_ret ?_)
 obtain rfl := Option.some.inj hE
 refine retQ.retF H rfl ⟨rfl, rfl⟩ ?_
 exact (fun _ _ h => h)
def Z41_j9   : Option Bool := some true
def Z41_l14 (x12 : TSel)  : Nat → Nat → Option Bool
 | 0, _ => none
 | n14 + 1, s27_15 => bif (decide (((s27_15 : Nat) : Int) < ((x12.FDirs.l.length : Nat) : Int))) then ((x12.FDirs.l[s27_15]?).bind fun x21 => bif (((x21.FName == ([115, 107, 105, 112] : Bs))) || ((x21.FName == ([105, 110, 99, 108, 117, 100, 101] : Bs)))) then (some false) else ((Z41_l14 x12 n14) (s27_15 + 1))) else (Z41_j9   )
def Z41 (a0 : (Sl TSel)) : Option Bool := guardO (!(!decide (((a0.l.length : Nat) : Int) = (1 : Int)))) (a0.l[0]?) TSel.zero fun x5 => guardO (!((!decide (((a0.l.length : Nat) : Int) = (1 : Int))) || (!decide (x5.FKind = (1 : Int))))) (a0.l[0]?) TSel.zero fun x6 => bif (((!decide (((a0.l.length : Nat) : Int) = (1 : Int))) || (!decide (x5.FKind = (1 : Int)))) || ((x6.FName == ([95, 95, 116, 121, 112, 101, 110, 97, 109, 101] : Bs)))) then (some false) else ((a0.l[0]?).bind fun x12 => Z41_l14 x12 (x12.FDirs.l.length + 1) 0)
theorem Z41_walk {a0 : (Sl TSel)} {w0 : Option Nat}  {r : Bool} (hE : Z41 a0 = some r) (H : Heap)  : ACalls Tryz.prog 79 [.d (Sl.d 7 TSel.c w0 a0)] H fun v h' => v = .a (.d (.bool r)) ∧ h' = H := by
 unfold Z41 at hE
 refine ACalls.of_wp (fn := Tryz.f79) (c := _) Tryz.tab_ok (fun _ _ => Tryz.call79 _ _) Tryz.func79 rfl (n := 40) rfl (rs := [.tmp 2]) rfl rfl ?_
 refine seqK fun K1 hK1 => ?_
 refine region ?_
 refine s0 assignA rfl ?_
 refine nil ?_
 refine hK1 _ ?_
 clear hK1 K1
 refine seqK fun K2 hK2 => ?_
 refine seqK fun K3 hK3 => ?_
 refine region ?_
 refine s0 moveA rfl ?_
 refine sLen (f := TSel.c) (s := a0) (TK rfl) rfl rfl rfl rfl fun hL4 => ?_
 refine s0 (binI rfl rfl rfl) rfl ?_
 refine s0 moveA rfl ?_
 refine gC rfl rfl (fun hC => moveA) rfl ?_
 obtain ⟨x5, gx5, hE⟩ := guardO_some hE
 refine gC rfl rfl (fun hC => ungdA (k := 9) rfl (idxMn (f := TSel.c) (n := 0) (TK rfl) rfl (TK rfl) rfl rfl rfl (gx5 hC))) rfl ?_
 refine gC rfl rfl (fun hC => ungdA (k := 10) rfl (fieldVA (TK rfl) rfl rfl (TK rfl) rfl rfl)) rfl ?_
 refine gC rfl rfl (fun hC => ungdA (k := 11) rfl (loadV (TK rfl) rfl rfl rfl)) rfl ?_
 refine gC rfl rfl (fun hC => ungdA (k := 12) rfl (binI rfl rfl rfl)) rfl ?_
 refine s0 (pickOrA rfl rfl rfl) rfl ?_
 refine s0 moveA rfl ?_
 refine gC rfl rfl (fun hC => moveA) rfl ?_
 obtain ⟨x6, gx6, hE⟩ := guardO_some hE
 refine gC rfl rfl (fun hC => ungdA (k := 16) rfl (idxMn (f := TSel.c) (n := 0) (TK rfl) rfl (TK rfl) rfl rfl rfl (gx6 hC))) rfl ?_
 refine gC rfl rfl (fun hC => ungdA (k := 17) rfl (fieldVA (TK rfl) rfl rfl (TK rfl) rfl rfl)) rfl ?_
 refine gC rfl rfl (fun hC => ungdA (k := 18) rfl (loadV (TK rfl) rfl rfl rfl)) rfl ?_
 refine gC rfl rfl (fun hC => ungdA (k := 19) rfl (binS rfl rfl rfl)) rfl ?_
 refine s0 (pickOrA rfl rfl rfl) rfl ?_
 refine nil ?_
 refine hK3 _ ?_
 clear hK3 K3
 refine condE hE rfl (fun hc7 hE => ?_) (fun hc7 hE => ?_)
 ·refine seqK fun K8 hK8 => ?_
  refine region ?_
  refine s0 assignA rfl ?_
  refine nil ?_
  refine hK8 _ ?_
  clear hK8 K8
  refine AWp.ret ?_
  repeat (first | refine xBlock_ret ?_ | refine xThen_ret ?_)
  obtain rfl := Option.some.inj hE
  refine retQ.retF H rfl ⟨rfl, rfl⟩ ?_
  exact (fun _ _ h => h)
 refine AWp.skip ?_
 refine hK2 _ ?_
 clear hK2 K2
 refine seqJH KeepsT.nil (fun (z : Unit) => []) (fun z => H) (fun z => Z41_j9  = some r) ?_ ?_
 ·intro K9 hK9
  refine seqK fun K11 hK11 => ?_
  refine region ?_
  refine s0 moveA rfl ?_
  obtain ⟨x12, gx12, hE⟩ := bindO_some hE
  refine s0 (idxMn (f := TSel.c) (n := 0) (TK rfl) rfl (TK rfl) rfl rfl rfl gx12) rfl ?_
  refine s0 (fieldVA (TK rfl) rfl rfl (TK rfl) rfl rfl) rfl ?_
  refine s0 (loadV (TK rfl) rfl rfl rfl) rfl ?_
  refine sLen (f := TDir.c) (s := x12.FDirs) (TK rfl) rfl rfl rfl rfl fun hL13 => ?_
  refine s0 moveA rfl ?_
  refine nil ?_
  refine hK11 _ ?_
  clear hK11 K11
  refine block ?_
  refine loopH (KeepsT.A (k := 25) (KeepsT.A (k := 26) KeepsT.nil)) (fun (z : Nat × Nat) => [(27, .a (.d (.int .i64 ((z.2 : Nat) : Int))))]) (fun z => H) (fun z => z.1) (fun z => Z41_l14 x12 z.1 z.2 = some r) ((x12.FDirs.l.length + 1), 0) hE Weak.toA ?_
  rintro ⟨n14, s27_15⟩ hE K14 hK14
  try dsimp only at hE
  cases n14 with
  | zero => cases hE
  | succ n14 =>
    rw [Z41_l14] at hE
    refine seqK fun K16 hK16 => ?_
    refine region ?_
    refine s0 (binI rfl rfl rfl) rfl ?_
    refine nil ?_
    refine hK16 _ ?_
    clear hK16 K16
    refine seqK fun K17 hK17 => ?_
    refine condE hE rfl (fun hc18 hE => ?_) (fun hc18 hE => ?_)
    ·try dsimp only at hc18
     have hf18 := of_decide_eq_true hc18
     refine AWp.skip ?_
     refine hK17 _ ?_
     clear hK17 K17
     refine seqK fun K19 hK19 => ?_
     refine block ?_
     refine seqK fun K20 hK20 => ?_
     refine region ?_
     obtain ⟨x21, gx21, hE⟩ := bindO_some hE
     refine s0 (idxMn (f := TDir.c) (n := s27_15) (TK rfl) rfl (TK rfl) rfl rfl rfl gx21) rfl ?_
     refine s0 (loadV (TK rfl) rfl rfl rfl) rfl ?_
     refine sL (allocLA (TK rfl) rfl) rfl ?_
     refine sLn (storeLFA (TK rfl) rfl rfl rfl rfl rfl) ?_
     refine nil ?_
     refine hK20 _ ?_
     clear hK20 K20
     refine freezeA 4 _ rfl (Keeps.c (k := 25) (by conv => lhs; whnf) (by rfl) (Keeps.c (k := 26) (by conv => lhs; whnf) (by rfl) (Keeps.c (k := 27) (by conv => lhs; whnf) (by rfl) Keeps.nil))) ?_
     refine seqK fun K22 hK22 => ?_
     refine region ?_
     refine s0 (fieldVA (TK rfl) rfl rfl (TK rfl) rfl rfl) rfl ?_
     refine s0 (loadV (TK rfl) rfl rfl rfl) rfl ?_
     refine s0 (binS rfl rfl rfl) rfl ?_
     refine s0 moveA rfl ?_
     refine gC rfl rfl (fun hC => fieldVA (TK rfl) rfl rfl (TK rfl) rfl rfl) rfl ?_
     refine gC rfl rfl (fun hC => ungdA (k := 35) rfl (loadV (TK rfl) rfl rfl rfl)) rfl ?_
     refine gC rfl rfl (fun hC => ungdA (k := 36) rfl (binS rfl rfl rfl)) rfl ?_
     refine s0 (pickOrA rfl rfl rfl) rfl ?_
     refine nil ?_
     refine hK22 _ ?_
     clear hK22 K22
     refine condE hE rfl (fun hc23 hE => ?_) (fun hc23 hE => ?_)
     ·refine seqK fun K24 hK24 => ?_
      refine region ?_
      refine s0 assignA rfl ?_
      refine nil ?_
      refine hK24 _ ?_
      clear hK24 K24
      refine AWp.ret ?_
      repeat (first | refine xBlock_ret ?_ | refine xThen_ret ?_)
      obtain rfl := Option.some.inj hE
      refine retQ.retF H rfl ⟨rfl, rfl⟩ ?_
      exact (fun _ _ h => h)
     refine AWp.skip ?_
     refine hK19 _ ?_
     clear hK19 K19
     refine region ?_
     refine s0 (addIA rfl rfl) rfl ?_
     refine s0 moveA rfl ?_
     refine nil ?_
     exact hK14 _ (n14, (s27_15 + 1)) Weak.toA hE (Nat.lt_succ_self _)
    refine AWp.exit ?_
    exact hK9 _ () Weak.toA hE
 rintro _ hE
 try dsimp only at hE
 unfold Z41_j9 at hE
 refine seqK fun K10 hK10 => ?_
 refine region ?_
 refine s0 assignA rfl ?_
 refine nil ?_
 refine hK10 _ ?_
 clear hK10 K10
 refine AWp.ret ?_
 repeat (first | refine xBlock_ret ?_ | refine xThen_ret ?_)
 obtain rfl := Option.some.inj hE
 refine retQ.retF H rfl ⟨rfl, rfl⟩ ?_
 exact (fun _ _ h => h)
end Go.Proofs

namespace Go.Proofs
open Go Go.Ab
open AOps Cert AWp
def Z39_j11  (s7_12 : (Sl TFault)) : Option (Sl TFault) := some s7_12
def Z39_j9 (x4 : TOp)  (s7_10 : (Sl TFault)) : Option (Sl TFault) := guardO ((decide (x4.FKind = (3 : Int)))) (Z41 x4.FSels) false fun x15 => bif ((decide (x4.FKind = (3 : Int))) && (!x15)) then ((appC 24 s7_10 (⟨false, [(TFault.mk (30 : Int) x4.FName)]⟩ : Sl TFault)).bind fun x17 => Z39_j11   x17) else (Z39_j11   s7_10)
def Z39_j7 (a0 : TDoc) (x4 : TOp)  (s7_8 : (Sl TFault)) : Option (Sl TFault) := (Z18 x4.FKind).bind fun x19 => (Z15 a0 x19).bind fun x20 => bif (!x20.2) then ((appC 24 s7_8 (⟨false, [(TFault.mk (30 : Int) x4.FName)]⟩ : Sl TFault)).bind fun x23 => Z39_j9 x4  x23) else (Z39_j9 x4  s7_8)
def Z39_j5 (a0 : TDoc) (a1 : TQuery) (x4 : TOp)  (s7_6 : (Sl TFault)) : Option (Sl TFault) := bif (((x4.FName == ([] : Bs))) && (decide ((1 : Int) < ((a1.FOps.l.length : Nat) : Int)))) then ((appC 24 s7_6 (⟨false, [(TFault.mk (6 : Int) ([] : Bs))]⟩ : Sl TFault)).bind fun x26 => Z39_j7 a0 x4  x26) else (Z39_j7 a0 x4  s7_6)
def Z39_l30 (a0 : TDoc) (a1 : TQuery) (x4 : TOp) (x28 : (Sl TOp))  : Nat → (Sl TFault) → Nat → Option (Sl TFault)
 | 0, _, _ => none
 | n30 + 1, s7_31, s23_32 => bif (decide (((s23_32 : Nat) : Int) < ((x28.l.length : Nat) : Int))) then ((x28.l[s23_32]?).bind fun x38 => bif ((!(x4.FName == ([] : Bs))) && ((x38.FName == x4.FName))) then ((appC 24 s7_31 (⟨false, [(TFault.mk (7 : Int) x4.FName)]⟩ : Sl TFault)).bind fun x42 => Z39_j5 a0 a1 x4  x42) else ((Z39_l30 a0 a1 x4 x28 n30) s7_31 (s23_32 + 1))) else (Z39_j5 a0 a1 x4  s7_31)
def Z39 (a0 : TDoc) (a1 : TQuery) (a2 : Int) : Option (Sl TFault) := (idxC a1.FOps.l a2).bind fun x4 => (partC a1.FOps none (some a2)).bind fun x28 => Z39_l30 a0 a1 x4 x28 (x28.l.length + 1) (Sl.nil : Sl TFault) 0
theorem Z39_walk {a0 : TDoc} {a1 : TQuery} {a2 : Int}   {r : (Sl TFault)} (hE : Z39 a0 a1 a2 = some r) (H : Heap)  : ACalls Tryz.prog 45 [.agg (TDoc.c a0), .agg (TQuery.c a1), .d (.int .i64 a2)] H fun v h' => v = .a (.d (Sl.d 2 TFault.c none r)) ∧ h' = H := by
 unfold Z39 at hE
 refine ACalls.of_wp (fn := Tryz.f45) (c := _) Tryz.tab_ok (fun _ _ => Tryz.call45 _ _) Tryz.func45 rfl (n := 89) rfl (rs := [.tmp 6]) rfl rfl ?_
 refine AWp.tok 2 fun tk1 htk1 => ?_
 refine seqK fun K1 hK1 => ?_
 refine region ?_
 refine s0 (boxV rfl) rfl ?_
 refine s0 (boxV rfl) rfl ?_
 refine s0 (assignNil (k' := 2) rfl) rfl ?_
 refine nil ?_
 refine hK1 _ ?_
 clear hK1 K1
 refine seqK fun K2 hK2 => ?_
 refine region ?_
 refine s0 assignA rfl ?_
 refine nil ?_
 refine hK2 _ ?_
 clear hK2 K2
 refine AWp.nilTok 7 2 tk1 rfl hpG ?_
 refine seqK fun K3 hK3 => ?_
 refine region ?_
 refine s0 (fieldVA (TK rfl) rfl rfl (TK rfl) rfl rfl) rfl ?_
 refine s0 (loadV (TK rfl) rfl rfl rfl) rfl ?_
 refine s0 moveA rfl ?_
 obtain ⟨x4, gx4, hE⟩ := bindO_some hE
 refine s0 (idxM (f := TOp.c) (TK rfl) rfl (TK rfl) rfl rfl rfl gx4) rfl ?_
 refine s0 (loadV (TK rfl) rfl rfl rfl) rfl ?_
 refine sL (allocLA (TK rfl) rfl) rfl ?_
 refine sLn (storeLFA (TK rfl) rfl rfl rfl rfl rfl) ?_
 refine nil ?_
 refine hK3 _ ?_
 clear hK3 K3
 refine freezeA 8 _ rfl (Keeps.c (k := 2) (by conv => lhs; whnf) (by rfl) (Keeps.c (k := 3) (by conv => lhs; whnf) (by rfl) (Keeps.c (k := 4) (by conv => lhs; whnf) (by rfl) (Keeps.c (k := 7) (by conv => lhs; whnf) (by rfl) Keeps.nil)))) ?_
 refine seqJH (KeepsT.A (k := 3) (KeepsT.A (k := 4) (KeepsT.A (k := 8) KeepsT.nil))) (fun (z : (Sl TFault)) => [(7, .a (.d (Sl.d 2 TFault.c (some tk1) z)))]) (fun z => (H.set tk1 (some (.tok 2 z.l.length)))) (fun z => Z39_j5 a0 a1 x4 z = some r) ?_ ?_
 ·intro K5 hK5
  refine seqK fun K27 hK27 => ?_
  refine region ?_
  refine s0 (fieldVA (TK rfl) rfl rfl (TK rfl) rfl rfl) rfl ?_
  refine s0 (loadV (TK rfl) rfl rfl rfl) rfl ?_
  refine s0 moveA rfl ?_
  obtain ⟨x28, gx28, hE⟩ := bindO_some hE
  refine s0 (partM (f := TOp.c) (l := none) (r := (some a2)) (TK rfl) rfl (TK rfl) rfl rfl trivial rfl gx28) rfl ?_
  refine sLen (f := TOp.c) (s := x28) (TK rfl) rfl rfl rfl rfl fun hL29 => ?_
  refine s0 moveA rfl ?_
  refine nil ?_
  refine hK27 _ ?_
  clear hK27 K27
  refine block ?_
  refine loopH (KeepsT.A (k := 3) (KeepsT.A (k := 4) (KeepsT.A (k := 8) (KeepsT.A (k := 21) (KeepsT.A (k := 22) KeepsT.nil))))) (fun (z : Nat × (Sl TFault) × Nat) => [(7, .a (.d (Sl.d 2 TFault.c (some tk1) z.2.1))), (23, .a (.d (.int .i64 ((z.2.2 : Nat) : Int))))]) (fun z => (H.set tk1 (some (.tok 2 z.2.1.l.length)))) (fun z => z.1) (fun z => Z39_l30 a0 a1 x4 x28 z.1 z.2.1 z.2.2 = some r) ((x28.l.length + 1), (Sl.nil : Sl TFault), 0) hE Weak.toA ?_
  rintro ⟨n30, s7_31, s23_32⟩ hE K30 hK30
  try dsimp only at hE
  cases n30 with
  | zero => cases hE
  | succ n30 =>
    rw [Z39_l30] at hE
    refine seqK fun K33 hK33 => ?_
    refine region ?_
    refine s0 (binI rfl rfl rfl) rfl ?_
    refine nil ?_
    refine hK33 _ ?_
    clear hK33 K33
    refine seqK fun K34 hK34 => ?_
    refine condE hE rfl (fun hc35 hE => ?_) (fun hc35 hE => ?_)
    ·try dsimp only at hc35
     have hf35 := of_decide_eq_true hc35
     refine AWp.skip ?_
     refine hK34 _ ?_
     clear hK34 K34
     refine seqK fun K36 hK36 => ?_
     refine block ?_
     refine seqK fun K37 hK37 => ?_
     refine region ?_
     obtain ⟨x38, gx38, hE⟩ := bindO_some hE
     refine s0 (idxMn (f := TOp.c) (n := s23_32) (TK rfl) rfl (TK rfl) rfl rfl rfl gx38) rfl ?_
     refine s0 (loadV (TK rfl) rfl rfl rfl) rfl ?_
     refine sL (allocLA (TK rfl) rfl) rfl ?_
     refine sLn (storeLFA (TK rfl) rfl rfl rfl rfl rfl) ?_
     refine nil ?_
     refine hK37 _ ?_
     clear hK37 K37
     refine freezeA 10 _ rfl (Keeps.c (k := 3) (by conv => lhs; whnf) (by rfl) (Keeps.c (k := 4) (by conv => lhs; whnf) (by rfl) (Keeps.c (k := 7) (by conv => lhs; whnf) (by rfl) (Keeps.c (k := 8) (by conv => lhs; whnf) (by rfl) (Keeps.c (k := 21) (by conv => lhs; whnf) (by rfl) (Keeps.c (k := 22) (by conv => lhs; whnf) (by rfl) (Keeps.c (k := 23) (by conv => lhs; whnf) (by rfl) Keeps.nil))))))) ?_
     refine seqK fun K39 hK39 => ?_
     refine region ?_
     refine s0 (fieldVA (TK rfl) rfl rfl (TK rfl) rfl rfl) rfl ?_
     refine s0 (loadV (TK rfl) rfl rfl rfl) rfl ?_
     refine s0 (binS rfl rfl rfl) rfl ?_
     refine s0 moveA rfl ?_
     refine gC rfl rfl (fun hC => fieldVA (TK rfl) rfl rfl (TK rfl) rfl rfl) rfl ?_
     refine gC rfl rfl (fun hC => ungdA (k := 31) rfl (loadV (TK rfl) rfl rfl rfl)) rfl ?_
     refine gC rfl rfl (fun hC => fieldVA (TK rfl) rfl rfl (TK rfl) rfl rfl) rfl ?_
     refine gC rfl rfl (fun hC => ungdA (k := 33) rfl (loadV (TK rfl) rfl rfl rfl)) rfl ?_
     refine gC rfl rfl (fun hC => ungdA (k := 32) rfl (ungdA (k := 34) rfl (binS rfl rfl rfl))) rfl ?_
     refine s0 (pickAndA rfl rfl rfl) rfl ?_
     refine nil ?_
     refine hK39 _ ?_
     clear hK39 K39
     refine condE hE rfl (fun hc40 hE => ?_) (fun hc40 hE => ?_)
     ·refine seqK fun K41 hK41 => ?_
      refine region ?_
      refine s0 moveA rfl ?_
      refine s0 (fieldVA (TK rfl) rfl rfl (TK rfl) rfl rfl) rfl ?_
      refine s0 (loadV (TK rfl) rfl rfl rfl) rfl ?_
      refine s0 (build Tryz.tab_ok rfl rfl rfl rfl rfl rfl) rfl ?_
      refine s0 (buildSlice (TK rfl) rfl (TK rfl) rfl rfl rfl rfl rfl rfl) rfl ?_
      obtain ⟨x42, gx42, hE⟩ := bindO_some hE
      refine sH (appM (f := TFault.c) (TK rfl) rfl (TK rfl) (TK rfl) ⟨_, rfl⟩ rfl rfl (by decide) rfl rfl rfl rfl hpG rfl gx42) rfl ?_
      refine AOps.heq (h' := (H.set tk1 (some (.tok 2 x42.l.length)))) (by first | rfl | (rw [Heap.set_set]; rfl) | (funext n_; simp only [Heap.set]; (repeat' split) <;> first | rfl | (exfalso; simp_all; done) | (simp_all; done))) ?_
      refine s0 assignA rfl ?_
      refine nil ?_
      refine hK41 _ ?_
      clear hK41 K41
      refine AWp.exit ?_
      exact hK5 _ x42 Weak.toA hE
     refine AWp.skip ?_
     refine hK36 _ ?_
     clear hK36 K36
     refine region ?_
     refine s0 (addIA rfl rfl) rfl ?_
     refine s0 moveA rfl ?_
     refine nil ?_
     exact hK30 _ (n30, s7_31, (s23_32 + 1)) Weak.toA hE (Nat.lt_succ_self _)
    refine AWp.exit ?_
    exact hK5 _ s7_31 Weak.toA hE
 rintro s7_6 hE
 try dsimp only at hE
 unfold Z39_j5 at hE
 refine seqJH (KeepsT.A (k := 3) (KeepsT.A (k := 8) KeepsT.nil)) (fun (z : (Sl TFault)) => [(7, .a (.d (Sl.d 2 TFault.c (some tk1) z)))]) (fun z => (H.set tk1 (some (.tok 2 z.l.length)))) (fun z => Z39_j7 a0 x4 z = some r) ?_ ?_
 ·intro K7 hK7
  refine seqK fun K24 hK24 => ?_
  refine region ?_
  refine s0 (fieldVA (TK rfl) rfl rfl (TK rfl) rfl rfl) rfl ?_
  refine s0 (loadV (TK rfl) rfl rfl rfl) rfl ?_
  refine s0 (binS rfl rfl rfl) rfl ?_
  refine s0 moveA rfl ?_
  refine gC rfl rfl (fun hC => fieldVA (TK rfl) rfl rfl (TK rfl) rfl rfl) rfl ?_
  refine gC rfl rfl (fun hC => ungdA (k := 48) rfl (loadV (TK rfl) rfl rfl rfl)) rfl ?_
  refine gC rfl rfl (fun hC => ungdA (k := 49) rfl (lenM' (f := TOp.c) (s := a1.FOps) (TK rfl) rfl rfl rfl)) rfl ?_
  refine gC rfl rfl (fun hC => ungdA (k := 50) rfl (binI rfl rfl rfl)) rfl ?_
  refine s0 (pickAndA rfl rfl rfl) rfl ?_
  refine nil ?_
  refine hK24 _ ?_
  clear hK24 K24
  refine condE hE rfl (fun hc25 hE => ?_) (fun hc25 hE => ?_)
  ·refine region ?_
   refine s0 moveA rfl ?_
   refine s0 (build Tryz.tab_ok rfl rfl rfl rfl rfl rfl) rfl ?_
   refine s0 (buildSlice (TK rfl) rfl (TK rfl) rfl rfl rfl rfl rfl rfl) rfl ?_
   obtain ⟨x26, gx26, hE⟩ := bindO_some hE
   refine sH (appM (f := TFault.c) (TK rfl) rfl (TK rfl) (TK rfl) ⟨_, rfl⟩ rfl rfl (by decide) rfl rfl rfl rfl hpG rfl gx26) rfl ?_
   refine AOps.heq (h' := (H.set tk1 (some (.tok 2 x26.l.length)))) (by first | rfl | (rw [Heap.set_set]; rfl) | (funext n_; simp only [Heap.set]; (repeat' split) <;> first | rfl | (exfalso; simp_all; done) | (simp_all; done))) ?_
   refine s0 assignA rfl ?_
   refine nil ?_
   exact hK7 _ x26 Weak.toA hE
  refine AWp.skip ?_
  exact hK7 _ s7_6 Weak.toA hE
 rintro s7_8 hE
 try dsimp only at hE
 unfold Z39_j7 at hE
 refine seqJH (KeepsT.A (k := 8) KeepsT.nil) (fun (z : (Sl TFault)) => [(7, .a (.d (Sl.d 2 TFault.c (some tk1) z)))]) (fun z => (H.set tk1 (some (.tok 2 z.l.length)))) (fun z => Z39_j9 x4 z = some r) ?_ ?_
 ·intro K9 hK9
  refine seqK fun K18 hK18 => ?_
  refine AWp.draw rfl ?_
  refine DOps.s0 (loadV (TK rfl) rfl rfl rfl) rfl ?_
  refine DOps.s0 (fieldVA (TK rfl) rfl rfl (TK rfl) rfl rfl) rfl ?_
  refine DOps.s0 (loadV (TK rfl) rfl rfl rfl) rfl ?_
  obtain ⟨x19, gx19, hE⟩ := bindO_some hE
  refine DOps.s0 (callP rfl rfl (fun H => Z18_walk gx19 H)) rfl ?_
  obtain ⟨x20, gx20, hE⟩ := bindO_some hE
  refine DOps.s0 (callP rfl rfl (fun H => Z15_walk gx20 H)) rfl ?_
  refine DOps.s0 moveA rfl ?_
  refine DOps.s0 (extract rfl rfl) rfl ?_
  refine DOps.s0 (extract rfl rfl) rfl ?_
  refine DOps.sL (allocLA (TK rfl) rfl) rfl ?_
  refine DOps.sLn (storeLFA (TK rfl) rfl rfl rfl rfl rfl) ?_
  refine DOps.s0 assignA rfl ?_
  refine DOps.nil (by decide +kernel) ?_
  refine hK18 _ ?_
  clear hK18 K18
  refine freezeA 11 _ rfl (Keeps.c (k := 7) (by conv => lhs; whnf) (by rfl) (Keeps.c (k := 8) (by conv => lhs; whnf) (by rfl) (Keeps.c (k := 12) (by conv => lhs; whnf) (by rfl) Keeps.nil))) ?_
  refine seqK fun K21 hK21 => ?_
  refine region ?_
  refine s0 moveA rfl ?_
  refine s0 (notB rfl) rfl ?_
  refine nil ?_
  refine hK21 _ ?_
  clear hK21 K21
  refine condE hE rfl (fun hc22 hE => ?_) (fun hc22 hE => ?_)
  ·refine region ?_
   refine s0 moveA rfl ?_
   refine s0 (fieldVA (TK rfl) rfl rfl (TK rfl) rfl rfl) rfl ?_
   refine s0 (loadV (TK rfl) rfl rfl rfl) rfl ?_
   refine s0 (build Tryz.tab_ok rfl rfl rfl rfl rfl rfl) rfl ?_
   refine s0 (buildSlice (TK rfl) rfl (TK rfl) rfl rfl rfl rfl rfl rfl) rfl ?_
   obtain ⟨x23, gx23, hE⟩ := bindO_some hE
   refine sH (appM (f := TFault.c) (TK rfl) rfl (TK rfl) (TK rfl) ⟨_, rfl⟩ rfl rfl (by decide) rfl rfl rfl rfl hpG rfl gx23) rfl ?_
   refine AOps.heq (h' := (H.set tk1 (some (.tok 2 x23.l.length)))) (by first | rfl | (rw [Heap.set_set]; rfl) | (funext n_; simp only [Heap.set]; (repeat' split) <;> first | rfl | (exfalso; simp_all; done) | (simp_all; done))) ?_
   refine s0 assignA rfl ?_
   refine nil ?_
   exact hK9 _ x23 Weak.toA hE
  refine AWp.skip ?_
  exact hK9 _ s7_8 Weak.toA hE
 rintro s7_10 hE
 try dsimp only at hE
 unfold Z39_j9 at hE
 refine seqJH KeepsT.nil (fun (z : (Sl TFault)) => [(7, .a (.d (Sl.d 2 TFault.c (some tk1) z)))]) (fun z => (H.set tk1 (some (.tok 2 z.l.length)))) (fun z => Z39_j11 z = some r) ?_ ?_
 ·intro K11 hK11
  refine seqK fun K14 hK14 => ?_
  refine region ?_
  refine s0 (fieldVA (TK rfl) rfl rfl (TK rfl) rfl rfl) rfl ?_
  refine s0 (loadV (TK rfl) rfl rfl rfl) rfl ?_
  refine s0 (binI rfl rfl rfl) rfl ?_
  refine s0 moveA rfl ?_
  refine gC rfl rfl (fun hC => fieldVA (TK rfl) rfl rfl (TK rfl) rfl rfl) rfl ?_
  refine gC rfl rfl (fun hC => ungdA (k := 77) rfl (loadV (TK rfl) rfl rfl rfl)) rfl ?_
  obtain ⟨x15, gx15, hE⟩ := guardO_some hE
  refine gC rfl rfl (fun hC => ungdA (k := 78) rfl (callP rfl rfl (fun H => Z41_walk (gx15 hC) H))) rfl ?_
  refine gC rfl rfl (fun hC => ungdA (k := 79) rfl (notB rfl)) rfl ?_
  refine s0 (pickAndA rfl rfl rfl) rfl ?_
  refine nil ?_
  refine hK14 _ ?_
  clear hK14 K14
  refine condE hE rfl (fun hc16 hE => ?_) (fun hc16 hE => ?_)
  ·refine region ?_
   refine s0 moveA rfl ?_
   refine s0 (fieldVA (TK rfl) rfl rfl (TK rfl) rfl rfl) rfl ?_
   refine s0 (loadV (TK rfl) rfl rfl rfl) rfl ?_
   refine s0 (build Tryz.tab_ok rfl rfl rfl rfl rfl rfl) rfl ?_
   refine s0 (buildSlice (TK rfl) rfl (TK rfl) rfl rfl rfl rfl rfl rfl) rfl ?_
   obtain ⟨x17, gx17, hE⟩ := bindO_some hE
   refine sH (appM (f := TFault.c) (TK rfl) rfl (TK rfl) (TK rfl) ⟨_, rfl⟩ rfl rfl (by decide) rfl rfl rfl rfl hpG rfl gx17) rfl ?_
   refine AOps.heq (h' := (H.set tk1 (some (.tok 2 x17.l.length)))) (by first | rfl | (rw [Heap.set_set]; rfl) | (funext n_; simp only [Heap.set]; (repeat' split) <;> first | rfl | (exfalso; simp_all; done) | (simp_all; done))) ?_
   refine s0 assignA rfl ?_
   refine nil ?_
   exact hK11 _ x17 Weak.toA hE
  refine AWp.skip ?_
  exact hK11 _ s7_10 Weak.toA hE
 rintro s7_12 hE
 try dsimp only at hE
 unfold Z39_j11 at hE
 refine seqK fun K13 hK13 => ?_
 refine region ?_
 refine s0 moveA rfl ?_
 refine s0 assignA rfl ?_
 refine nil ?_
 refine hK13 _ ?_
 clear hK13 K13
 refine AWp.dropTok 6 rfl ?_
 refine AWp.ret ?_
 repeat (first | refine xBlock_ret ?_ | refine xThen_ret ?_)
 obtain rfl := Option.some.inj hE
 refine retQ.retF H rfl ⟨rfl, rfl⟩ ?_
 first | exact Heap.sub_set htk1 | (simp only [Heap.set_set]; exact Heap.sub_set htk1)
def Z40_j5  (s5_6 : (Sl TFault)) : Option (Sl TFault) := some s5_6
def Z40_j16 (s27_12 : Nat) (k_next_10 : (Sl TFault) → Nat → Option (Sl TFault)) (s5_17 : (Sl TFault)) : Option (Sl TFault) := k_next_10 s5_17 (s27_12 + 1)
def Z40_l23 (s27_12 : Nat) (x19 : TFrag) (x21 : (Sl TFrag)) (k_next_10 : (Sl TFault) → Nat → Option (Sl TFault)) : Nat → (Sl TFault) → Nat → Option (Sl TFault)
 | 0, _, _ => none
 | n23 + 1, s5_24, s37_25 => bif (decide (((s37_25 : Nat) : Int) < ((x21.l.length : Nat) : Int))) then ((x21.l[s37_25]?).bind fun x31 => bif ((x31.FName == x19.FName)) then ((appC 24 s5_24 (⟨false, [(TFault.mk (7 : Int) x19.FName)]⟩ : Sl TFault)).bind fun x35 => Z40_j16 s27_12 k_next_10 x35) else ((Z40_l23 s27_12 x19 x21 k_next_10 n23) s5_24 (s37_25 + 1))) else (Z40_j16 s27_12 k_next_10 s5_24)
def Z40_l10 (a1 : TQuery)  : Nat → (Sl TFault) → Nat → Option (Sl TFault)
 | 0, _, _ => none
 | n10 + 1, s5_11, s27_12 => bif (decide (((s27_12 : Nat) : Int) < ((a1.FFrags.l.length : Nat) : Int))) then ((a1.FFrags.l[s27_12]?).bind fun x19 => (partC a1.FFrags none (some ((s27_12 : Nat) : Int))).bind fun x21 => Z40_l23 s27_12 x19 x21 ((Z40_l10 a1 n10)) (x21.l.length + 1) s5_11 0) else (Z40_j5   s5_11)
def Z40_j3 (a1 : TQuery)  (s5_4 : (Sl TFault)) : Option (Sl TFault) := Z40_l10 a1 (a1.FFrags.l.length + 1) s5_4 0
def Z40_l38 (a0 : TDoc) (a1 : TQuery)  : Nat → (Sl TFault) → Nat → Option (Sl TFault)
 | 0, _, _ => none
 | n38 + 1, s5_39, s14_40 => bif (decide (((s14_40 : Nat) : Int) < ((a1.FOps.l.length : Nat) : Int))) then ((Z39 a0 a1 ((s14_40 : Nat) : Int)).bind fun x46 => (appC 24 s5_39 x46).bind fun x47 => (Z40_l38 a0 a1 n38) x47 (s14_40 + 1)) else (Z40_j3 a1  s5_39)
def Z40 (a0 : TDoc) (a1 : TQuery) : Option (Sl TFault) := Z40_l38 a0 a1 (a1.FOps.l.length + 1) (Sl.nil : Sl TFault) 0
theorem Z40_walk {a0 : TDoc} {a1 : TQuery}   {r : (Sl TFault)} (hE : Z40 a0 a1 = some r) (H : Heap)  : ACalls Tryz.prog 28 [.agg (TDoc.c a0), .agg (TQuery.c a1)] H fun v h' => v = .a (.d (Sl.d 2 TFault.c none r)) ∧ h' = H := by
 unfold Z40 at hE
 refine ACalls.of_wp (fn := Tryz.f28) (c := _) Tryz.tab_ok (fun _ _ => Tryz.call28 _ _) Tryz.func28 rfl (n := 55) rfl (rs := [.tmp 4]) rfl rfl ?_
 refine AWp.tok 2 fun tk1 htk1 => ?_
 refine seqK fun K1 hK1 => ?_
 refine region ?_
 refine s0 (boxV rfl) rfl ?_
 refine s0 (boxV rfl) rfl ?_
 refine s0 (assignNil (k' := 2) rfl) rfl ?_
 refine nil ?_
 refine hK1 _ ?_
 clear hK1 K1
 refine seqK fun K2 hK2 => ?_
 refine region ?_
 refine s0 assignA rfl ?_
 refine nil ?_
 refine hK2 _ ?_
 clear hK2 K2
 refine AWp.nilTok 5 2 tk1 rfl hpG ?_
 refine seqJH (KeepsT.A (k := 3) KeepsT.nil) (fun (z : (Sl TFault)) => [(5, .a (.d (Sl.d 2 TFault.c (some tk1) z)))]) (fun z => (H.set tk1 (some (.tok 2 z.l.length)))) (fun z => Z40_j3 a1 z = some r) ?_ ?_
 ·intro K3 hK3
  refine seqK fun K36 hK36 => ?_
  refine region ?_
  refine s0 (fieldVA (TK rfl) rfl rfl (TK rfl) rfl rfl) rfl ?_
  refine s0 (loadV (TK rfl) rfl rfl rfl) rfl ?_
  refine sLen (f := TOp.c) (s := a1.FOps) (TK rfl) rfl rfl rfl rfl fun hL37 => ?_
  refine s0 moveA rfl ?_
  refine nil ?_
  refine hK36 _ ?_
  clear hK36 K36
  refine block ?_
  refine loopH (KeepsT.A (k := 2) (KeepsT.A (k := 3) (KeepsT.A (k := 13) KeepsT.nil))) (fun (z : Nat × (Sl TFault) × Nat) => [(5, .a (.d (Sl.d 2 TFault.c (some tk1) z.2.1))), (14, .a (.d (.int .i64 ((z.2.2 : Nat) : Int))))]) (fun z => (H.set tk1 (some (.tok 2 z.2.1.l.length)))) (fun z => z.1) (fun z => Z40_l38 a0 a1 z.1 z.2.1 z.2.2 = some r) ((a1.FOps.l.length + 1), (Sl.nil : Sl TFault), 0) hE Weak.toA ?_
  rintro ⟨n38, s5_39, s14_40⟩ hE K38 hK38
  try dsimp only at hE
  cases n38 with
  | zero => cases hE
  | succ n38 =>
    rw [Z40_l38] at hE
    refine seqK fun K41 hK41 => ?_
    refine region ?_
    refine s0 (binI rfl rfl rfl) rfl ?_
    refine nil ?_
    refine hK41 _ ?_
    clear hK41 K41
    refine seqK fun K42 hK42 => ?_
    refine condE hE rfl (fun hc43 hE => ?_) (fun hc43 hE => ?_)
    ·try dsimp only at hc43
     have hf43 := of_decide_eq_true hc43
     refine AWp.skip ?_
     refine hK42 _ ?_
     clear hK42 K42
     refine seqK fun K44 hK44 => ?_
     refine block ?_
     refine seqK fun K45 hK45 => ?_
     refine region ?_
     refine s0 moveA rfl ?_
     refine s0 assignA rfl ?_
     refine nil ?_
     refine hK45 _ ?_
     clear hK45 K45
     refine region ?_
     refine s0 moveA rfl ?_
     refine s0 (loadV (TK rfl) rfl rfl rfl) rfl ?_
     refine s0 (loadV (TK rfl) rfl rfl rfl) rfl ?_
     refine s0 moveA rfl ?_
     obtain ⟨x46, gx46, hE⟩ := bindO_some hE
     refine s0 (callP rfl rfl (fun H => Z39_walk gx46 H)) rfl ?_
     obtain ⟨x47, gx47, hE⟩ := bindO_some hE
     refine sH (appM (f := TFault.c) (TK rfl) rfl (TK rfl) (TK rfl) ⟨_, rfl⟩ rfl rfl (by decide) rfl rfl rfl rfl hpG rfl gx47) rfl ?_
     refine AOps.heq (h' := (H.set tk1 (some (.tok 2 x47.l.length)))) (by first | rfl | (rw [Heap.set_set]; rfl) | (funext n_; simp only [Heap.set]; (repeat' split) <;> first | rfl | (exfalso; simp_all; done) | (simp_all; done))) ?_
     refine s0 assignA rfl ?_
     refine nil ?_
     refine hK44 _ ?_
     clear hK44 K44
     refine region ?_
     refine s0 (addIA rfl rfl) rfl ?_
     refine s0 moveA rfl ?_
     refine nil ?_
     exact hK38 _ (n38, x47, (s14_40 + 1)) Weak.toA hE (Nat.lt_succ_self _)
    refine AWp.exit ?_
    exact hK3 _ s5_39 Weak.toA hE
 rintro s5_4 hE
 try dsimp only at hE
 unfold Z40_j3 at hE
 refine seqJH KeepsT.nil (fun (z : (Sl TFault)) => [(5, .a (.d (Sl.d 2 TFault.c (some tk1) z)))]) (fun z => (H.set tk1 (some (.tok 2 z.l.length)))) (fun z => Z40_j5 z = some r) ?_ ?_
 ·intro K5 hK5
  refine seqK fun K8 hK8 => ?_
  refine region ?_
  refine s0 (fieldVA (TK rfl) rfl rfl (TK rfl) rfl rfl) rfl ?_
  refine s0 (loadV (TK rfl) rfl rfl rfl) rfl ?_
  refine sLen (f := TFrag.c) (s := a1.FFrags) (TK rfl) rfl rfl rfl rfl fun hL9 => ?_
  refine s0 moveA rfl ?_
  refine nil ?_
  refine hK8 _ ?_
  clear hK8 K8
  refine block ?_
  refine loopH (KeepsT.A (k := 3) (KeepsT.A (k := 25) (KeepsT.A (k := 26) KeepsT.nil))) (fun (z : Nat × (Sl TFault) × Nat) => [(5, .a (.d (Sl.d 2 TFault.c (some tk1) z.2.1))), (27, .a (.d (.int .i64 ((z.2.2 : Nat) : Int))))]) (fun z => (H.set tk1 (some (.tok 2 z.2.1.l.length)))) (fun z => z.1) (fun z => Z40_l10 a1 z.1 z.2.1 z.2.2 = some r) ((a1.FFrags.l.length + 1), s5_4, 0) hE Weak.toA ?_
  rintro ⟨n10, s5_11, s27_12⟩ hE K10 hK10
  try dsimp only at hE
  cases n10 with
  | zero => cases hE
  | succ n10 =>
    rw [Z40_l10] at hE
    refine seqK fun K13 hK13 => ?_
    refine region ?_
    refine s0 (binI rfl rfl rfl) rfl ?_
    refine nil ?_
    refine hK13 _ ?_
    clear hK13 K13
    refine seqK fun K14 hK14 => ?_
    refine condE hE rfl (fun hc15 hE => ?_) (fun hc15 hE => ?_)
    ·try dsimp only at hc15
     have hf15 := of_decide_eq_true hc15
     refine AWp.skip ?_
     refine hK14 _ ?_
     clear hK14 K14
     refine seqJH (KeepsT.A (k := 3) (KeepsT.A (k := 25) (KeepsT.A (k := 26) (KeepsT.A (k := 27) KeepsT.nil)))) (fun (z : (Sl TFault)) => [(5, .a (.d (Sl.d 2 TFault.c (some tk1) z)))]) (fun z => (H.set tk1 (some (.tok 2 z.l.length)))) (fun z => Z40_j16 s27_12 ((Z40_l10 a1 n10)) z = some r) ?_ ?_
     ·intro K16 hK16
      refine block ?_
      refine seqK fun K18 hK18 => ?_
      refine region ?_
      refine s0 moveA rfl ?_
      obtain ⟨x19, gx19, hE⟩ := bindO_some hE
      refine s0 (idxMn (f := TFrag.c) (n := s27_12) (TK rfl) rfl (TK rfl) rfl rfl rfl gx19) rfl ?_
      refine s0 (loadV (TK rfl) rfl rfl rfl) rfl ?_
      refine sL (allocLA (TK rfl) rfl) rfl ?_
      refine s0 assignA rfl ?_
      refine sLn (storeLFA (TK rfl) rfl rfl rfl rfl rfl) ?_
      refine nil ?_
      refine hK18 _ ?_
      clear hK18 K18
      refine freezeA 8 _ rfl (Keeps.c (k := 3) (by conv => lhs; whnf) (by rfl) (Keeps.c (k := 5) (by conv => lhs; whnf) (by rfl) (Keeps.c (k := 7) (by conv => lhs; whnf) (by rfl) (Keeps.c (k := 25) (by conv => lhs; whnf) (by rfl) (Keeps.c (k := 26) (by conv => lhs; whnf) (by rfl) (Keeps.c (k := 27) (by conv => lhs; whnf) (by rfl) Keeps.nil)))))) ?_
      refine seqK fun K20 hK20 => ?_
      refine region ?_
      refine s0 (fieldVA (TK rfl) rfl rfl (TK rfl) rfl rfl) rfl ?_
      refine s0 (loadV (TK rfl) rfl rfl rfl) rfl ?_
      refine s0 moveA rfl ?_
      obtain ⟨x21, gx21, hE⟩ := bindO_some hE
      refine s0 (partM (f := TFrag.c) (l := none) (r := (some ((s27_12 : Nat) : Int))) (TK rfl) rfl (TK rfl) rfl rfl trivial rfl gx21) rfl ?_
      refine sLen (f := TFrag.c) (s := x21) (TK rfl) rfl rfl rfl rfl fun hL22 => ?_
      refine s0 moveA rfl ?_
      refine nil ?_
      refine hK20 _ ?_
      clear hK20 K20
      refine block ?_
      refine loopH (KeepsT.A (k := 3) (KeepsT.A (k := 8) (KeepsT.A (k := 25) (KeepsT.A (k := 26) (KeepsT.A (k := 27) (KeepsT.A (k := 35) (KeepsT.A (k := 36) KeepsT.nil))))))) (fun (z : Nat × (Sl TFault) × Nat) => [(5, .a (.d (Sl.d 2 TFault.c (some tk1) z.2.1))), (37, .a (.d (.int .i64 ((z.2.2 : Nat) : Int))))]) (fun z => (H.set tk1 (some (.tok 2 z.2.1.l.length)))) (fun z => z.1) (fun z => Z40_l23 s27_12 x19 x21 ((Z40_l10 a1 n10)) z.1 z.2.1 z.2.2 = some r) ((x21.l.length + 1), s5_11, 0) hE Weak.toA ?_
      rintro ⟨n23, s5_24, s37_25⟩ hE K23 hK23
      try dsimp only at hE
      cases n23 with
      | zero => cases hE
      | succ n23 =>
        rw [Z40_l23] at hE
        refine seqK fun K26 hK26 => ?_
        refine region ?_
        refine s0 (binI rfl rfl rfl) rfl ?_
        refine nil ?_
        refine hK26 _ ?_
        clear hK26 K26
        refine seqK fun K27 hK27 => ?_
        refine condE hE rfl (fun hc28 hE => ?_) (fun hc28 hE => ?_)
        ·try dsimp only at hc28
         have hf28 := of_decide_eq_true hc28
         refine AWp.skip ?_
         refine hK27 _ ?_
         clear hK27 K27
         refine seqK fun K29 hK29 => ?_
         refine block ?_
         refine seqK fun K30 hK30 => ?_
         refine region ?_
         obtain ⟨x31, gx31, hE⟩ := bindO_some hE
         refine s0 (idxMn (f := TFrag.c) (n := s37_25) (TK rfl) rfl (TK rfl) rfl rfl rfl gx31) rfl ?_
         refine s0 (loadV (TK rfl) rfl rfl rfl) rfl ?_
         refine sL (allocLA (TK rfl) rfl) rfl ?_
         refine sLn (storeLFA (TK rfl) rfl rfl rfl rfl rfl) ?_
         refine nil ?_
         refine hK30 _ ?_
         clear hK30 K30
         refine freezeA 10 _ rfl (Keeps.c (k := 3) (by conv => lhs; whnf) (by rfl) (Keeps.c (k := 5) (by conv => lhs; whnf) (by rfl) (Keeps.c (k := 8) (by conv => lhs; whnf) (by rfl) (Keeps.c (k := 25) (by conv => lhs; whnf) (by rfl) (Keeps.c (k := 26) (by conv => lhs; whnf) (by rfl) (Keeps.c (k := 27) (by conv => lhs; whnf) (by rfl) (Keeps.c (k := 35) (by conv => lhs; whnf) (by rfl) (Keeps.c (k := 36) (by conv => lhs; whnf) (by rfl) (Keeps.c (k := 37) (by conv => lhs; whnf) (by rfl) Keeps.nil))))))))) ?_
         refine seqK fun K32 hK32 => ?_
         refine region ?_
         refine s0 (fieldVA (TK rfl) rfl rfl (TK rfl) rfl rfl) rfl ?_
         refine s0 (loadV (TK rfl) rfl rfl rfl) rfl ?_
         refine s0 (fieldVA (TK rfl) rfl rfl (TK rfl) rfl rfl) rfl ?_
         refine s0 (loadV (TK rfl) rfl rfl rfl) rfl ?_
         refine s0 (binS rfl rfl rfl) rfl ?_
         refine nil ?_
         refine hK32 _ ?_
         clear hK32 K32
         refine condE hE rfl (fun hc33 hE => ?_) (fun hc33 hE => ?_)
         ·refine seqK fun K34 hK34 => ?_
          refine region ?_
          refine s0 moveA rfl ?_
          refine s0 (fieldVA (TK rfl) rfl rfl (TK rfl) rfl rfl) rfl ?_
          refine s0 (loadV (TK rfl) rfl rfl rfl) rfl ?_
          refine s0 (build Tryz.tab_ok rfl rfl rfl rfl rfl rfl) rfl ?_
          refine s0 (buildSlice (TK rfl) rfl (TK rfl) rfl rfl rfl rfl rfl rfl) rfl ?_
          obtain ⟨x35, gx35, hE⟩ := bindO_some hE
          refine sH (appM (f := TFault.c) (TK rfl) rfl (TK rfl) (TK rfl) ⟨_, rfl⟩ rfl rfl (by decide) rfl rfl rfl rfl hpG rfl gx35) rfl ?_
          refine AOps.heq (h' := (H.set tk1 (some (.tok 2 x35.l.length)))) (by first | rfl | (rw [Heap.set_set]; rfl) | (funext n_; simp only [Heap.set]; (repeat' split) <;> first | rfl | (exfalso; simp_all; done) | (simp_all; done))) ?_
          refine s0 assignA rfl ?_
          refine nil ?_
          refine hK34 _ ?_
          clear hK34 K34
          refine AWp.exit ?_
          exact hK16 _ x35 Weak.toA hE
         refine AWp.skip ?_
         refine hK29 _ ?_
         clear hK29 K29
         refine region ?_
         refine s0 (addIA rfl rfl) rfl ?_
         refine s0 moveA rfl ?_
         refine nil ?_
         exact hK23 _ (n23, s5_24, (s37_25 + 1)) Weak.toA hE (Nat.lt_succ_self _)
        refine AWp.exit ?_
        exact hK16 _ s5_24 Weak.toA hE
     rintro s5_17 hE
     try dsimp only at hE
     unfold Z40_j16 at hE
     refine region ?_
     refine s0 (addIA rfl rfl) rfl ?_
     refine s0 moveA rfl ?_
     refine nil ?_
     exact hK10 _ (n10, s5_17, (s27_12 + 1)) Weak.toA hE (Nat.lt_succ_self _)
    refine AWp.exit ?_
    exact hK5 _ s5_11 Weak.toA hE
 rintro s5_6 hE
 try dsimp only at hE
 unfold Z40_j5 at hE
 refine seqK fun K7 hK7 => ?_
 refine region ?_
 refine s0 moveA rfl ?_
 refine s0 assignA rfl ?_
 refine nil ?_
 refine hK7 _ ?_
 clear hK7 K7
 refine AWp.dropTok 4 rfl ?_
 refine AWp.ret ?_
 repeat (first | refine xBlock_ret ?_ | refine xThen_ret ?_)
 obtain rfl := Option.some.inj hE
 refine retQ.retF H rfl ⟨rfl, rfl⟩ ?_
 first | exact Heap.sub_set htk1 | (simp only [Heap.set_set]; exact Heap.sub_set htk1)
def Z8 (a0 : TDoc) (a1 : TQuery) : Option (Sl TFault) := none
theorem Z8_walk {a0 : TDoc} {a1 : TQuery}   {r : (Sl TFault)} (hE : Z8 a0 a1 = some r) (H : Heap)  : ACalls Tryz.prog 29 [.agg (TDoc.c a0), .agg (TQuery.c a1)] H fun v h' => v = .a (.d (Sl.d 2 TFault.c none r)) ∧ h' = H := by cases hE
def Z7 (a0 : TDoc) (a1 : TQuery) : Option (Sl TFault) := none
theorem Z7_tok {a0 : TDoc} {a1 : TQuery}   {r : (Sl TFault)} (hE : Z7 a0 a1 = some r) (H : Heap) {tk0 : Nat} (htk0 : H tk0 = some (.tok 2 0)) : ACalls Tryz.prog 30 [.agg (TDoc.c a0), .agg (TQuery.c a1)] H fun v h' => v = .a (.d (Sl.d 2 TFault.c (some tk0) r)) ∧ h' = H.set tk0 (some (.tok 2 r.l.length)) := by cases hE
def Z12 (a0 : TDoc) (a1 : TQuery) : Option (Sl TFault) := none
theorem Z12_walk {a0 : TDoc} {a1 : TQuery}   {r : (Sl TFault)} (hE : Z12 a0 a1 = some r) (H : Heap)  : ACalls Tryz.prog 31 [.agg (TDoc.c a0), .agg (TQuery.c a1)] H fun v h' => v = .a (.d (Sl.d 2 TFault.c none r)) ∧ h' = H := by cases hE
def Z42 (a0 : TDoc) (a1 : TQuery) : Option (Sl TFault) := none
theorem Z42_walk {a0 : TDoc} {a1 : TQuery}   {r : (Sl TFault)} (hE : Z42 a0 a1 = some r) (H : Heap)  : ACalls Tryz.prog 32 [.agg (TDoc.c a0), .agg (TQuery.c a1)] H fun v h' => v = .a (.d (Sl.d 2 TFault.c none r)) ∧ h' = H := by cases hE
def Z36 (a0 : TDoc) (a1 : TQuery) : Option (Sl TFault) := (Z40 a0 a1).bind fun x4 => bif (decide ((0 : Int) < ((x4.l.length : Nat) : Int))) then (some x4) else ((Z8 a0 a1).bind fun x11 => bif (decide ((0 : Int) < ((x11.l.length : Nat) : Int))) then (some x11) else ((Z7 a0 a1).bind fun x17 => (Z12 a0 a1).bind fun x19 => (appC 24 x17 x19).bind fun x20 => (Z42 a0 a1).bind fun x22 => (appC 24 x20 x22).bind fun x23 => some x23))
theorem Z36_walk {a0 : TDoc} {a1 : TQuery}   {r : (Sl TFault)} (hE : Z36 a0 a1 = some r) (H : Heap)  : ACalls Tryz.prog 18 [.agg (TDoc.c a0), .agg (TQuery.c a1)] H fun v h' => v = .a (.d (Sl.d 2 TFault.c none r)) ∧ h' = H := by
 unfold Z36 at hE
 refine ACalls.of_wp (fn := Tryz.f18) (c := _) Tryz.tab_ok (fun _ _ => Tryz.call18 _ _) Tryz.func18 rfl (n := 35) rfl (rs := [.tmp 4]) rfl rfl ?_
 refine seqK fun K1 hK1 => ?_
 refine region ?_
 refine s0 (boxV rfl) rfl ?_
 refine s0 (boxV rfl) rfl ?_
 refine s0 (assignNil (k' := 2) rfl) rfl ?_
 refine nil ?_
 refine hK1 _ ?_
 clear hK1 K1
 refine seqK fun K2 hK2 => ?_
 refine seqK fun K3 hK3 => ?_
 refine region ?_
 refine s0 (loadV (TK rfl) rfl rfl rfl) rfl ?_
 refine s0 (loadV (TK rfl) rfl rfl rfl) rfl ?_
 obtain ⟨x4, gx4, hE⟩ := bindO_some hE
 refine s0 (callP rfl rfl (fun H => Z40_walk gx4 H)) rfl ?_
 refine s0 assignA rfl ?_
 refine nil ?_
 refine hK3 _ ?_
 clear hK3 K3
 refine seqK fun K5 hK5 => ?_
 refine region ?_
 refine s0 moveA rfl ?_
 refine sLen (f := TFault.c) (s := x4) (TK rfl) rfl rfl rfl rfl fun hL6 => ?_
 refine s0 (binI rfl rfl rfl) rfl ?_
 refine nil ?_
 refine hK5 _ ?_
 clear hK5 K5
 refine condE hE rfl (fun hc7 hE => ?_) (fun hc7 hE => ?_)
 ·refine seqK fun K8 hK8 => ?_
  refine region ?_
  refine s0 moveA rfl ?_
  refine s0 assignA rfl ?_
  refine nil ?_
  refine hK8 _ ?_
  clear hK8 K8
  refine AWp.ret ?_
  repeat (first | refine xBlock_ret ?_ | refine xThen_ret ?_)
  obtain rfl := Option.some.inj hE
  refine retQ.retF H rfl ⟨rfl, rfl⟩ ?_
  exact (fun _ _ h => h)
 refine AWp.skip ?_
 refine hK2 _ ?_
 clear hK2 K2
 refine seqK fun K9 hK9 => ?_
 refine seqK fun K10 hK10 => ?_
 refine region ?_
 refine s0 (loadV (TK rfl) rfl rfl rfl) rfl ?_
 refine s0 (loadV (TK rfl) rfl rfl rfl) rfl ?_
 obtain ⟨x11, gx11, hE⟩ := bindO_some hE
 refine s0 (callP rfl rfl (fun H => Z8_walk gx11 H)) rfl ?_
 refine s0 assignA rfl ?_
 refine nil ?_
 refine hK10 _ ?_
 clear hK10 K10
 refine seqK fun K12 hK12 => ?_
 refine region ?_
 refine s0 moveA rfl ?_
 refine sLen (f := TFault.c) (s := x11) (TK rfl) rfl rfl rfl rfl fun hL13 => ?_
 refine s0 (binI rfl rfl rfl) rfl ?_
 refine nil ?_
 refine hK12 _ ?_
 clear hK12 K12
 refine condE hE rfl (fun hc14 hE => ?_) (fun hc14 hE => ?_)
 ·refine seqK fun K15 hK15 => ?_
  refine region ?_
  refine s0 moveA rfl ?_
  refine s0 assignA rfl ?_
  refine nil ?_
  refine hK15 _ ?_
  clear hK15 K15
  refine AWp.ret ?_
  repeat (first | refine xBlock_ret ?_ | refine xThen_ret ?_)
  obtain rfl := Option.some.inj hE
  refine retQ.retF H rfl ⟨rfl, rfl⟩ ?_
  exact (fun _ _ h => h)
 refine AWp.skip ?_
 refine hK9 _ ?_
 clear hK9 K9
 refine seqK fun K16 hK16 => ?_
 refine AWp.tok 2 fun tk1 htk1 => ?_
 refine region ?_
 refine s0 (loadV (TK rfl) rfl rfl rfl) rfl ?_
 refine s0 (loadV (TK rfl) rfl rfl rfl) rfl ?_
 obtain ⟨x17, gx17, hE⟩ := bindO_some hE
 refine sH (callH rfl rfl (Z7_tok gx17 _ hpG)) rfl ?_
 refine AOps.heq (h' := (H.set tk1 (some (.tok 2 x17.l.length)))) (by first | rfl | (rw [Heap.set_set]; rfl) | (funext n_; simp only [Heap.set]; (repeat' split) <;> first | rfl | (exfalso; simp_all; done) | (simp_all; done))) ?_
 refine s0 assignA rfl ?_
 refine nil ?_
 refine hK16 _ ?_
 clear hK16 K16
 refine seqK fun K18 hK18 => ?_
 refine region ?_
 refine s0 moveA rfl ?_
 refine s0 (loadV (TK rfl) rfl rfl rfl) rfl ?_
 refine s0 (loadV (TK rfl) rfl rfl rfl) rfl ?_
 obtain ⟨x19, gx19, hE⟩ := bindO_some hE
 refine s0 (callP rfl rfl (fun H => Z12_walk gx19 H)) rfl ?_
 obtain ⟨x20, gx20, hE⟩ := bindO_some hE
 refine sH (appM (f := TFault.c) (TK rfl) rfl (TK rfl) (TK rfl) ⟨_, rfl⟩ rfl rfl (by decide) rfl rfl rfl rfl hpG rfl gx20) rfl ?_
 refine AOps.heq (h' := (H.set tk1 (some (.tok 2 x20.l.length)))) (by first | rfl | (rw [Heap.set_set]; rfl) | (funext n_; simp only [Heap.set]; (repeat' split) <;> first | rfl | (exfalso; simp_all; done) | (simp_all; done))) ?_
 refine s0 assignA rfl ?_
 refine nil ?_
 refine hK18 _ ?_
 clear hK18 K18
 refine seqK fun K21 hK21 => ?_
 refine region ?_
 refine s0 moveA rfl ?_
 refine s0 (loadV (TK rfl) rfl rfl rfl) rfl ?_
 refine s0 (loadV (TK rfl) rfl rfl rfl) rfl ?_
 obtain ⟨x22, gx22, hE⟩ := bindO_some hE
 refine s0 (callP rfl rfl (fun H => Z42_walk gx22 H)) rfl ?_
 obtain ⟨x23, gx23, hE⟩ := bindO_some hE
 refine sH (appM (f := TFault.c) (TK rfl) rfl (TK rfl) (TK rfl) ⟨_, rfl⟩ rfl rfl (by decide) rfl rfl rfl rfl hpG rfl gx23) rfl ?_
 refine AOps.heq (h' := (H.set tk1 (some (.tok 2 x23.l.length)))) (by first | rfl | (rw [Heap.set_set]; rfl) | (funext n_; simp only [Heap.set]; (repeat' split) <;> first | rfl | (exfalso; simp_all; done) | (simp_all; done))) ?_
 refine s0 assignA rfl ?_
 refine nil ?_
 refine hK21 _ ?_
 clear hK21 K21
 refine AWp.dropTok 4 rfl ?_
 refine AWp.ret ?_
 repeat (first | refine xBlock_ret ?_ | refine xThen_ret ?_)
 obtain rfl := Option.some.inj hE
 refine retQ.retF H rfl ⟨rfl, rfl⟩ ?_
 first | exact Heap.sub_set htk1 | (simp only [Heap.set_set]; exact Heap.sub_set htk1)
def Z20 (a0 : Schema_checker) (a1 : Bool) (a2 : Int) (a3 : Bs) : Option Schema_checker := bif a1 then ((appC 24 a0.Ffaults (⟨false, [(TFault.mk a2 a3)]⟩ : Sl TFault)).bind fun x3 => some (Schema_checker.mk a0.Fd x3)) else (some a0)
theorem Z20_walk {a0 : Schema_checker} {a1 : Bool} {a2 : Int} {a3 : Bs}  {c0 : Nat} {c0_1 : Nat} {r : Schema_checker} (hE : Z20 a0 a1 a2 a3 = some r) (H : Heap) (hc0 : H c0 = some (.cells (Schema_checker.cg (some c0_1) a0))) (ht0_1 : H c0_1 = some (.tok 2 a0.Ffaults.l.length)) : ACalls Tryz.prog 63 [.d (.ptr c0 0), .d (.bool a1), .d (.int .i64 a2), .d (.str a3)] H fun v h' => v = .tup [] ∧ h' = ((H.set c0_1 (some (.tok 2 r.Ffaults.l.length))).set c0 (some (.cells (Schema_checker.cg (some c0_1) r)))) := by
 unfold Z20 at hE
 refine ACalls.of_wp (fn := Tryz.f63) (c := _) Tryz.tab_ok (fun _ _ => Tryz.call63 _ _) Tryz.func63 rfl (n := 21) rfl (rs := []) rfl rfl ?_
 have ne_c0_c0_1 : c0 ≠ c0_1 := fun e_ => by subst e_; simp_all
 refine AWp.heqA (h' := ((H.set c0_1 (some (.tok 2 a0.Ffaults.l.length))).set c0 (some (.cells (Schema_checker.cg (some c0_1) a0))))) (by funext n_; simp only [Heap.set]; (repeat' split) <;> simp_all) ?_
 refine seqK fun K1 hK1 => ?_
 refine region ?_
 refine s0 moveA rfl ?_
 refine nil ?_
 refine hK1 _ ?_
 clear hK1 K1
 refine condE hE rfl (fun hc2 hE => ?_) (fun hc2 hE => ?_)
 ·refine region ?_
  refine s0 moveA rfl ?_
  refine s0 moveA rfl ?_
  refine s0 (nilP rfl) rfl ?_
  refine s0 (fieldP (TK rfl) rfl rfl (TK rfl) rfl rfl) rfl ?_
  refine s0 (loadP (TK rfl) rfl rfl hpG rfl) rfl ?_
  refine s0 moveA rfl ?_
  refine s0 moveA rfl ?_
  refine s0 (build Tryz.tab_ok rfl rfl rfl rfl rfl rfl) rfl ?_
  refine s0 (buildSlice (TK rfl) rfl (TK rfl) rfl rfl rfl rfl rfl rfl) rfl ?_
  obtain ⟨x3, gx3, hE⟩ := bindO_some hE
  refine sH (appM (f := TFault.c) (TK rfl) rfl (TK rfl) (TK rfl) ⟨_, rfl⟩ rfl rfl (by decide) rfl rfl rfl rfl hpG rfl gx3) rfl ?_
  refine AOps.heq (h' := ((H.set c0_1 (some (.tok 2 x3.l.length))).set c0 (some (.cells (Schema_checker.cg (some c0_1) a0))))) (by first | rfl | (rw [Heap.set_set]; rfl) | (funext n_; simp only [Heap.set]; (repeat' split) <;> first | rfl | (exfalso; simp_all; done) | (simp_all; done))) ?_
  refine s0 (nilP rfl) rfl ?_
  refine s0 (fieldP (TK rfl) rfl rfl (TK rfl) rfl rfl) rfl ?_
  refine sHn (storeP1 (TK rfl) rfl rfl hpG rfl (by repeat (first | exact SetAt.zero | apply SetAt.succ))) rfl rfl ?_
  refine AOps.heq (h' := ((H.set c0_1 (some (.tok 2 x3.l.length))).set c0 (some (.cells (Schema_checker.cg (some c0_1) (Schema_checker.mk a0.Fd x3)))))) (by first | rfl | (rw [Heap.set_set]; rfl) | (funext n_; simp only [Heap.set]; (repeat' split) <;> first | rfl | (exfalso; simp_all; done) | (simp_all; done))) ?_
  refine nil ?_
  repeat (first | refine xBlock_normal ?_ | refine xThen_exit ?_ | refine xBlock_exit ?_)
  obtain rfl := Option.some.inj hE
  refine retQ.normalF ((H.set c0_1 (some (.tok 2 x3.l.length))).set c0 (some (.cells (Schema_checker.cg (some c0_1) (Schema_checker.mk a0.Fd x3))))) (xs := []) rfl ⟨rfl, rfl⟩ ?_
  exact (fun _ _ h => h)
 refine AWp.skip ?_
 repeat (first | refine xBlock_normal ?_ | refine xThen_exit ?_ | refine xBlock_exit ?_)
 obtain rfl := Option.some.inj hE
 refine retQ.normalF ((H.set c0_1 (some (.tok 2 a0.Ffaults.l.length))).set c0 (some (.cells (Schema_checker.cg (some c0_1) a0)))) (xs := []) rfl ⟨rfl, rfl⟩ ?_
 exact (fun _ _ h => h)
def Z19 (a0 : Bs) : Option Bool := some (((((a0 == ([73, 110, 116] : Bs))) || ((a0 == ([83, 116, 114, 105, 110, 103] : Bs)))) || ((a0 == ([66, 111, 111, 108, 101, 97, 110] : Bs)))) || ((a0 == ([73, 68] : Bs))))
theorem Z19_walk {a0 : Bs}   {r : Bool} (hE : Z19 a0 = some r) (H : Heap)  : ACalls Tryz.prog 83 [.d (.str a0)] H fun v h' => v = .a (.d (.bool r)) ∧ h' = H := by
 unfold Z19 at hE
 refine ACalls.of_wp (fn := Tryz.f83) (c := _) Tryz.tab_ok (fun _ _ => Tryz.call83 _ _) Tryz.func83 rfl (n := 17) rfl (rs := [.tmp 2]) rfl rfl ?_
 refine seqK fun K1 hK1 => ?_
 refine region ?_
 refine s0 assignA rfl ?_
 refine nil ?_
 refine hK1 _ ?_
 clear hK1 K1
 refine seqK fun K2 hK2 => ?_
 refine region ?_
 refine s0 moveA rfl ?_
 refine s0 (binS rfl rfl rfl) rfl ?_
 refine s0 moveA rfl ?_
 refine gC rfl rfl (fun hC => moveA) rfl ?_
 refine gC rfl rfl (fun hC => ungdA (k := 6) rfl (binS rfl rfl rfl)) rfl ?_
 refine s0 (pickOrA rfl rfl rfl) rfl ?_
 refine s0 moveA rfl ?_
 refine gC rfl rfl (fun hC => moveA) rfl ?_
 refine gC rfl rfl (fun hC => ungdA (k := 10) rfl (binS rfl rfl rfl)) rfl ?_
 refine s0 (pickOrA rfl rfl rfl) rfl ?_
 refine s0 moveA rfl ?_
 refine gC rfl rfl (fun hC => moveA) rfl ?_
 refine gC rfl rfl (fun hC => ungdA (k := 14) rfl (binS rfl rfl rfl)) rfl ?_
 refine s0 (pickOrA rfl rfl rfl) rfl ?_
 refine s0 assignA rfl ?_
 refine nil ?_
 refine hK2 _ ?_
 clear hK2 K2
 refine AWp.ret ?_
 repeat (first | refine xBlock_ret ?_ | refine xThen_ret ?_)
 obtain rfl := Option.some.inj hE
 refine retQ.retF H rfl ⟨rfl, rfl⟩ ?_
 exact (fun _ _ h => h)
def Z34_j8   : Option Bool := some true
def Z34_l12 (a0 : Bs)  : Nat → Nat → Option Bool
 | 0, _ => none
 | n12 + 1, s24_13 => bif (decide (((s24_13 : Nat) : Int) < ((a0.length : Nat) : Int))) then ((a0[s24_13]?).bind fun x20 => bif (!(((((decide ((97 : Int) ≤ ((x20.toNat : Nat) : Int))) && (decide (((x20.toNat : Nat) : Int) ≤ (122 : Int)))) || ((decide ((65 : Int) ≤ ((x20.toNat : Nat) : Int))) && (decide (((x20.toNat : Nat) : Int) ≤ (90 : Int))))) || ((decide ((48 : Int) ≤ ((x20.toNat : Nat) : Int))) && (decide (((x20.toNat : Nat) : Int) ≤ (57 : Int))))) || (decide (((x20.toNat : Nat) : Int) = (95 : Int))))) then (some false) else ((Z34_l12 a0 n12) (s24_13 + 1))) else (Z34_j8   )
def Z34 (a0 : Bs) : Option Bool := guardO (!(((a0 == ([] : Bs))) || (decide ((64 : Int) < ((a0.length : Nat) : Int))))) (a0[0]?) (0 : UInt8) fun x4 => guardO ((!(((a0 == ([] : Bs))) || (decide ((64 : Int) < ((a0.length : Nat) : Int)))) && (decide ((48 : Int) ≤ ((x4.toNat : Nat) : Int))))) (a0[0]?) (0 : UInt8) fun x5 => bif ((((a0 == ([] : Bs))) || (decide ((64 : Int) < ((a0.length : Nat) : Int)))) || ((decide ((48 : Int) ≤ ((x4.toNat : Nat) : Int))) && (decide (((x5.toNat : Nat) : Int) ≤ (57 : Int))))) then (some false) else (Z34_l12 a0 (a0.length + 1) 0)
theorem Z34_walk {a0 : Bs}   {r : Bool} (hE : Z34 a0 = some r) (H : Heap)  : ACalls Tryz.prog 99 [.d (.str a0)] H fun v h' => v = .a (.d (.bool r)) ∧ h' = H := by
 unfold Z34 at hE
 refine ACalls.of_wp (fn := Tryz.f99) (c := _) Tryz.tab_ok (fun _ _ => Tryz.call99 _ _) Tryz.func99 rfl (n := 58) rfl (rs := [.tmp 2]) rfl rfl ?_
 refine seqK fun K1 hK1 => ?_
 refine region ?_
 refine s0 assignA rfl ?_
 refine nil ?_
 refine hK1 _ ?_
 clear hK1 K1
 refine seqK fun K2 hK2 => ?_
 refine seqK fun K3 hK3 => ?_
 refine region ?_
 refine s0 moveA rfl ?_
 refine s0 (binS rfl rfl rfl) rfl ?_
 refine s0 moveA rfl ?_
 refine gC rfl rfl (fun hC => moveA) rfl ?_
 refine gC rfl rfl (fun hC => ungdA (k := 8) rfl (lenS (TK rfl) rfl rfl rfl)) rfl ?_
 refine gC rfl rfl (fun hC => ungdA (k := 9) rfl (binI rfl rfl rfl)) rfl ?_
 refine s0 (pickOrA rfl rfl rfl) rfl ?_
 refine s0 moveA rfl ?_
 refine gC rfl rfl (fun hC => moveA) rfl ?_
 obtain ⟨x4, gx4, hE⟩ := guardO_some hE
 refine gC rfl rfl (fun hC => ungdA (k := 13) rfl (idxSn (n := 0) (TK rfl) rfl rfl rfl (gx4 hC))) rfl ?_
 refine gC rfl rfl (fun hC => ungdA (k := 14) rfl (binI rfl rfl rfl)) rfl ?_
 refine gC rfl rfl (fun hC => ungdA (k := 15) rfl moveA) rfl ?_
 refine gC rfl rfl (fun hC => moveA) rfl ?_
 obtain ⟨x5, gx5, hE⟩ := guardO_some hE
 refine gC rfl rfl (fun hC => ungdA (k := 17) rfl (idxSn (n := 0) (TK rfl) rfl rfl rfl (gx5 hC))) rfl ?_
 refine gC rfl rfl (fun hC => ungdA (k := 18) rfl (binI rfl rfl rfl)) rfl ?_
 refine gC rfl rfl (fun hC => ungdA (k := 16) rfl (pickAndA rfl rfl rfl)) rfl ?_
 refine s0 (pickOrA rfl rfl rfl) rfl ?_
 refine nil ?_
 refine hK3 _ ?_
 clear hK3 K3
 refine condE hE rfl (fun hc6 hE => ?_) (fun hc6 hE => ?_)
 ·refine seqK fun K7 hK7 => ?_
  refine region ?_
  refine s0 assignA rfl ?_
  refine nil ?_
  refine hK7 _ ?_
  clear hK7 K7
  refine AWp.ret ?_
  repeat (first | refine xBlock_ret ?_ | refine xThen_ret ?_)
  obtain rfl := Option.some.inj hE
  refine retQ.retF H rfl ⟨rfl, rfl⟩ ?_
  exact (fun _ _ h => h)
 refine AWp.skip ?_
 refine hK2 _ ?_
 clear hK2 K2
 refine seqJH KeepsT.nil (fun (z : Unit) => []) (fun z => H) (fun z => Z34_j8  = some r) ?_ ?_
 ·intro K8 hK8
  refine seqK fun K10 hK10 => ?_
  refine region ?_
  refine s0 moveA rfl ?_
  refine sLenS (TK rfl) rfl rfl rfl rfl fun hL11 => ?_
  refine s0 moveA rfl ?_
  refine nil ?_
  refine hK10 _ ?_
  clear hK10 K10
  refine block ?_
  refine loopH (KeepsT.A (k := 0) (KeepsT.A (k := 23) KeepsT.nil)) (fun (z : Nat × Nat) => [(24, .a (.d (.int .i64 ((z.2 : Nat) : Int))))]) (fun z => H) (fun z => z.1) (fun z => Z34_l12 a0 z.1 z.2 = some r) ((a0.length + 1), 0) hE Weak.toA ?_
  rintro ⟨n12, s24_13⟩ hE K12 hK12
  try dsimp only at hE
  cases n12 with
  | zero => cases hE
  | succ n12 =>
    rw [Z34_l12] at hE
    refine seqK fun K14 hK14 => ?_
    refine region ?_
    refine s0 (binI rfl rfl rfl) rfl ?_
    refine nil ?_
    refine hK14 _ ?_
    clear hK14 K14
    refine seqK fun K15 hK15 => ?_
    refine condE hE rfl (fun hc16 hE => ?_) (fun hc16 hE => ?_)
    ·try dsimp only at hc16
     have hf16 := of_decide_eq_true hc16
     refine AWp.skip ?_
     refine hK15 _ ?_
     clear hK15 K15
     refine seqK fun K17 hK17 => ?_
     refine block ?_
     refine seqK fun K18 hK18 => ?_
     refine region ?_
     refine s0 moveA rfl ?_
     refine s0 assignA rfl ?_
     refine nil ?_
     refine hK18 _ ?_
     clear hK18 K18
     refine seqK fun K19 hK19 => ?_
     refine region ?_
     refine s0 moveA rfl ?_
     refine s0 moveA rfl ?_
     obtain ⟨x20, gx20, hE⟩ := bindO_some hE
     refine s0 (idxSn (n := s24_13) (TK rfl) rfl rfl rfl gx20) rfl ?_
     refine s0 assignA rfl ?_
     refine nil ?_
     refine hK19 _ ?_
     clear hK19 K19
     refine seqK fun K21 hK21 => ?_
     refine region ?_
     refine s0 moveA rfl ?_
     refine s0 (binI rfl rfl rfl) rfl ?_
     refine s0 moveA rfl ?_
     refine gC rfl rfl (fun hC => moveA) rfl ?_
     refine gC rfl rfl (fun hC => ungdA (k := 33) rfl (binI rfl rfl rfl)) rfl ?_
     refine s0 (pickAndA rfl rfl rfl) rfl ?_
     refine s0 moveA rfl ?_
     refine gC rfl rfl (fun hC => moveA) rfl ?_
     refine gC rfl rfl (fun hC => ungdA (k := 37) rfl (binI rfl rfl rfl)) rfl ?_
     refine gC rfl rfl (fun hC => ungdA (k := 38) rfl moveA) rfl ?_
     refine gC rfl rfl (fun hC => moveA) rfl ?_
     refine gC rfl rfl (fun hC => ungdA (k := 40) rfl (binI rfl rfl rfl)) rfl ?_
     refine gC rfl rfl (fun hC => ungdA (k := 39) rfl (pickAndA rfl rfl rfl)) rfl ?_
     refine s0 (pickOrA rfl rfl rfl) rfl ?_
     refine s0 moveA rfl ?_
     refine gC rfl rfl (fun hC => moveA) rfl ?_
     refine gC rfl rfl (fun hC => ungdA (k := 45) rfl (binI rfl rfl rfl)) rfl ?_
     refine gC rfl rfl (fun hC => ungdA (k := 46) rfl moveA) rfl ?_
     refine gC rfl rfl (fun hC => moveA) rfl ?_
     refine gC rfl rfl (fun hC => ungdA (k := 48) rfl (binI rfl rfl rfl)) rfl ?_
     refine gC rfl rfl (fun hC => ungdA (k := 47) rfl (pickAndA rfl rfl rfl)) rfl ?_
     refine s0 (pickOrA rfl rfl rfl) rfl ?_
     refine s0 moveA rfl ?_
     refine gC rfl rfl (fun hC => moveA) rfl ?_
     refine gC rfl rfl (fun hC => ungdA (k := 53) rfl (binI rfl rfl rfl)) rfl ?_
     refine s0 (pickOrA rfl rfl rfl) rfl ?_
     refine s0 (notB rfl) rfl ?_
     refine nil ?_
     refine hK21 _ ?_
     clear hK21 K21
     refine condE hE rfl (fun hc22 hE => ?_) (fun hc22 hE => ?_)
     ·refine seqK fun K23 hK23 => ?_
      refine region ?_
      refine s0 assignA rfl ?_
      refine nil ?_
      refine hK23 _ ?_
      clear hK23 K23
      refine AWp.ret ?_
      repeat (first | refine xBlock_ret ?_ | refine xThen_ret ?_)
      obtain rfl := Option.some.inj hE
      refine retQ.retF H rfl ⟨rfl, rfl⟩ ?_
      exact (fun _ _ h => h)
     refine AWp.skip ?_
     refine hK17 _ ?_
     clear hK17 K17
     refine region ?_
     refine s0 (addIA rfl rfl) rfl ?_
     refine s0 moveA rfl ?_
     refine nil ?_
     exact hK12 _ (n12, (s24_13 + 1)) Weak.toA hE (Nat.lt_succ_self _)
    refine AWp.exit ?_
    exact hK8 _ () Weak.toA hE
 rintro _ hE
 try dsimp only at hE
 unfold Z34_j8 at hE
 refine seqK fun K9 hK9 => ?_
 refine region ?_
 refine s0 assignA rfl ?_
 refine nil ?_
 refine hK9 _ ?_
 clear hK9 K9
 refine AWp.ret ?_
 repeat (first | refine xBlock_ret ?_ | refine xThen_ret ?_)
 obtain rfl := Option.some.inj hE
 refine retQ.retF H rfl ⟨rfl, rfl⟩ ?_
 exact (fun _ _ h => h)
end Go.Proofs
