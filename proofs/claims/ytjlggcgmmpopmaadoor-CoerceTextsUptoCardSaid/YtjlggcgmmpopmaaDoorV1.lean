import Derived.Test.YtjlggcgmmpopmaaDoorE3
import Derived.Test.YtjlggcgmmpopmaaDoorTab
set_option maxRecDepth 100000
set_option maxHeartbeats 2000000
set_option linter.unusedVariables false
set_option linter.unusedSimpArgs false
namespace Go.Proofs
open Go Go.Ab
inductive TValue where
 | mk (FKind : Int) (FInt : Int) (FText : Bs) (FItems_nl : Bool) (FItems_l : List TValue) (FKeys : (Sl Bs))
def TValue.FKind : TValue → Int | .mk x _ _ _ _ _ => x
def TValue.FInt : TValue → Int | .mk _ x _ _ _ _ => x
def TValue.FText : TValue → Bs | .mk _ _ x _ _ _ => x
def TValue.FItems : TValue → (Sl TValue) | .mk _ _ _ nl l _ => ⟨nl, l⟩
def TValue.FKeys : TValue → (Sl Bs) | .mk _ _ _ _ _ x => x
noncomputable def TValue.FItemsD : TValue → D := @TValue.rec (fun _ => D) (fun _ => List (List D)) (fun _ _ _ nl _ _ ih => .slice 5 none nl ih) [] (fun v _ ih ihl => ((intE .i64) v.FKind ++ (intE .i64) v.FInt ++ strE v.FText ++ [ih] ++ (fun s => [Sl.d 1 strE none s]) v.FKeys) :: ihl)
noncomputable def TValue.c (v : TValue) : List D := (intE .i64) v.FKind ++ (intE .i64) v.FInt ++ strE v.FText ++ [v.FItemsD] ++ (fun s => [Sl.d 1 strE none s]) v.FKeys
theorem TValue.FItemsD_eq (v : TValue) : v.FItemsD = Sl.d 5 TValue.c none v.FItems := by
 cases v with
 | mk y_Kind y_Int y_Text nl l y_Keys =>
  show D.slice 5 none nl _ = D.slice 5 none nl (l.map TValue.c)
  congr 1
  induction l with
  | nil => rfl
  | cons a r ih => exact congrArg (TValue.c a :: ·) ih
noncomputable def TValue.cu (v : TValue) : List D := (intE .i64) v.FKind ++ (intE .i64) v.FInt ++ strE v.FText ++ [Sl.d 5 TValue.c none v.FItems] ++ (fun s => [Sl.d 1 strE none s]) v.FKeys
theorem TValue.cu_eq (v : TValue) : v.c = v.cu := by unfold TValue.c TValue.cu; rw [TValue.FItemsD_eq]
def TValue.zero : TValue := .mk (0 : Int) (0 : Int) ([] : Bs) true [] (Sl.nil : Sl Bs)
structure TArg where
 FName : Bs
 FValue : TValue
noncomputable def TArg.c (x : TArg) : List D := strE x.FName ++ TValue.c x.FValue
def TArg.zero : TArg := ⟨([] : Bs), TValue.zero⟩
structure TDir where
 FName : Bs
 FArgs : (Sl TArg)
noncomputable def TDir.c (x : TDir) : List D := [.str x.FName, Sl.d 6 TArg.c none x.FArgs]
def TDir.zero : TDir := ⟨([] : Bs), (Sl.nil : Sl TArg)⟩
structure TRef where
 FName : Bs
 FWraps : (Sl Int)
noncomputable def TRef.c (x : TRef) : List D := [.str x.FName, Sl.d 1 (intE .i64) none x.FWraps]
def TRef.zero : TRef := ⟨([] : Bs), (Sl.nil : Sl Int)⟩
structure TInput where
 FName : Bs
 FType : TRef
 FHas : Bool
 FDefault : TValue
 FDirs : (Sl TDir)
noncomputable def TInput.c (x : TInput) : List D := strE x.FName ++ TRef.c x.FType ++ boolE x.FHas ++ TValue.c x.FDefault ++ (fun s => [Sl.d 2 TDir.c none s]) x.FDirs
def TInput.zero : TInput := ⟨([] : Bs), TRef.zero, false, TValue.zero, (Sl.nil : Sl TDir)⟩
structure TField where
 FName : Bs
 FArgs : (Sl TInput)
 FType : TRef
 FDirs : (Sl TDir)
noncomputable def TField.c (x : TField) : List D := strE x.FName ++ (fun s => [Sl.d 10 TInput.c none s]) x.FArgs ++ TRef.c x.FType ++ (fun s => [Sl.d 2 TDir.c none s]) x.FDirs
def TField.zero : TField := ⟨([] : Bs), (Sl.nil : Sl TInput), TRef.zero, (Sl.nil : Sl TDir)⟩
structure TMember where
 FName : Bs
 FDirs : (Sl TDir)
noncomputable def TMember.c (x : TMember) : List D := [.str x.FName, Sl.d 2 TDir.c none x.FDirs]
def TMember.zero : TMember := ⟨([] : Bs), (Sl.nil : Sl TDir)⟩
structure TDef where
 FKind : Int
 FName : Bs
 FImplements : (Sl Bs)
 FDirs : (Sl TDir)
 FFields : (Sl TField)
 FMembers : (Sl TMember)
 FInputs : (Sl TInput)
noncomputable def TDef.c (x : TDef) : List D := [.int .i64 x.FKind, .str x.FName, Sl.d 1 strE none x.FImplements, Sl.d 2 TDir.c none x.FDirs, Sl.d 5 TField.c none x.FFields, Sl.d 2 TMember.c none x.FMembers, Sl.d 10 TInput.c none x.FInputs]
def TDef.zero : TDef := ⟨(0 : Int), ([] : Bs), (Sl.nil : Sl Bs), (Sl.nil : Sl TDir), (Sl.nil : Sl TField), (Sl.nil : Sl TMember), (Sl.nil : Sl TInput)⟩
structure TDoc where
 FDefs : (Sl TDef)
noncomputable def TDoc.c (x : TDoc) : List D := [Sl.d 7 TDef.c none x.FDefs]
def TDoc.zero : TDoc := ⟨(Sl.nil : Sl TDef)⟩
structure TVar where
 FName : Bs
 FType : TRef
 FHas : Bool
 FDefault : TValue
noncomputable def TVar.c (x : TVar) : List D := strE x.FName ++ TRef.c x.FType ++ boolE x.FHas ++ TValue.c x.FDefault
def TVar.zero : TVar := ⟨([] : Bs), TRef.zero, false, TValue.zero⟩
structure Coerce_coercer where
 Fd : TDoc
 Fvars : TValue
 Fliteral : Bool
 Fnodes : Int
noncomputable def Coerce_coercer.c (x : Coerce_coercer) : List D := TDoc.c x.Fd ++ TValue.c x.Fvars ++ boolE x.Fliteral ++ (intE .i64) x.Fnodes
def Coerce_coercer.zero : Coerce_coercer := ⟨TDoc.zero, TValue.zero, false, (0 : Int)⟩
end Go.Proofs

namespace Go.Proofs
open Go Go.Ab Go.RowKit
section
variable {H : Type} {B : DataW H → Nat} (hB : Bulk B)
noncomputable def TValue.sz : TValue → Nat := @TValue.rec (fun _ => Nat) (fun _ => Nat) (fun y_Kind y_Int y_Text nl l y_Keys ih => (fun _ => 1) y_Kind + ((fun _ => 1) y_Int + (Bs.sz y_Text + ((1 + ih) + ((Sl.sz Bs.sz) y_Keys + (0)))))) 0 (fun _ _ ih ihl => ih + ihl)
noncomputable def TValue.szL : List TValue → Nat := @TValue.rec_1 (fun _ => Nat) (fun _ => Nat) (fun y_Kind y_Int y_Text nl l y_Keys ih => (fun _ => 1) y_Kind + ((fun _ => 1) y_Int + (Bs.sz y_Text + ((1 + ih) + ((Sl.sz Bs.sz) y_Keys + (0)))))) 0 (fun _ _ ih ihl => ih + ihl)
theorem TValue.szL_eq (l : List TValue) : TValue.szL l = (l.map TValue.sz).sum := by
 induction l with
 | nil => rfl
 | cons a r ih => exact congrArg (TValue.sz a + ·) ih
theorem TValue.sz_eq (x : TValue) : x.sz = (fun _ => 1) x.FKind + ((fun _ => 1) x.FInt + (Bs.sz x.FText + ((Sl.sz TValue.sz) x.FItems + ((Sl.sz Bs.sz) x.FKeys + (0))))) := by
 cases x with
 | mk y_Kind y_Int y_Text nl l y_Keys =>
  show (fun _ => 1) y_Kind + ((fun _ => 1) y_Int + (Bs.sz y_Text + ((1 + TValue.szL l) + ((Sl.sz Bs.sz) y_Keys + (0))))) = _
  rw [TValue.szL_eq]; rfl
def TValue.wf : TValue → Prop := @TValue.rec (fun _ => Prop) (fun _ => Prop) (fun y_Kind y_Int y_Text nl l y_Keys ih => i64 y_Kind ∧ (i64 y_Int ∧ ((fun _ => True) y_Text ∧ (((nl = true → l = []) ∧ l.length ≤ maxN ∧ ih) ∧ ((Sl.wf (fun _ => True)) y_Keys ∧ (True)))))) True (fun _ _ ih ihl => ih ∧ ihl)
def TValue.wfL : List TValue → Prop := @TValue.rec_1 (fun _ => Prop) (fun _ => Prop) (fun y_Kind y_Int y_Text nl l y_Keys ih => i64 y_Kind ∧ (i64 y_Int ∧ ((fun _ => True) y_Text ∧ (((nl = true → l = []) ∧ l.length ≤ maxN ∧ ih) ∧ ((Sl.wf (fun _ => True)) y_Keys ∧ (True)))))) True (fun _ _ ih ihl => ih ∧ ihl)
theorem TValue.wfL_iff (l : List TValue) : TValue.wfL l ↔ ∀ x ∈ l, TValue.wf x := by
 induction l with
 | nil => exact ⟨fun _ _ h => (by cases h), fun _ => trivial⟩
 | cons a r ih =>
  show (TValue.wf a ∧ TValue.wfL r) ↔ _
  rw [ih]; simp
theorem TValue.wf_iff (x : TValue) : x.wf ↔ i64 x.FKind ∧ (i64 x.FInt ∧ ((fun _ => True) x.FText ∧ ((Sl.wf TValue.wf) x.FItems ∧ ((Sl.wf (fun _ => True)) x.FKeys ∧ (True))))) := by
 cases x with
 | mk y_Kind y_Int y_Text nl l y_Keys =>
  show (i64 y_Kind ∧ (i64 y_Int ∧ ((fun _ => True) y_Text ∧ (((nl = true → l = []) ∧ l.length ≤ maxN ∧ TValue.wfL l) ∧ ((Sl.wf (fun _ => True)) y_Keys ∧ (True)))))) ↔ _
  rw [TValue.wfL_iff]; exact Iff.rfl
include hB in
theorem rd_TValue_27 : ∀ N, RdN Tryd.prog B N 27 TValue.c TValue.sz TValue.wf := by
 have key : ∀ N M, M ≤ N → RdN Tryd.prog B M 27 TValue.c TValue.sz TValue.wf := by
  intro N
  induction N with
  | zero => intro M hM; rw [Nat.le_zero.1 hM]; exact .zero
  | succ N ih =>
   intro M hM
   cases M with
   | zero => exact .zero
   | succ N_ =>
    have hit : RdN Tryd.prog B N_ 24 (fun s : Sl TValue => [Sl.d 5 TValue.c none s]) (Sl.sz TValue.sz) (Sl.wf TValue.wf) := by
     cases N_ with
     | zero => exact .zero
     | succ M => exact RdS.sliceN hB (Tryd.tab_ok 24 _ rfl) rfl (Tryd.tab_ok 27 _ rfl) rfl (by decide) (fun _ => rfl) (ih M (by omega))
    refine RdN.struct hB (Tryd.tab_ok 27 _ rfl) rfl (RdP.cons (n := 5) (o := 0) (o' := 1) (Tryd.tab_ok 3 _ rfl) rfl ((RdS.int hB (Tryd.tab_ok 3 _ rfl) rfl) N_) (RdP.cons (n := 5) (o := 1) (o' := 2) (Tryd.tab_ok 3 _ rfl) rfl ((RdS.int hB (Tryd.tab_ok 3 _ rfl) rfl) N_) (RdP.cons (n := 5) (o := 2) (o' := 3) (Tryd.tab_ok 9 _ rfl) rfl ((RdS.str hB (Tryd.tab_ok 9 _ rfl) rfl) N_) (RdP.cons (n := 5) (o := 3) (o' := 4) (Tryd.tab_ok 24 _ rfl) rfl hit (RdP.cons (n := 5) (o := 4) (o' := 5) (Tryd.tab_ok 25 _ rfl) rfl ((RdS.slice hB (Tryd.tab_ok 25 _ rfl) rfl (Tryd.tab_ok 9 _ rfl) rfl (by decide) (fun _ => rfl) (RdS.str hB (Tryd.tab_ok 9 _ rfl) rfl)) N_) (RdP.nil (n := 5))))))) (fun a => TValue.mk a.1 a.2.1 a.2.2.1 a.2.2.2.1.nl a.2.2.2.1.l a.2.2.2.2.1) (fun a => ?_) (fun a => by rw [TValue.sz_eq]; exact Nat.le_refl _) (fun a h => by rw [TValue.wf_iff]; exact h)
    unfold TValue.c
    rw [TValue.FItemsD_eq]
    rfl
 exact fun N => key N N (Nat.le_refl _)
noncomputable def TArg.sz (x : TArg) : Nat := Bs.sz x.FName + (TValue.sz x.FValue + (0))
def TArg.wf (x : TArg) : Prop := (fun _ => True) x.FName ∧ (TValue.wf x.FValue ∧ (True))
include hB in
theorem rd_TArg_29 : ∀ N, RdN Tryd.prog B N 29 TArg.c TArg.sz TArg.wf := RdA.struct hB (Tryd.tab_ok 29 _ rfl) rfl (fun N_ => (RdP.cons (n := 6) (o := 0) (o' := 1) (Tryd.tab_ok 9 _ rfl) rfl ((RdS.str hB (Tryd.tab_ok 9 _ rfl) rfl) N_) (RdP.cons (n := 6) (o := 1) (o' := 6) (Tryd.tab_ok 27 _ rfl) rfl ((rd_TValue_27 hB) N_) (RdP.nil (n := 6))))) (fun a => (⟨a.1, a.2.1⟩ : TArg)) (fun _ => rfl) (fun _ => Nat.le_refl _) (fun _ h => h)
end
theorem TValue.sz_def (x : TValue) : x.sz = 0 + 1 + 1 + Bs.sz x.FText + (Sl.sz TValue.sz) x.FItems + (Sl.sz Bs.sz) x.FKeys := by
 rw [TValue.sz_eq]; try dsimp only
 omega
theorem TValue.pos (x : TValue) : 1 ≤ x.sz := by
 rw [TValue.sz_def]; have := Bs.sz_pos x.FText; omega
theorem TArg.sz_def (x : TArg) : x.sz = 0 + Bs.sz x.FName + TValue.sz x.FValue := by
 unfold TArg.sz; try dsimp only
 omega
theorem TArg.pos (x : TArg) : 1 ≤ x.sz := by
 rw [TArg.sz_def]; have := Bs.sz_pos x.FName; omega
theorem TArg.FValue_wf {x : TArg} (h : x.wf) : TValue.wf x.FValue := h.2.1
end Go.Proofs

namespace Go.Proofs
open Go Go.Ab
open AOps Cert AWp
variable {lou : Lou}
section
variable [IsLoud lou]
def Tryd.lay22_ren : Go.Shelf.Ren := ⟨fun | 156 => 22 | 165 => 43 | 166 => 44 | 169 => 45 | 240 => 72 | 241 => 73 | 276 => 89 | 277 => 90 | n => n, fun | 31 => 25 | 9 => 9 | 3 => 3 | 4 => 4 | 0 => 0 | 20 => 20 | 72 => 95 | 76 => 99 | 70 => 92 | 37 => 93 | 75 => 98 | 127 => 122 | 164 => 136 | 5 => 5 | 80 => 101 | n => n, fun | n => n⟩
theorem Tryd.lay22 : Go.Proofs.Lays.n156 Tryd.prog Tryd.lay22_ren := {
 mixed := by kernel_rfl
 f156 := Tryd.func22.trans (congrArg some (by kernel_rfl))
 f165 := Tryd.func43.trans (congrArg some (by kernel_rfl))
 f166 := Tryd.func44.trans (congrArg some (by kernel_rfl))
 f169 := Tryd.func45.trans (congrArg some (by kernel_rfl))
 f240 := Tryd.func72.trans (congrArg some (by kernel_rfl))
 f241 := Tryd.func73.trans (congrArg some (by kernel_rfl))
 f276 := Tryd.func89.trans (congrArg some (by kernel_rfl))
 f277 := Tryd.func90.trans (congrArg some (by kernel_rfl))
 t0 := Tryd.underlying0
 a0 := Tryd.isAgg0
 z0 := Tryd.sizeOf0
 v0 := Tryd.zeroValue0
 t3 := Tryd.underlying3
 a3 := Tryd.isAgg3
 z3 := Tryd.sizeOf3
 v3 := Tryd.zeroValue3
 t4 := Tryd.underlying4
 a4 := Tryd.isAgg4
 z4 := Tryd.sizeOf4
 v4 := Tryd.zeroValue4
 t9 := Tryd.underlying9
 a9 := Tryd.isAgg9
 z9 := Tryd.sizeOf9
 v9 := Tryd.zeroValue9
 t20 := Tryd.underlying20
 a20 := Tryd.isAgg20
 z20 := Tryd.sizeOf20
 v20 := Tryd.zeroValue20
 t31 := Tryd.underlying25
 a31 := Tryd.isAgg25
 z31 := Tryd.sizeOf25
 v31 := Tryd.zeroValue25
 t37 := Tryd.underlying93
 a37 := Tryd.isAgg93
 z37 := Tryd.sizeOf93
 v37 := Tryd.zeroValue93
 t70 := Tryd.underlying92
 a70 := Tryd.isAgg92
 z70 := Tryd.sizeOf92
 v70 := Tryd.zeroValue92
 t72 := Tryd.underlying95
 a72 := Tryd.isAgg95
 z72 := Tryd.sizeOf95
 v72 := Tryd.zeroValue95
 t75 := Tryd.underlying98
 a75 := Tryd.isAgg98
 z75 := Tryd.sizeOf98
 v75 := Tryd.zeroValue98
 t76 := Tryd.underlying99
 a76 := Tryd.isAgg99
 z76 := Tryd.sizeOf99
 v76 := Tryd.zeroValue99
 t127 := Tryd.underlying122
 a127 := Tryd.isAgg122
 z127 := Tryd.sizeOf122
 v127 := Tryd.zeroValue122
 t164 := Tryd.underlying136
 a164 := Tryd.isAgg136
 z164 := Tryd.sizeOf136
 v164 := Tryd.zeroValue136 }
theorem Tryd.extra22 : Builder.Extra Tryd.prog Tryd.lay22_ren where
 sizeBuilder := by kernel_rfl
 liesBuilder := by kernel_rfl
 t5 := Tryd.underlying5
 a5 := Tryd.isAgg5
 z5 := Tryd.sizeOf5
 v5 := Tryd.zeroValue5
 infoByte := by kernel_rfl
 cellsByte := by kernel_rfl
 sizeByte := by kernel_rfl
 neB5 := by decide
def Z55 (s : Sl Bs) (sep : Bs) : Option Bs := joinA s sep
def Z55_q (s : Sl Bs) (sep : Bs) : Option Bs := Z55 s sep
theorem Z55_eq (s : Sl Bs) (sep : Bs) : Z55 s sep = Z55_q s sep := rfl
theorem Z55_walk {a0 : Sl Bs} {a1 : Bs} {w0 : Option Nat} {r : Bs} (hE : Z55 a0 a1 = some r) (H : Heap) : ACalls Tryd.prog 22 [.d (Sl.d 1 strE w0 a0), .d (.str a1)] H fun v h' => v = .a (.d (.str r)) ∧ h' = H := joinA_calls Tryd.lay22 Tryd.extra22 hE rfl
end
def Tryd.lay70_ren : Go.Shelf.Ren := ⟨fun | 171 => 70 | 243 => 88 | 246 => 97 | 283 => 98 | 284 => 99 | 285 => 100 | 286 => 101 | 129 => 103 | 317 => 102 | 318 => 104 | 319 => 105 | 320 => 106 | 337 => 107 | 338 => 108 | n => n, fun | 3 => 3 | 9 => 9 | 2 => 2 | 4 => 4 | 171 => 143 | 0 => 0 | 53 => 144 | 37 => 93 | 5 => 5 | 173 => 147 | 212 => 151 | 51 => 152 | 20 => 20 | 213 => 153 | 46 => 121 | 232 => 157 | 233 => 158 | n => n, fun | 17 => 1 | 18 => 2 | 19 => 3 | n => n⟩
theorem Tryd.lay70 : Go.Proofs.LaysM.n171 Tryd.prog Tryd.lay70_ren := {
 mixed := by kernel_rfl
 f129 := Tryd.func103.trans (congrArg some (by kernel_rfl))
 f171 := Tryd.func70.trans (congrArg some (by kernel_rfl))
 f243 := Tryd.func88.trans (congrArg some (by kernel_rfl))
 f246 := Tryd.func97.trans (congrArg some (by kernel_rfl))
 f283 := Tryd.func98.trans (congrArg some (by kernel_rfl))
 f284 := Tryd.func99.trans (congrArg some (by kernel_rfl))
 f285 := Tryd.func100.trans (congrArg some (by kernel_rfl))
 f286 := Tryd.func101.trans (congrArg some (by kernel_rfl))
 f317 := Tryd.func102.trans (congrArg some (by kernel_rfl))
 f318 := Tryd.func104.trans (congrArg some (by kernel_rfl))
 f319 := Tryd.func105.trans (congrArg some (by kernel_rfl))
 f320 := Tryd.func106.trans (congrArg some (by kernel_rfl))
 f337 := Tryd.func107.trans (congrArg some (by kernel_rfl))
 f338 := Tryd.func108.trans (congrArg some (by kernel_rfl))
 t0 := Tryd.underlying0
 a0 := Tryd.isAgg0
 z0 := Tryd.sizeOf0
 v0 := Tryd.zeroValue0
 t2 := Tryd.underlying2
 a2 := Tryd.isAgg2
 z2 := Tryd.sizeOf2
 v2 := Tryd.zeroValue2
 t3 := Tryd.underlying3
 a3 := Tryd.isAgg3
 z3 := Tryd.sizeOf3
 v3 := Tryd.zeroValue3
 t4 := Tryd.underlying4
 a4 := Tryd.isAgg4
 z4 := Tryd.sizeOf4
 v4 := Tryd.zeroValue4
 t5 := Tryd.underlying5
 a5 := Tryd.isAgg5
 z5 := Tryd.sizeOf5
 v5 := Tryd.zeroValue5
 t9 := Tryd.underlying9
 a9 := Tryd.isAgg9
 z9 := Tryd.sizeOf9
 v9 := Tryd.zeroValue9
 t20 := Tryd.underlying20
 a20 := Tryd.isAgg20
 z20 := Tryd.sizeOf20
 v20 := Tryd.zeroValue20
 t37 := Tryd.underlying93
 a37 := Tryd.isAgg93
 z37 := Tryd.sizeOf93
 v37 := Tryd.zeroValue93
 t46 := Tryd.underlying121
 a46 := Tryd.isAgg121
 z46 := Tryd.sizeOf121
 v46 := Tryd.zeroValue121
 t51 := Tryd.underlying152
 a51 := Tryd.isAgg152
 z51 := Tryd.sizeOf152
 v51 := Tryd.zeroValue152
 t53 := Tryd.underlying144
 a53 := Tryd.isAgg144
 z53 := Tryd.sizeOf144
 v53 := Tryd.zeroValue144
 t171 := Tryd.underlying143
 a171 := Tryd.isAgg143
 z171 := Tryd.sizeOf143
 v171 := Tryd.zeroValue143
 t173 := Tryd.underlying147
 a173 := Tryd.isAgg147
 z173 := Tryd.sizeOf147
 v173 := Tryd.zeroValue147
 t212 := Tryd.underlying151
 a212 := Tryd.isAgg151
 z212 := Tryd.sizeOf151
 v212 := Tryd.zeroValue151
 t213 := Tryd.underlying153
 a213 := Tryd.isAgg153
 z213 := Tryd.sizeOf153
 t232 := Tryd.underlying157
 a232 := Tryd.isAgg157
 z232 := Tryd.sizeOf157
 v232 := Tryd.zeroValue157
 t233 := Tryd.underlying158
 a233 := Tryd.isAgg158
 z233 := Tryd.sizeOf158
 v233 := Tryd.zeroValue158
 g17 := by kernel_rfl
 g18 := by kernel_rfl
 g19 := by kernel_rfl
 i0 := by kernel_rfl
 i2 := by kernel_rfl
 i3 := by kernel_rfl
 i4 := by kernel_rfl
 i5 := by kernel_rfl
 i9 := by kernel_rfl
 i20 := by kernel_rfl
 i37 := by kernel_rfl
 i46 := by kernel_rfl
 i51 := by kernel_rfl
 i53 := by kernel_rfl
 i171 := by kernel_rfl
 i173 := by kernel_rfl
 i212 := by kernel_rfl
 i232 := by kernel_rfl
 i233 := by kernel_rfl
 m17 := by kernel_rfl
 m18 := by kernel_rfl
 m19 := by kernel_rfl }
def Z50 (n : Int) : Option Bs := if -9223372036854775808 ≤ n ∧ n ≤ 9223372036854775807 ∧ (Lib.itoa n).length ≤ maxS then some (Lib.itoa n) else none
def Z50_q (n : Int) : Option Bs := Z50 n
theorem Z50_eq (n : Int) : Z50 n = Z50_q n := rfl
theorem Z50_walk {a0 : Int} {oT : Ab.Obj} {gT : Nat} {r : Bs} (hE : Z50 a0 = some r) (H : Heap) (hgT : H gT = some oT) (hoT : IsTab Tryd.prog oT) : ACalls Tryd.prog 70 [.d (.int .i64 a0)] H fun v h' => v = .a (.d (.str r)) ∧ h' = H := by
 unfold Z50 at hE
 split at hE
 ·rename_i h
  obtain rfl := Option.some.inj hE
  exact itoa_calls Tryd.lay70 h.1 h.2.1 rfl hgT hoT h.2.2
 cases hE
def Z56 (a0 : Int) : Option Bs := (Z50 a0).bind fun x3 => some x3
theorem Z56_walk {a0 : Int} {oT : Ab.Obj} {gT : Nat} {r : Bs} (hE : Z56 a0 = some r) (H : Heap) (hgT : H gT = some oT) (hoT : IsTab Tryd.prog oT) : ACalls Tryd.prog 41 [.d (.int .i64 a0)] H fun v h' => v = .a (.d (.str r)) ∧ h' = H := by
 unfold Z56 at hE
 refine ACalls.of_wp (fn := Tryd.f41) (c := _) Tryd.tab_ok (fun _ _ => Tryd.call41 _ _) Tryd.func41 rfl (n := 5) rfl (rs := [.tmp 2]) rfl rfl ?_
 refine seqK fun K1 hK1 => ?_
 refine region ?_
 refine s0 assignA rfl ?_
 refine nil ?_
 refine hK1 _ ?_
 clear hK1 K1
 refine seqK fun K2 hK2 => ?_
 refine region ?_
 refine s0 moveA rfl ?_
 obtain ⟨x3, gx3, hE⟩ := bindO_some hE
 refine s0 (callR rfl rfl (Z50_walk (gT := gT) (oT := oT) gx3 _ hpG (by assumption))) rfl ?_
 refine s0 assignA rfl ?_
 refine nil ?_
 refine hK2 _ ?_
 clear hK2 K2
 refine AWp.ret ?_
 repeat (first | refine xBlock_ret ?_ | refine xThen_ret ?_)
 obtain rfl := Option.some.inj hE
 refine retQ.retF H rfl ⟨rfl, rfl⟩ ?_
 exact (fun _ _ h => h)
def Tryd.lay72_ren : Go.Shelf.Ren := ⟨fun | 240 => 72 | 276 => 89 | n => n, fun | 0 => 0 | 4 => 4 | 9 => 9 | 20 => 20 | 70 => 92 | 72 => 95 | 164 => 136 | 37 => 93 | n => n, fun | n => n⟩
theorem Tryd.lay72 : Go.Proofs.Lays.n240 Tryd.prog Tryd.lay72_ren := {
 mixed := by kernel_rfl
 f240 := Tryd.func72.trans (congrArg some (by kernel_rfl))
 f276 := Tryd.func89.trans (congrArg some (by kernel_rfl))
 t0 := Tryd.underlying0
 a0 := Tryd.isAgg0
 z0 := Tryd.sizeOf0
 v0 := Tryd.zeroValue0
 t4 := Tryd.underlying4
 a4 := Tryd.isAgg4
 z4 := Tryd.sizeOf4
 v4 := Tryd.zeroValue4
 t9 := Tryd.underlying9
 a9 := Tryd.isAgg9
 z9 := Tryd.sizeOf9
 v9 := Tryd.zeroValue9
 t20 := Tryd.underlying20
 a20 := Tryd.isAgg20
 z20 := Tryd.sizeOf20
 v20 := Tryd.zeroValue20
 t70 := Tryd.underlying92
 a70 := Tryd.isAgg92
 z70 := Tryd.sizeOf92
 v70 := Tryd.zeroValue92
 t72 := Tryd.underlying95
 a72 := Tryd.isAgg95
 z72 := Tryd.sizeOf95
 v72 := Tryd.zeroValue95
 t164 := Tryd.underlying136
 a164 := Tryd.isAgg136
 z164 := Tryd.sizeOf136
 v164 := Tryd.zeroValue136 }
def Z54 (a0 : Strings_Builder) : Option Strings_Builder := some ⟨true, a0.Fbuf⟩
def Z54_q (a0 : Strings_Builder) : Option Strings_Builder := some ⟨true, a0.Fbuf⟩
theorem Z54_eq (a0 : Strings_Builder) : Z54 a0 = Z54_q a0 := rfl
theorem Z54_walk {a0 : Strings_Builder} {c0 : Nat} {c0_1 : Nat} {r : Strings_Builder} (hE : Z54 a0 = some r) (H : Heap) (hc0 : H c0 = some (.tcells 95 (Strings_Builder.cg c0 (some c0_1) a0))) (ht0_1 : H c0_1 = some (.tok 1 a0.Fbuf.l.length (some 5))) : ACalls Tryd.prog 72 [.d (.ptr c0 0)] H fun v h' => v = .tup [] ∧ h' = ((H.set c0_1 (some (.tok 1 r.Fbuf.l.length (some 5)))).set c0 (some (.tcells 95 (Strings_Builder.cg c0 (some c0_1) r)))) := by
 obtain rfl := Option.some.inj hE
 refine (bld_check (T := 95) Tryd.lay72 ⟨by kernel_rfl, by kernel_rfl⟩ rfl rfl hc0).mono fun v h' e => ⟨e.1, ?_⟩
 rw [e.2]
 show _ = Heap.set (Heap.set H c0_1 _) _ _
 rw [Heap.set_self H c0_1 _ ht0_1]
def Z53 (a0 : Strings_Builder) (a1 : Bs) : Option (Int × Unit × Strings_Builder) := (Z54 a0).bind fun x3 => (appC 1 x3.Fbuf (strSl a1)).bind fun x5 => some (((a1.length : Nat) : Int), (), (Strings_Builder.mk x3.Faddr x5))
theorem Z53_walk {a0 : Strings_Builder} {a1 : Bs}  {c0 : Nat} {c0_1 : Nat} {r : (Int × Unit × Strings_Builder)} (hE : Z53 a0 a1 = some r) (H : Heap) (hc0 : H c0 = some (.tcells 95 (Strings_Builder.cg c0 (some c0_1) a0))) (ht0_1 : H c0_1 = some (.tok 1 a0.Fbuf.l.length (some 5))) : ACalls Tryd.prog 44 [.d (.ptr c0 0), .d (.str a1)] H fun v h' => v = .tup [.d (.int .i64 r.1), .d (.nilIface)] ∧ h' = ((H.set c0_1 (some (.tok 1 r.2.2.Fbuf.l.length (some 5)))).set c0 (some (.tcells 95 (Strings_Builder.cg c0 (some c0_1) r.2.2)))) := by
 unfold Z53 at hE
 refine ACalls.of_wp (fn := Tryd.f44) (c := _) Tryd.tab_ok (fun _ _ => Tryd.call44 _ _) Tryd.func44 rfl (n := 19) rfl (rs := [.tmp 4, .tmp 5]) rfl rfl ?_
 have ne_c0_c0_1 : c0 ≠ c0_1 := fun e_ => by subst e_; simp_all
 refine AWp.heqA (h' := ((H.set c0_1 (some (.tok 1 a0.Fbuf.l.length (some 5)))).set c0 (some (.tcells 95 (Strings_Builder.cg c0 (some c0_1) a0))))) (by funext n_; simp only [Heap.set]; (repeat' split) <;> simp_all) ?_
 refine seqK fun K1 hK1 => ?_
 refine region ?_
 refine s0 assignA rfl ?_
 refine s0 assignA rfl ?_
 refine nil ?_
 refine hK1 _ ?_
 clear hK1 K1
 refine seqK fun K2 hK2 => ?_
 refine region ?_
 refine s0 moveA rfl ?_
 obtain ⟨x3, gx3, hE⟩ := bindO_some hE
 refine sH (callH rfl rfl (Z54_walk gx3 _ hpG hpG)) rfl ?_
 refine AOps.heq (h' := ((H.set c0_1 (some (.tok 1 x3.Fbuf.l.length (some 5)))).set c0 (some (.tcells 95 (Strings_Builder.cg c0 (some c0_1) x3))))) (by first | rfl | (rw [Heap.set_set]; rfl) | (funext n_; simp only [Heap.set]; (repeat' split) <;> first | rfl | (exfalso; simp_all; done) | (simp_all; done))) ?_
 refine nil ?_
 refine hK2 _ ?_
 clear hK2 K2
 refine seqK fun K4 hK4 => ?_
 refine region ?_
 refine s0 moveA rfl ?_
 refine s0 moveA rfl ?_
 refine s0 (nilP rfl) rfl ?_
 refine s0 (fieldP (TK rfl) rfl rfl (TK rfl) rfl rfl) rfl ?_
 refine s0 (loadPT (TK rfl) rfl rfl hpG rfl) rfl ?_
 refine s0 moveA rfl ?_
 obtain ⟨x5, gx5, hE⟩ := bindO_some hE
 refine sH (appST (TK rfl) rfl (TK rfl) (TK rfl) rfl rfl rfl rfl rfl rfl rfl hpG rfl rfl gx5) rfl ?_
 refine AOps.heq (h' := ((H.set c0_1 (some (.tok 1 x5.l.length (some 5)))).set c0 (some (.tcells 95 (Strings_Builder.cg c0 (some c0_1) x3))))) (by first | rfl | (rw [Heap.set_set]; rfl) | (funext n_; simp only [Heap.set]; (repeat' split) <;> first | rfl | (exfalso; simp_all; done) | (simp_all; done))) ?_
 refine s0 (nilP rfl) rfl ?_
 refine s0 (fieldP (TK rfl) rfl rfl (TK rfl) rfl rfl) rfl ?_
 refine sHn (storePT (TK rfl) rfl rfl hpG rfl (by repeat (first | exact SetAt.zero | apply SetAt.succ))) rfl rfl ?_
 refine AOps.heq (h' := ((H.set c0_1 (some (.tok 1 x5.l.length (some 5)))).set c0 (some (.tcells 95 (Strings_Builder.cg c0 (some c0_1) (Strings_Builder.mk x3.Faddr x5)))))) (by first | rfl | (rw [Heap.set_set]; rfl) | (funext n_; simp only [Heap.set]; (repeat' split) <;> first | rfl | (exfalso; simp_all; done) | (simp_all; done))) ?_
 refine nil ?_
 refine hK4 _ ?_
 clear hK4 K4
 refine seqK fun K6 hK6 => ?_
 refine region ?_
 refine s0 moveA rfl ?_
 refine sLenS (TK rfl) rfl rfl rfl rfl fun hL7 => ?_
 refine s0 assignA rfl ?_
 refine s0 assignA rfl ?_
 refine nil ?_
 refine hK6 _ ?_
 clear hK6 K6
 refine AWp.ret ?_
 repeat (first | refine xBlock_ret ?_ | refine xThen_ret ?_)
 obtain rfl := Option.some.inj hE
 refine retQ.retF ((H.set c0_1 (some (.tok 1 x5.l.length (some 5)))).set c0 (some (.tcells 95 (Strings_Builder.cg c0 (some c0_1) (Strings_Builder.mk x3.Faddr x5))))) rfl ⟨rfl, rfl⟩ ?_
 exact (fun _ _ h => h)
def Tryd.lay45_ren : Go.Shelf.Ren := ⟨fun | 169 => 45 | n => n, fun | 70 => 92 | 9 => 9 | 0 => 0 | 72 => 95 | 37 => 93 | 127 => 122 | 3 => 3 | 5 => 5 | n => n, fun | n => n⟩
theorem Tryd.lay45 : Go.Proofs.Lays.n169 Tryd.prog Tryd.lay45_ren := {
 mixed := by kernel_rfl
 f169 := Tryd.func45.trans (congrArg some (by kernel_rfl))
 t0 := Tryd.underlying0
 a0 := Tryd.isAgg0
 z0 := Tryd.sizeOf0
 v0 := Tryd.zeroValue0
 t3 := Tryd.underlying3
 a3 := Tryd.isAgg3
 z3 := Tryd.sizeOf3
 v3 := Tryd.zeroValue3
 t9 := Tryd.underlying9
 a9 := Tryd.isAgg9
 z9 := Tryd.sizeOf9
 v9 := Tryd.zeroValue9
 t37 := Tryd.underlying93
 a37 := Tryd.isAgg93
 z37 := Tryd.sizeOf93
 v37 := Tryd.zeroValue93
 t70 := Tryd.underlying92
 a70 := Tryd.isAgg92
 z70 := Tryd.sizeOf92
 v70 := Tryd.zeroValue92
 t72 := Tryd.underlying95
 a72 := Tryd.isAgg95
 z72 := Tryd.sizeOf95
 v72 := Tryd.zeroValue95
 t127 := Tryd.underlying122
 a127 := Tryd.isAgg122
 z127 := Tryd.sizeOf122
 v127 := Tryd.zeroValue122 }
theorem Tryd.extra45 : Builder.Extra Tryd.prog Tryd.lay45_ren where
 sizeBuilder := by kernel_rfl
 liesBuilder := by kernel_rfl
 t5 := Tryd.underlying5
 a5 := Tryd.isAgg5
 z5 := Tryd.sizeOf5
 v5 := Tryd.zeroValue5
 infoByte := by kernel_rfl
 cellsByte := by kernel_rfl
 sizeByte := by kernel_rfl
 neB5 := by decide
def Z51 (a0 : Strings_Builder) : Option Bs := bldStr a0
def Z51_q (a0 : Strings_Builder) : Option Bs := bldStr a0
theorem Z51_eq (a0 : Strings_Builder) : Z51 a0 = Z51_q a0 := rfl
theorem Z51_walk {a0 : Strings_Builder} {c0 t0 : Nat} {r : Bs} (hE : Z51 a0 = some r) (H : Heap) (hc0 : H c0 = some (.tcells 95 (Strings_Builder.cg c0 (some t0) a0))) (ht0 : H t0 = some (.tok 1 a0.Fbuf.l.length (some 5))) : ACalls Tryd.prog 45 [.d (.ptr c0 0)] H fun v h' => v = .a (.d (.str r)) ∧ h' = (H.set t0 none).set c0 none := bld_string Tryd.lay45 Tryd.extra45 rfl rfl rfl hE hc0 ht0
def Z52 (a0 : Strings_Builder) (a1 : Int) : Option (Unit × Strings_Builder) := (Z54 a0).bind fun x3 => (appC 1 x3.Fbuf (⟨false, [a1]⟩ : Sl Int)).bind fun x5 => some ((), (Strings_Builder.mk x3.Faddr x5))
theorem Z52_walk {a0 : Strings_Builder} {a1 : Int}  {c0 : Nat} {c0_1 : Nat} {r : (Unit × Strings_Builder)} (hE : Z52 a0 a1 = some r) (H : Heap) (hc0 : H c0 = some (.tcells 95 (Strings_Builder.cg c0 (some c0_1) a0))) (ht0_1 : H c0_1 = some (.tok 1 a0.Fbuf.l.length (some 5))) : ACalls Tryd.prog 71 [.d (.ptr c0 0), .d (.int .u8 a1)] H fun v h' => v = .a (.d (.nilIface)) ∧ h' = ((H.set c0_1 (some (.tok 1 r.2.Fbuf.l.length (some 5)))).set c0 (some (.tcells 95 (Strings_Builder.cg c0 (some c0_1) r.2)))) := by
 unfold Z52 at hE
 refine ACalls.of_wp (fn := Tryd.f71) (c := _) Tryd.tab_ok (fun _ _ => Tryd.call71 _ _) Tryd.func71 rfl (n := 17) rfl (rs := [.tmp 4]) rfl rfl ?_
 have ne_c0_c0_1 : c0 ≠ c0_1 := fun e_ => by subst e_; simp_all
 refine AWp.heqA (h' := ((H.set c0_1 (some (.tok 1 a0.Fbuf.l.length (some 5)))).set c0 (some (.tcells 95 (Strings_Builder.cg c0 (some c0_1) a0))))) (by funext n_; simp only [Heap.set]; (repeat' split) <;> simp_all) ?_
 refine seqK fun K1 hK1 => ?_
 refine region ?_
 refine s0 assignA rfl ?_
 refine nil ?_
 refine hK1 _ ?_
 clear hK1 K1
 refine seqK fun K2 hK2 => ?_
 refine region ?_
 refine s0 moveA rfl ?_
 obtain ⟨x3, gx3, hE⟩ := bindO_some hE
 refine sH (callH rfl rfl (Z54_walk gx3 _ hpG hpG)) rfl ?_
 refine AOps.heq (h' := ((H.set c0_1 (some (.tok 1 x3.Fbuf.l.length (some 5)))).set c0 (some (.tcells 95 (Strings_Builder.cg c0 (some c0_1) x3))))) (by first | rfl | (rw [Heap.set_set]; rfl) | (funext n_; simp only [Heap.set]; (repeat' split) <;> first | rfl | (exfalso; simp_all; done) | (simp_all; done))) ?_
 refine nil ?_
 refine hK2 _ ?_
 clear hK2 K2
 refine seqK fun K4 hK4 => ?_
 refine region ?_
 refine s0 moveA rfl ?_
 refine s0 moveA rfl ?_
 refine s0 (nilP rfl) rfl ?_
 refine s0 (fieldP (TK rfl) rfl rfl (TK rfl) rfl rfl) rfl ?_
 refine s0 (loadPT (TK rfl) rfl rfl hpG rfl) rfl ?_
 refine s0 moveA rfl ?_
 refine s0 (buildSlice (TK rfl) rfl (TK rfl) rfl rfl rfl rfl rfl rfl) rfl ?_
 obtain ⟨x5, gx5, hE⟩ := bindO_some hE
 refine sH (appMT (TK rfl) rfl (TK rfl) (TK rfl) ⟨_, rfl⟩ rfl rfl (by decide) rfl rfl rfl rfl hpG rfl rfl gx5) rfl ?_
 refine AOps.heq (h' := ((H.set c0_1 (some (.tok 1 x5.l.length (some 5)))).set c0 (some (.tcells 95 (Strings_Builder.cg c0 (some c0_1) x3))))) (by first | rfl | (rw [Heap.set_set]; rfl) | (funext n_; simp only [Heap.set]; (repeat' split) <;> first | rfl | (exfalso; simp_all; done) | (simp_all; done))) ?_
 refine s0 (nilP rfl) rfl ?_
 refine s0 (fieldP (TK rfl) rfl rfl (TK rfl) rfl rfl) rfl ?_
 refine sHn (storePT (TK rfl) rfl rfl hpG rfl (by repeat (first | exact SetAt.zero | apply SetAt.succ))) rfl rfl ?_
 refine AOps.heq (h' := ((H.set c0_1 (some (.tok 1 x5.l.length (some 5)))).set c0 (some (.tcells 95 (Strings_Builder.cg c0 (some c0_1) (Strings_Builder.mk x3.Faddr x5)))))) (by first | rfl | (rw [Heap.set_set]; rfl) | (funext n_; simp only [Heap.set]; (repeat' split) <;> first | rfl | (exfalso; simp_all; done) | (simp_all; done))) ?_
 refine nil ?_
 refine hK4 _ ?_
 clear hK4 K4
 refine seqK fun K6 hK6 => ?_
 refine region ?_
 refine s0 assignA rfl ?_
 refine nil ?_
 refine hK6 _ ?_
 clear hK6 K6
 refine AWp.ret ?_
 repeat (first | refine xBlock_ret ?_ | refine xThen_ret ?_)
 obtain rfl := Option.some.inj hE
 refine retQ.retF ((H.set c0_1 (some (.tok 1 x5.l.length (some 5)))).set c0 (some (.tcells 95 (Strings_Builder.cg c0 (some c0_1) (Strings_Builder.mk x3.Faddr x5))))) rfl ⟨rfl, rfl⟩ ?_
 exact (fun _ _ h => h)
def Z57_j7  (y8_id3_3 : Strings_Builder) : Option Bs := (Z52 y8_id3_3 (34 : Int)).bind fun x10 => (Z51 x10.2).bind fun x12 => some x12
def Z57_j21 (s9_16 : Nat) (k_next_15 : Nat → Strings_Builder → Option Bs) (y22_id3_3 : Strings_Builder) : Option Bs := k_next_15 (s9_16 + 1) y22_id3_3
def Z57_j27 (s9_16 : Nat) (y17_id3_3 : Strings_Builder) (x25 : UInt8) (k_next_15 : Nat → Strings_Builder → Option Bs) (s33_28 : Bool) : Option Bs := bif s33_28 then ((Z52 y17_id3_3 (92 : Int)).bind fun x31 => (Z52 x31.2 ((x25.toNat : Nat) : Int)).bind fun x32 => Z57_j21 s9_16 k_next_15 x32.2) else (bif (decide (((x25.toNat : Nat) : Int) = (10 : Int))) then ((Z53 y17_id3_3 ([92, 110] : Bs)).bind fun x35 => Z57_j21 s9_16 k_next_15 x35.2.2) else (bif (decide (((x25.toNat : Nat) : Int) = (13 : Int))) then ((Z53 y17_id3_3 ([92, 114] : Bs)).bind fun x38 => Z57_j21 s9_16 k_next_15 x38.2.2) else (bif (decide (((x25.toNat : Nat) : Int) = (9 : Int))) then ((Z53 y17_id3_3 ([92, 116] : Bs)).bind fun x41 => Z57_j21 s9_16 k_next_15 x41.2.2) else (bif ((decide ((32 : Int) ≤ ((x25.toNat : Nat) : Int))) && (decide (((x25.toNat : Nat) : Int) ≤ (126 : Int)))) then ((Z52 y17_id3_3 ((x25.toNat : Nat) : Int)).bind fun x46 => Z57_j21 s9_16 k_next_15 x46.2) else ((Z53 y17_id3_3 ([92, 117, 48, 48] : Bs)).bind fun x48 => (idxC ([48, 49, 50, 51, 52, 53, 54, 55, 56, 57, 97, 98, 99, 100, 101, 102] : Bs) (Int.fdiv ((x25.toNat : Nat) : Int) (2 ^ (min (Int.toNat 4) (IntKind.bits .u8))))).bind fun x50 => (Z52 x48.2.2 ((x50.toNat : Nat) : Int)).bind fun x51 => (idxC ([48, 49, 50, 51, 52, 53, 54, 55, 56, 57, 97, 98, 99, 100, 101, 102] : Bs) (IntKind.wrap .u8 ((BitVec.ofInt (IntKind.bits .u8) ((x25.toNat : Nat) : Int) &&& BitVec.ofInt (IntKind.bits .u8) (15 : Int)).toNat : Int))).bind fun x52 => (Z52 x51.2 ((x52.toNat : Nat) : Int)).bind fun x53 => Z57_j21 s9_16 k_next_15 x53.2)))))
def Z57_l15 (a0 : Bs)  : Nat → Nat → Strings_Builder → Option Bs
 | 0, _, _ => none
 | n15 + 1, s9_16, y17_id3_3 => bif (decide (((s9_16 : Nat) : Int) < ((a0.length : Nat) : Int))) then ((a0[s9_16]?).bind fun x25 => bif (decide (((x25.toNat : Nat) : Int) = (34 : Int))) then (Z57_j27 s9_16 y17_id3_3 x25 ((Z57_l15 a0 n15)) (decide (((x25.toNat : Nat) : Int) = (34 : Int)))) else (Z57_j27 s9_16 y17_id3_3 x25 ((Z57_l15 a0 n15)) (decide (((x25.toNat : Nat) : Int) = (92 : Int))))) else (Z57_j7   y17_id3_3)
def Z57 (a0 : Bs) : Option Bs := (Z52 Strings_Builder.zero (34 : Int)).bind fun x6 => Z57_l15 a0 (a0.length + 1) 0 x6.2
theorem Z57_walk {a0 : Bs}   {r : Bs} (hE : Z57 a0 = some r) (H : Heap)  : ACalls Tryd.prog 42 [.d (.str a0)] H fun v h' => v = .a (.d (.str r)) ∧ h' = H := by
 unfold Z57 at hE
 refine ACalls.of_wp (fn := Tryd.f42) (c := _) Tryd.tab_ok (fun _ _ => Tryd.call42 _ _) Tryd.func42 rfl (n := 51) rfl (rs := [.tmp 2]) rfl rfl ?_
 refine seqK fun K1 hK1 => ?_
 refine region ?_
 refine s0 assignA rfl ?_
 refine nil ?_
 refine hK1 _ ?_
 clear hK1 K1
 refine seqK fun K2 hK2 => ?_
 refine region ?_
 refine AOps.tokE 1 5 fun tk3_4 htk3_4 => ?_
 refine sE (StepE.allocT (TK rfl) rfl) rfl (fun _ _ _ ⟨id3_3, hid3_3, e1, e2, e3⟩ => ?_); subst e1 e2 e3
 obtain ⟨ne_id3_3_tk3_4, hid3_3⟩ := Heap.set_fresh hid3_3
 refine AOps.recellT id3_3 _ hpG (fun j w cs hh hx => tok_cell 1 1 1 hh (t := tk3_4) hpG hx rfl) ?_
 refine AOps.heq (h' := ((H.set tk3_4 (some (.tok 1 0 (some 5)))).set id3_3 (some (.tcells 95 (Strings_Builder.cg id3_3 (some tk3_4) Strings_Builder.zero))))) (by first | rfl | (rw [Heap.set_set]; rfl) | (funext n_; simp only [Heap.set]; (repeat' split) <;> first | rfl | (exfalso; simp_all; done) | (simp_all; done))) ?_
 refine nil ?_
 refine hK2 _ ?_
 clear hK2 K2
 refine seqK fun K5 hK5 => ?_
 refine region ?_
 obtain ⟨x6, gx6, hE⟩ := bindO_some hE
 refine sH (callH rfl rfl (Z52_walk gx6 _ hpG hpG)) rfl ?_
 refine AOps.heq (h' := ((H.set tk3_4 (some (.tok 1 x6.2.Fbuf.l.length (some 5)))).set id3_3 (some (.tcells 95 (Strings_Builder.cg id3_3 (some tk3_4) x6.2))))) (by first | rfl | (rw [Heap.set_set]; rfl) | (funext n_; simp only [Heap.set]; (repeat' split) <;> first | rfl | (exfalso; simp_all; done) | (simp_all; done))) ?_
 refine nil ?_
 refine hK5 _ ?_
 clear hK5 K5
 refine seqJH (KeepsT.A (k := 3) KeepsT.nil) (fun (z : Strings_Builder) => []) (fun z => ((H.set tk3_4 (some (.tok 1 z.Fbuf.l.length (some 5)))).set id3_3 (some (.tcells 95 (Strings_Builder.cg id3_3 (some tk3_4) z))))) (fun z => Z57_j7 z = some r) ?_ ?_
 ·intro K7 hK7
  refine seqK fun K13 hK13 => ?_
  refine region ?_
  refine s0 moveA rfl ?_
  refine sLenS (TK rfl) rfl rfl rfl rfl fun hL14 => ?_
  refine s0 moveA rfl ?_
  refine nil ?_
  refine hK13 _ ?_
  clear hK13 K13
  refine block ?_
  refine loopH (KeepsT.A (k := 0) (KeepsT.A (k := 3) (KeepsT.A (k := 8) KeepsT.nil))) (fun (z : Nat × Nat × Strings_Builder) => [(9, .a (.d (.int .i64 ((z.2.1 : Nat) : Int))))]) (fun z => ((H.set tk3_4 (some (.tok 1 z.2.2.Fbuf.l.length (some 5)))).set id3_3 (some (.tcells 95 (Strings_Builder.cg id3_3 (some tk3_4) z.2.2))))) (fun z => z.1) (fun z => Z57_l15 a0 z.1 z.2.1 z.2.2 = some r) ((a0.length + 1), 0, x6.2) hE Weak.toA ?_
  rintro ⟨n15, s9_16, y17_id3_3⟩ hE K15 hK15
  try dsimp only at hE
  cases n15 with
  | zero => cases hE
  | succ n15 =>
    rw [Z57_l15] at hE
    refine seqK fun K18 hK18 => ?_
    refine region ?_
    refine s0 (binI rfl rfl rfl) rfl ?_
    refine nil ?_
    refine hK18 _ ?_
    clear hK18 K18
    refine seqK fun K19 hK19 => ?_
    refine condE hE rfl (fun hc20 hE => ?_) (fun hc20 hE => ?_)
    ·try dsimp only at hc20
     have hf20 := of_decide_eq_true hc20
     refine AWp.skip ?_
     refine hK19 _ ?_
     clear hK19 K19
     refine seqJH (KeepsT.A (k := 0) (KeepsT.A (k := 3) (KeepsT.A (k := 8) (KeepsT.A (k := 9) KeepsT.nil)))) (fun (z : Strings_Builder) => []) (fun z => ((H.set tk3_4 (some (.tok 1 z.Fbuf.l.length (some 5)))).set id3_3 (some (.tcells 95 (Strings_Builder.cg id3_3 (some tk3_4) z))))) (fun z => Z57_j21 s9_16 ((Z57_l15 a0 n15)) z = some r) ?_ ?_
     ·intro K21 hK21
      refine block ?_
      refine seqK fun K23 hK23 => ?_
      refine region ?_
      refine s0 moveA rfl ?_
      refine s0 assignA rfl ?_
      refine nil ?_
      refine hK23 _ ?_
      clear hK23 K23
      refine seqK fun K24 hK24 => ?_
      refine region ?_
      refine s0 moveA rfl ?_
      refine s0 moveA rfl ?_
      obtain ⟨x25, gx25, hE⟩ := bindO_some hE
      refine s0 (idxSn (n := s9_16) (TK rfl) rfl rfl rfl gx25) rfl ?_
      refine s0 assignA rfl ?_
      refine nil ?_
      refine hK24 _ ?_
      clear hK24 K24
      refine seqK fun K26 hK26 => ?_
      refine region ?_
      refine s0 moveA rfl ?_
      refine nil ?_
      refine hK26 _ ?_
      clear hK26 K26
      refine block ?_
      refine seqJH (KeepsT.A (k := 0) (KeepsT.A (k := 3) (KeepsT.A (k := 5) (KeepsT.A (k := 8) (KeepsT.A (k := 9) (KeepsT.A (k := 15) KeepsT.nil)))))) (fun (z : Bool) => [(33, .a (.d (.bool z)))]) (fun z => ((H.set tk3_4 (some (.tok 1 y17_id3_3.Fbuf.l.length (some 5)))).set id3_3 (some (.tcells 95 (Strings_Builder.cg id3_3 (some tk3_4) y17_id3_3))))) (fun z => Z57_j27 s9_16 y17_id3_3 x25 ((Z57_l15 a0 n15)) z = some r) ?_ ?_
      ·intro K27 hK27
       refine seqK fun K54 hK54 => ?_
       refine region ?_
       refine s0 (binI rfl rfl rfl) rfl ?_
       refine s0 assignA rfl ?_
       refine nil ?_
       refine hK54 _ ?_
       clear hK54 K54
       refine condE hE rfl (fun hc55 hE => ?_) (fun hc55 hE => ?_)
       ·refine AWp.skip ?_
        exact hK27 _ (decide (((x25.toNat : Nat) : Int) = (34 : Int))) Weak.toA hE
       refine region ?_
       refine s0 (binI rfl rfl rfl) rfl ?_
       refine s0 assignA rfl ?_
       refine nil ?_
       exact hK27 _ (decide (((x25.toNat : Nat) : Int) = (92 : Int))) Weak.toA hE
      rintro s33_28 hE
      try dsimp only at hE
      unfold Z57_j27 at hE
      refine condE hE rfl (fun hc29 hE => ?_) (fun hc29 hE => ?_)
      ·refine seqK fun K30 hK30 => ?_
       refine region ?_
       obtain ⟨x31, gx31, hE⟩ := bindO_some hE
       refine sH (callH rfl rfl (Z52_walk gx31 _ hpG hpG)) rfl ?_
       refine AOps.heq (h' := ((H.set tk3_4 (some (.tok 1 x31.2.Fbuf.l.length (some 5)))).set id3_3 (some (.tcells 95 (Strings_Builder.cg id3_3 (some tk3_4) x31.2))))) (by first | rfl | (rw [Heap.set_set]; rfl) | (funext n_; simp only [Heap.set]; (repeat' split) <;> first | rfl | (exfalso; simp_all; done) | (simp_all; done))) ?_
       refine nil ?_
       refine hK30 _ ?_
       clear hK30 K30
       refine region ?_
       refine s0 moveA rfl ?_
       obtain ⟨x32, gx32, hE⟩ := bindO_some hE
       refine sH (callH rfl rfl (Z52_walk gx32 _ hpG hpG)) rfl ?_
       refine AOps.heq (h' := ((H.set tk3_4 (some (.tok 1 x32.2.Fbuf.l.length (some 5)))).set id3_3 (some (.tcells 95 (Strings_Builder.cg id3_3 (some tk3_4) x32.2))))) (by first | rfl | (rw [Heap.set_set]; rfl) | (funext n_; simp only [Heap.set]; (repeat' split) <;> first | rfl | (exfalso; simp_all; done) | (simp_all; done))) ?_
       refine nil ?_
       exact hK21 _ x32.2 Weak.toA hE
      refine seqK fun K33 hK33 => ?_
      refine region ?_
      refine s0 (binI rfl rfl rfl) rfl ?_
      refine s0 assignA rfl ?_
      refine nil ?_
      refine hK33 _ ?_
      clear hK33 K33
      refine condE hE rfl (fun hc34 hE => ?_) (fun hc34 hE => ?_)
      ·refine region ?_
       obtain ⟨x35, gx35, hE⟩ := bindO_some hE
       refine sH (callH rfl rfl (Z53_walk gx35 _ hpG hpG)) rfl ?_
       refine AOps.heq (h' := ((H.set tk3_4 (some (.tok 1 x35.2.2.Fbuf.l.length (some 5)))).set id3_3 (some (.tcells 95 (Strings_Builder.cg id3_3 (some tk3_4) x35.2.2))))) (by first | rfl | (rw [Heap.set_set]; rfl) | (funext n_; simp only [Heap.set]; (repeat' split) <;> first | rfl | (exfalso; simp_all; done) | (simp_all; done))) ?_
       refine nil ?_
       exact hK21 _ x35.2.2 Weak.toA hE
      refine seqK fun K36 hK36 => ?_
      refine region ?_
      refine s0 (binI rfl rfl rfl) rfl ?_
      refine s0 assignA rfl ?_
      refine nil ?_
      refine hK36 _ ?_
      clear hK36 K36
      refine condE hE rfl (fun hc37 hE => ?_) (fun hc37 hE => ?_)
      ·refine region ?_
       obtain ⟨x38, gx38, hE⟩ := bindO_some hE
       refine sH (callH rfl rfl (Z53_walk gx38 _ hpG hpG)) rfl ?_
       refine AOps.heq (h' := ((H.set tk3_4 (some (.tok 1 x38.2.2.Fbuf.l.length (some 5)))).set id3_3 (some (.tcells 95 (Strings_Builder.cg id3_3 (some tk3_4) x38.2.2))))) (by first | rfl | (rw [Heap.set_set]; rfl) | (funext n_; simp only [Heap.set]; (repeat' split) <;> first | rfl | (exfalso; simp_all; done) | (simp_all; done))) ?_
       refine nil ?_
       exact hK21 _ x38.2.2 Weak.toA hE
      refine seqK fun K39 hK39 => ?_
      refine region ?_
      refine s0 (binI rfl rfl rfl) rfl ?_
      refine s0 assignA rfl ?_
      refine nil ?_
      refine hK39 _ ?_
      clear hK39 K39
      refine condE hE rfl (fun hc40 hE => ?_) (fun hc40 hE => ?_)
      ·refine region ?_
       obtain ⟨x41, gx41, hE⟩ := bindO_some hE
       refine sH (callH rfl rfl (Z53_walk gx41 _ hpG hpG)) rfl ?_
       refine AOps.heq (h' := ((H.set tk3_4 (some (.tok 1 x41.2.2.Fbuf.l.length (some 5)))).set id3_3 (some (.tcells 95 (Strings_Builder.cg id3_3 (some tk3_4) x41.2.2))))) (by first | rfl | (rw [Heap.set_set]; rfl) | (funext n_; simp only [Heap.set]; (repeat' split) <;> first | rfl | (exfalso; simp_all; done) | (simp_all; done))) ?_
       refine nil ?_
       exact hK21 _ x41.2.2 Weak.toA hE
      refine seqK fun K42 hK42 => ?_
      refine seqK fun K43 hK43 => ?_
      refine region ?_
      refine s0 moveA rfl ?_
      refine s0 (binI rfl rfl rfl) rfl ?_
      refine s0 moveA rfl ?_
      refine gC rfl rfl (fun hC => moveA) rfl ?_
      refine gC rfl rfl (fun hC => ungdA (k := 19) rfl (binI rfl rfl rfl)) rfl ?_
      refine s0 (pickAndA rfl rfl rfl) rfl ?_
      refine nil ?_
      refine hK43 _ ?_
      clear hK43 K43
      refine condE hE rfl (fun hc44 hE => ?_) (fun hc44 hE => ?_)
      ·refine seqK fun K45 hK45 => ?_
       refine region ?_
       refine s0 moveA rfl ?_
       obtain ⟨x46, gx46, hE⟩ := bindO_some hE
       refine sH (callH rfl rfl (Z52_walk gx46 _ hpG hpG)) rfl ?_
       refine AOps.heq (h' := ((H.set tk3_4 (some (.tok 1 x46.2.Fbuf.l.length (some 5)))).set id3_3 (some (.tcells 95 (Strings_Builder.cg id3_3 (some tk3_4) x46.2))))) (by first | rfl | (rw [Heap.set_set]; rfl) | (funext n_; simp only [Heap.set]; (repeat' split) <;> first | rfl | (exfalso; simp_all; done) | (simp_all; done))) ?_
       refine nil ?_
       refine hK45 _ ?_
       clear hK45 K45
       refine AWp.exit ?_
       exact hK21 _ x46.2 Weak.toA hE
      refine AWp.skip ?_
      refine hK42 _ ?_
      clear hK42 K42
      refine seqK fun K47 hK47 => ?_
      refine region ?_
      obtain ⟨x48, gx48, hE⟩ := bindO_some hE
      refine sH (callH rfl rfl (Z53_walk gx48 _ hpG hpG)) rfl ?_
      refine AOps.heq (h' := ((H.set tk3_4 (some (.tok 1 x48.2.2.Fbuf.l.length (some 5)))).set id3_3 (some (.tcells 95 (Strings_Builder.cg id3_3 (some tk3_4) x48.2.2))))) (by first | rfl | (rw [Heap.set_set]; rfl) | (funext n_; simp only [Heap.set]; (repeat' split) <;> first | rfl | (exfalso; simp_all; done) | (simp_all; done))) ?_
      refine nil ?_
      refine hK47 _ ?_
      clear hK47 K47
      refine seqK fun K49 hK49 => ?_
      refine region ?_
      refine s0 moveA rfl ?_
      refine s0 (shrI rfl rfl (by decide)) rfl ?_
      obtain ⟨x50, gx50, hE⟩ := bindO_some hE
      refine s0 (idxS (TK rfl) rfl rfl rfl gx50) rfl ?_
      obtain ⟨x51, gx51, hE⟩ := bindO_some hE
      refine sH (callH rfl rfl (Z52_walk gx51 _ hpG hpG)) rfl ?_
      refine AOps.heq (h' := ((H.set tk3_4 (some (.tok 1 x51.2.Fbuf.l.length (some 5)))).set id3_3 (some (.tcells 95 (Strings_Builder.cg id3_3 (some tk3_4) x51.2))))) (by first | rfl | (rw [Heap.set_set]; rfl) | (funext n_; simp only [Heap.set]; (repeat' split) <;> first | rfl | (exfalso; simp_all; done) | (simp_all; done))) ?_
      refine nil ?_
      refine hK49 _ ?_
      clear hK49 K49
      refine region ?_
      refine s0 moveA rfl ?_
      refine s0 (andI rfl rfl) rfl ?_
      obtain ⟨x52, gx52, hE⟩ := bindO_some hE
      refine s0 (idxS (TK rfl) rfl rfl rfl gx52) rfl ?_
      obtain ⟨x53, gx53, hE⟩ := bindO_some hE
      refine sH (callH rfl rfl (Z52_walk gx53 _ hpG hpG)) rfl ?_
      refine AOps.heq (h' := ((H.set tk3_4 (some (.tok 1 x53.2.Fbuf.l.length (some 5)))).set id3_3 (some (.tcells 95 (Strings_Builder.cg id3_3 (some tk3_4) x53.2))))) (by first | rfl | (rw [Heap.set_set]; rfl) | (funext n_; simp only [Heap.set]; (repeat' split) <;> first | rfl | (exfalso; simp_all; done) | (simp_all; done))) ?_
      refine nil ?_
      exact hK21 _ x53.2 Weak.toA hE
     rintro y22_id3_3 hE
     try dsimp only at hE
     unfold Z57_j21 at hE
     refine region ?_
     refine s0 (addIA rfl rfl) rfl ?_
     refine s0 moveA rfl ?_
     refine nil ?_
     exact hK15 _ (n15, (s9_16 + 1), y22_id3_3) Weak.toA hE (Nat.lt_succ_self _)
    refine AWp.exit ?_
    exact hK7 _ y17_id3_3 Weak.toA hE
 rintro y8_id3_3 hE
 try dsimp only at hE
 unfold Z57_j7 at hE
 refine seqK fun K9 hK9 => ?_
 refine region ?_
 obtain ⟨x10, gx10, hE⟩ := bindO_some hE
 refine sH (callH rfl rfl (Z52_walk gx10 _ hpG hpG)) rfl ?_
 refine AOps.heq (h' := ((H.set tk3_4 (some (.tok 1 x10.2.Fbuf.l.length (some 5)))).set id3_3 (some (.tcells 95 (Strings_Builder.cg id3_3 (some tk3_4) x10.2))))) (by first | rfl | (rw [Heap.set_set]; rfl) | (funext n_; simp only [Heap.set]; (repeat' split) <;> first | rfl | (exfalso; simp_all; done) | (simp_all; done))) ?_
 refine nil ?_
 refine hK9 _ ?_
 clear hK9 K9
 refine seqK fun K11 hK11 => ?_
 refine region ?_
 obtain ⟨x12, gx12, hE⟩ := bindO_some hE
 refine sH (callH rfl rfl (Z51_walk gx12 _ hpG hpG)) rfl ?_
 refine AOps.heq (h' := H) (by first | rfl | (rw [Heap.set_set]; rfl) | (funext n_; simp only [Heap.set]; (repeat' split) <;> first | rfl | (exfalso; simp_all; done) | (simp_all; done))) ?_
 refine s0 assignA rfl ?_
 refine nil ?_
 refine hK11 _ ?_
 clear hK11 K11
 refine AWp.ret ?_
 repeat (first | refine xBlock_ret ?_ | refine xThen_ret ?_)
 obtain rfl := Option.some.inj hE
 refine retQ.retF H rfl ⟨rfl, rfl⟩ ?_
 exact (fun _ _ h => h)
end Go.Proofs

namespace Go.Proofs
open Go Go.Ab
open AOps Cert AWp
variable {lou : Lou}
section
variable [IsLoud lou]
def Z15_j32  (s3_33 : (Sl Bs)) : Option Bs := (Z55 s3_33 ([44, 32] : Bs)).bind fun x35 => (catC ([91] : Bs) x35).bind fun x36 => (catC x36 ([93] : Bs)).bind fun x37 => some x37
def Z15_l40 (a0 : TValue) (k_rec_21 : TValue → Option Bs) : Nat → (Sl Bs) → Nat → Option Bs
 | 0, _, _ => none
 | n40 + 1, s3_41, s40_42 => bif (decide (((s40_42 : Nat) : Int) < ((a0.FItems.l.length : Nat) : Int))) then ((a0.FItems.l[s40_42]?).bind fun x48 => (k_rec_21 x48).bind fun x49 => (appC 16 s3_41 (⟨false, [x49]⟩ : Sl Bs)).bind fun x50 => (Z15_l40 a0 k_rec_21 n40) x50 (s40_42 + 1)) else (Z15_j32   s3_41)
def Z15_j53  (s3_54 : (Sl Bs)) : Option Bs := (Z55 s3_54 ([44, 32] : Bs)).bind fun x56 => (catC ([123] : Bs) x56).bind fun x57 => (catC x57 ([125] : Bs)).bind fun x58 => some x58
def Z15_l62 (a0 : TValue) (k_rec_21 : TValue → Option Bs) : Nat → (Sl Bs) → Int → Option Bs
 | 0, _, _ => none
 | n62 + 1, s3_63, s63_64 => bif (decide (s63_64 < (if ((a0.FItems.l.length : Nat) : Int) < ((a0.FKeys.l.length : Nat) : Int) then ((a0.FItems.l.length : Nat) : Int) else ((a0.FKeys.l.length : Nat) : Int)))) then ((idxC a0.FKeys.l s63_64).bind fun x70 => (catC x70 ([58, 32] : Bs)).bind fun x71 => (idxC a0.FItems.l s63_64).bind fun x72 => (k_rec_21 x72).bind fun x73 => (catC x71 x73).bind fun x74 => (appC 16 s3_63 (⟨false, [x74]⟩ : Sl Bs)).bind fun x75 => (addC s63_64 (1 : Int)).bind fun x76 => (Z15_l62 a0 k_rec_21 n62) x75 x76) else (Z15_j53   s3_63)
def Z15_n : Nat → TValue → Option Bs
 | 0, _ => none
 | n + 1, a0 => bif (decide (a0.FKind = (0 : Int))) then (some ([110, 117, 108, 108] : Bs)) else (bif (decide (a0.FKind = (1 : Int))) then (bif (decide (a0.FInt = (0 : Int))) then (some ([102, 97, 108, 115, 101] : Bs)) else (some ([116, 114, 117, 101] : Bs))) else (bif (decide (a0.FKind = (2 : Int))) then ((Z56 a0.FInt).bind fun x18 => some x18) else (bif (decide (a0.FKind = (3 : Int))) then ((Z57 a0.FText).bind fun x22 => some x22) else (bif (decide (a0.FKind = (4 : Int))) then (some a0.FText) else (bif (decide (a0.FKind = (7 : Int))) then ((catC ([36] : Bs) a0.FText).bind fun x29 => some x29) else (bif (decide (a0.FKind = (5 : Int))) then (Z15_l40 a0 (Z15_n n) (a0.FItems.l.length + 1) (Sl.nil : Sl Bs) 0) else (bif (decide (a0.FKind = (6 : Int))) then (Z15_l62 a0 (Z15_n n) F0 (Sl.nil : Sl Bs) (0 : Int)) else (some ([] : Bs)))))))))
theorem Z15_step (n : Nat) (ih_21 : ∀ {a0 : TValue} {oT : Ab.Obj} {gT : Nat} {r : Bs}, Z15_n n a0 = some r → ∀ (H : Heap) (hgT : H gT = some oT) (hoT : IsTab Tryd.prog oT), ACalls Tryd.prog 21 [.agg (TValue.c a0)] H fun v h' => v = .a (.d (.str r)) ∧ h' = H) : ∀ {a0 : TValue} {oT : Ab.Obj} {gT : Nat} {r : Bs}, Z15_n (n + 1) a0 = some r → ∀ (H : Heap) (hgT : H gT = some oT) (hoT : IsTab Tryd.prog oT), ACalls Tryd.prog 21 [.agg (TValue.c a0)] H fun v h' => v = .a (.d (.str r)) ∧ h' = H := by
 intro a0 oT gT r hE H hgT hoT
 rw [Z15_n] at hE
 refine ACalls.of_wp (fn := Tryd.f21) (c := _) Tryd.tab_ok (fun _ _ => Tryd.call21 _ _) Tryd.func21 rfl (n := 87) rfl (rs := [.tmp 2]) rfl rfl ?_
 refine AWp.tok 1 fun tk1 htk1 => ?_
 have ne_tk1_gT : tk1 ≠ gT := fun e_ => by subst e_; simp_all
 refine seqK fun K1 hK1 => ?_
 refine region ?_
 refine s0 (boxV rfl) rfl ?_
 refine s0 assignA rfl ?_
 refine nil ?_
 refine hK1 _ ?_
 clear hK1 K1
 refine seqK fun K2 hK2 => ?_
 refine region ?_
 refine s0 assignA rfl ?_
 refine nil ?_
 refine hK2 _ ?_
 clear hK2 K2
 refine AWp.nilTok 3 1 tk1 rfl hpG ?_
 refine seqK fun K3 hK3 => ?_
 refine seqK fun K4 hK4 => ?_
 refine region ?_
 refine s0 (fieldVA (TK rfl) rfl rfl (TK rfl) rfl rfl) rfl ?_
 refine s0 (loadV (TK rfl) rfl rfl rfl) rfl ?_
 refine nil ?_
 refine hK4 _ ?_
 clear hK4 K4
 refine block ?_
 refine seqK fun K5 hK5 => ?_
 refine region ?_
 refine s0 (binI rfl rfl rfl) rfl ?_
 refine s0 assignA rfl ?_
 refine nil ?_
 refine hK5 _ ?_
 clear hK5 K5
 refine condE hE rfl (fun hc6 hE => ?_) (fun hc6 hE => ?_)
 ·refine seqK fun K7 hK7 => ?_
  refine region ?_
  refine s0 assignA rfl ?_
  refine nil ?_
  refine hK7 _ ?_
  clear hK7 K7
  refine AWp.ret ?_
  repeat (first | refine xBlock_ret ?_ | refine xThen_ret ?_)
  obtain rfl := Option.some.inj hE
  refine retQ.retF H rfl ⟨rfl, rfl⟩ ?_
  first | exact Heap.sub_set htk1 | (simp only [Heap.set_set]; exact Heap.sub_set htk1)
 refine seqK fun K8 hK8 => ?_
 refine region ?_
 refine s0 (binI rfl rfl rfl) rfl ?_
 refine s0 assignA rfl ?_
 refine nil ?_
 refine hK8 _ ?_
 clear hK8 K8
 refine condE hE rfl (fun hc9 hE => ?_) (fun hc9 hE => ?_)
 ·refine seqK fun K10 hK10 => ?_
  refine seqK fun K11 hK11 => ?_
  refine region ?_
  refine s0 (fieldVA (TK rfl) rfl rfl (TK rfl) rfl rfl) rfl ?_
  refine s0 (loadV (TK rfl) rfl rfl rfl) rfl ?_
  refine s0 (binI rfl rfl rfl) rfl ?_
  refine nil ?_
  refine hK11 _ ?_
  clear hK11 K11
  refine condE hE rfl (fun hc12 hE => ?_) (fun hc12 hE => ?_)
  ·refine seqK fun K13 hK13 => ?_
   refine region ?_
   refine s0 assignA rfl ?_
   refine nil ?_
   refine hK13 _ ?_
   clear hK13 K13
   refine AWp.ret ?_
   repeat (first | refine xBlock_ret ?_ | refine xThen_ret ?_)
   obtain rfl := Option.some.inj hE
   refine retQ.retF H rfl ⟨rfl, rfl⟩ ?_
   first | exact Heap.sub_set htk1 | (simp only [Heap.set_set]; exact Heap.sub_set htk1)
  refine AWp.skip ?_
  refine hK10 _ ?_
  clear hK10 K10
  refine seqK fun K14 hK14 => ?_
  refine region ?_
  refine s0 assignA rfl ?_
  refine nil ?_
  refine hK14 _ ?_
  clear hK14 K14
  refine AWp.ret ?_
  repeat (first | refine xBlock_ret ?_ | refine xThen_ret ?_)
  obtain rfl := Option.some.inj hE
  refine retQ.retF H rfl ⟨rfl, rfl⟩ ?_
  first | exact Heap.sub_set htk1 | (simp only [Heap.set_set]; exact Heap.sub_set htk1)
 refine seqK fun K15 hK15 => ?_
 refine region ?_
 refine s0 (binI rfl rfl rfl) rfl ?_
 refine s0 assignA rfl ?_
 refine nil ?_
 refine hK15 _ ?_
 clear hK15 K15
 refine condE hE rfl (fun hc16 hE => ?_) (fun hc16 hE => ?_)
 ·refine seqK fun K17 hK17 => ?_
  refine region ?_
  refine s0 (fieldVA (TK rfl) rfl rfl (TK rfl) rfl rfl) rfl ?_
  refine s0 (loadV (TK rfl) rfl rfl rfl) rfl ?_
  obtain ⟨x18, gx18, hE⟩ := bindO_some hE
  refine s0 (callR rfl rfl (Z56_walk (gT := gT) (oT := oT) gx18 _ hpG (by assumption))) rfl ?_
  refine s0 assignA rfl ?_
  refine nil ?_
  refine hK17 _ ?_
  clear hK17 K17
  refine AWp.ret ?_
  repeat (first | refine xBlock_ret ?_ | refine xThen_ret ?_)
  obtain rfl := Option.some.inj hE
  refine retQ.retF H rfl ⟨rfl, rfl⟩ ?_
  first | exact Heap.sub_set htk1 | (simp only [Heap.set_set]; exact Heap.sub_set htk1)
 refine seqK fun K19 hK19 => ?_
 refine region ?_
 refine s0 (binI rfl rfl rfl) rfl ?_
 refine s0 assignA rfl ?_
 refine nil ?_
 refine hK19 _ ?_
 clear hK19 K19
 refine condE hE rfl (fun hc20 hE => ?_) (fun hc20 hE => ?_)
 ·refine seqK fun K21 hK21 => ?_
  refine region ?_
  refine s0 (fieldVA (TK rfl) rfl rfl (TK rfl) rfl rfl) rfl ?_
  refine s0 (loadV (TK rfl) rfl rfl rfl) rfl ?_
  obtain ⟨x22, gx22, hE⟩ := bindO_some hE
  refine s0 (callP rfl rfl (fun H => Z57_walk gx22 H)) rfl ?_
  refine s0 assignA rfl ?_
  refine nil ?_
  refine hK21 _ ?_
  clear hK21 K21
  refine AWp.ret ?_
  repeat (first | refine xBlock_ret ?_ | refine xThen_ret ?_)
  obtain rfl := Option.some.inj hE
  refine retQ.retF H rfl ⟨rfl, rfl⟩ ?_
  first | exact Heap.sub_set htk1 | (simp only [Heap.set_set]; exact Heap.sub_set htk1)
 refine seqK fun K23 hK23 => ?_
 refine region ?_
 refine s0 (binI rfl rfl rfl) rfl ?_
 refine s0 assignA rfl ?_
 refine nil ?_
 refine hK23 _ ?_
 clear hK23 K23
 refine condE hE rfl (fun hc24 hE => ?_) (fun hc24 hE => ?_)
 ·refine seqK fun K25 hK25 => ?_
  refine region ?_
  refine s0 (fieldVA (TK rfl) rfl rfl (TK rfl) rfl rfl) rfl ?_
  refine s0 (loadV (TK rfl) rfl rfl rfl) rfl ?_
  refine s0 assignA rfl ?_
  refine nil ?_
  refine hK25 _ ?_
  clear hK25 K25
  refine AWp.ret ?_
  repeat (first | refine xBlock_ret ?_ | refine xThen_ret ?_)
  obtain rfl := Option.some.inj hE
  refine retQ.retF H rfl ⟨rfl, rfl⟩ ?_
  first | exact Heap.sub_set htk1 | (simp only [Heap.set_set]; exact Heap.sub_set htk1)
 refine seqK fun K26 hK26 => ?_
 refine region ?_
 refine s0 (binI rfl rfl rfl) rfl ?_
 refine s0 assignA rfl ?_
 refine nil ?_
 refine hK26 _ ?_
 clear hK26 K26
 refine condE hE rfl (fun hc27 hE => ?_) (fun hc27 hE => ?_)
 ·refine seqK fun K28 hK28 => ?_
  refine region ?_
  refine s0 (fieldVA (TK rfl) rfl rfl (TK rfl) rfl rfl) rfl ?_
  refine s0 (loadV (TK rfl) rfl rfl rfl) rfl ?_
  obtain ⟨x29, gx29, hE⟩ := bindO_some hE
  refine s0 (catM rfl rfl gx29) rfl ?_
  refine s0 assignA rfl ?_
  refine nil ?_
  refine hK28 _ ?_
  clear hK28 K28
  refine AWp.ret ?_
  repeat (first | refine xBlock_ret ?_ | refine xThen_ret ?_)
  obtain rfl := Option.some.inj hE
  refine retQ.retF H rfl ⟨rfl, rfl⟩ ?_
  first | exact Heap.sub_set htk1 | (simp only [Heap.set_set]; exact Heap.sub_set htk1)
 refine seqK fun K30 hK30 => ?_
 refine region ?_
 refine s0 (binI rfl rfl rfl) rfl ?_
 refine s0 assignA rfl ?_
 refine nil ?_
 refine hK30 _ ?_
 clear hK30 K30
 refine condE hE rfl (fun hc31 hE => ?_) (fun hc31 hE => ?_)
 ·refine seqJH KeepsT.nil (fun (z : (Sl Bs)) => [(3, .a (.d (Sl.d 1 strE (some tk1) z)))]) (fun z => (H.set tk1 (some (.tok 1 z.l.length)))) (fun z => Z15_j32 z = some r) ?_ ?_
  ·intro K32 hK32
   refine seqK fun K38 hK38 => ?_
   refine region ?_
   refine s0 (fieldVA (TK rfl) rfl rfl (TK rfl) rfl rfl) rfl ?_
   refine s0 (loadV (TK rfl) rfl rfl (congrArg (fun x => some (A.d x)) (TValue.FItemsD_eq _))) rfl ?_
   refine sLen (f := TValue.c) (s := a0.FItems) (TK rfl) rfl rfl rfl rfl fun hL39 => ?_
   refine s0 moveA rfl ?_
   refine nil ?_
   refine hK38 _ ?_
   clear hK38 K38
   refine block ?_
   refine loopH (KeepsT.A (k := 38) (KeepsT.A (k := 39) KeepsT.nil)) (fun (z : Nat × (Sl Bs) × Nat) => [(3, .a (.d (Sl.d 1 strE (some tk1) z.2.1))), (40, .a (.d (.int .i64 ((z.2.2 : Nat) : Int))))]) (fun z => (H.set tk1 (some (.tok 1 z.2.1.l.length)))) (fun z => z.1) (fun z => Z15_l40 a0 (Z15_n n) z.1 z.2.1 z.2.2 = some r) ((a0.FItems.l.length + 1), (Sl.nil : Sl Bs), 0) hE Weak.toA ?_
   rintro ⟨n40, s3_41, s40_42⟩ hE K40 hK40
   try dsimp only at hE
   cases n40 with
   | zero => cases hE
   | succ n40 =>
     rw [Z15_l40] at hE
     refine seqK fun K43 hK43 => ?_
     refine region ?_
     refine s0 (binI rfl rfl rfl) rfl ?_
     refine nil ?_
     refine hK43 _ ?_
     clear hK43 K43
     refine seqK fun K44 hK44 => ?_
     refine condE hE rfl (fun hc45 hE => ?_) (fun hc45 hE => ?_)
     ·try dsimp only at hc45
      have hf45 := of_decide_eq_true hc45
      refine AWp.skip ?_
      refine hK44 _ ?_
      clear hK44 K44
      refine seqK fun K46 hK46 => ?_
      refine block ?_
      refine seqK fun K47 hK47 => ?_
      refine region ?_
      obtain ⟨x48, gx48, hE⟩ := bindO_some hE
      refine s0 (idxMn (f := TValue.c) (n := s40_42) (TK rfl) rfl (TK rfl) rfl rfl rfl gx48) rfl ?_
      refine s0 (loadV (TK rfl) rfl rfl rfl) rfl ?_
      refine sL (allocLA (TK rfl) rfl) rfl ?_
      refine sLn (storeLFA (TK rfl) rfl rfl rfl rfl rfl) ?_
      refine nil ?_
      refine hK47 _ ?_
      clear hK47 K47
      refine freezeA 5 _ rfl (Keeps.c (k := 3) (by conv => lhs; whnf) (by rfl) (Keeps.c (k := 38) (by conv => lhs; whnf) (by rfl) (Keeps.c (k := 39) (by conv => lhs; whnf) (by rfl) (Keeps.c (k := 40) (by conv => lhs; whnf) (by rfl) Keeps.nil)))) ?_
      refine region ?_
      refine s0 moveA rfl ?_
      refine s0 (loadV (TK rfl) rfl rfl rfl) rfl ?_
      obtain ⟨x49, gx49, hE⟩ := bindO_some hE
      refine s0 (callR rfl rfl (ih_21 (gT := gT) (oT := oT) gx49 _ hpG (by assumption))) rfl ?_
      refine s0 (buildSlice (TK rfl) rfl (TK rfl) rfl rfl rfl rfl rfl rfl) rfl ?_
      obtain ⟨x50, gx50, hE⟩ := bindO_some hE
      refine sH (appM (f := strE) (TK rfl) rfl (TK rfl) (TK rfl) ⟨_, rfl⟩ rfl rfl (by decide) rfl rfl rfl rfl hpG rfl gx50) rfl ?_
      refine AOps.heq (h' := (H.set tk1 (some (.tok 1 x50.l.length)))) (by first | rfl | (rw [Heap.set_set]; rfl) | (funext n_; simp only [Heap.set]; (repeat' split) <;> first | rfl | (exfalso; simp_all; done) | (simp_all; done))) ?_
      refine s0 assignA rfl ?_
      refine nil ?_
      refine hK46 _ ?_
      clear hK46 K46
      refine region ?_
      refine s0 (addIA rfl rfl) rfl ?_
      refine s0 moveA rfl ?_
      refine nil ?_
      exact hK40 _ (n40, x50, (s40_42 + 1)) Weak.toA hE (Nat.lt_succ_self _)
     refine AWp.exit ?_
     exact hK32 _ s3_41 Weak.toA hE
  rintro s3_33 hE
  try dsimp only at hE
  unfold Z15_j32 at hE
  refine seqK fun K34 hK34 => ?_
  refine region ?_
  refine s0 moveA rfl ?_
  obtain ⟨x35, gx35, hE⟩ := bindO_some hE
  refine s0 (callP rfl rfl (fun H => Z55_walk gx35 H)) rfl ?_
  obtain ⟨x36, gx36, hE⟩ := bindO_some hE
  refine s0 (catM rfl rfl gx36) rfl ?_
  obtain ⟨x37, gx37, hE⟩ := bindO_some hE
  refine s0 (catM rfl rfl gx37) rfl ?_
  refine s0 assignA rfl ?_
  refine nil ?_
  refine hK34 _ ?_
  clear hK34 K34
  refine AWp.ret ?_
  repeat (first | refine xBlock_ret ?_ | refine xThen_ret ?_)
  obtain rfl := Option.some.inj hE
  refine retQ.retF H rfl ⟨rfl, rfl⟩ ?_
  first | exact Heap.sub_set htk1 | (simp only [Heap.set_set]; exact Heap.sub_set htk1)
 refine seqK fun K51 hK51 => ?_
 refine region ?_
 refine s0 (binI rfl rfl rfl) rfl ?_
 refine s0 assignA rfl ?_
 refine nil ?_
 refine hK51 _ ?_
 clear hK51 K51
 refine condE hE rfl (fun hc52 hE => ?_) (fun hc52 hE => ?_)
 ·refine seqJH KeepsT.nil (fun (z : (Sl Bs)) => [(3, .a (.d (Sl.d 1 strE (some tk1) z)))]) (fun z => (H.set tk1 (some (.tok 1 z.l.length)))) (fun z => Z15_j53 z = some r) ?_ ?_
  ·intro K53 hK53
   refine seqK fun K59 hK59 => ?_
   refine region ?_
   refine s0 (fieldVA (TK rfl) rfl rfl (TK rfl) rfl rfl) rfl ?_
   refine s0 (loadV (TK rfl) rfl rfl rfl) rfl ?_
   refine sLen (f := strE) (s := a0.FKeys) (TK rfl) rfl rfl rfl rfl fun hL60 => ?_
   refine s0 (fieldVA (TK rfl) rfl rfl (TK rfl) rfl rfl) rfl ?_
   refine s0 (loadV (TK rfl) rfl rfl (congrArg (fun x => some (A.d x)) (TValue.FItemsD_eq _))) rfl ?_
   refine sLen (f := TValue.c) (s := a0.FItems) (TK rfl) rfl rfl rfl rfl fun hL61 => ?_
   refine s0 (minM rfl rfl) rfl ?_
   refine s0 moveA rfl ?_
   refine nil ?_
   refine hK59 _ ?_
   clear hK59 K59
   refine block ?_
   refine loopH (KeepsT.A (k := 1) (KeepsT.A (k := 62) KeepsT.nil)) (fun (z : Nat × (Sl Bs) × Int) => [(3, .a (.d (Sl.d 1 strE (some tk1) z.2.1))), (63, .a (.d (.int .i64 z.2.2)))]) (fun z => (H.set tk1 (some (.tok 1 z.2.1.l.length)))) (fun z => z.1) (fun z => Z15_l62 a0 (Z15_n n) z.1 z.2.1 z.2.2 = some r) (F0, (Sl.nil : Sl Bs), (0 : Int)) hE Weak.toA ?_
   rintro ⟨n62, s3_63, s63_64⟩ hE K62 hK62
   try dsimp only at hE
   cases n62 with
   | zero => cases hE
   | succ n62 =>
     rw [Z15_l62] at hE
     refine seqK fun K65 hK65 => ?_
     refine region ?_
     refine s0 (binI rfl rfl rfl) rfl ?_
     refine nil ?_
     refine hK65 _ ?_
     clear hK65 K65
     refine seqK fun K66 hK66 => ?_
     refine condE hE rfl (fun hc67 hE => ?_) (fun hc67 hE => ?_)
     ·refine AWp.skip ?_
      refine hK66 _ ?_
      clear hK66 K66
      refine seqK fun K68 hK68 => ?_
      refine block ?_
      refine seqK fun K69 hK69 => ?_
      refine region ?_
      refine s0 moveA rfl ?_
      refine s0 assignA rfl ?_
      refine nil ?_
      refine hK69 _ ?_
      clear hK69 K69
      refine AWp.draw rfl ?_
      refine DOps.s0 moveA rfl ?_
      refine DOps.s0 (fieldVA (TK rfl) rfl rfl (TK rfl) rfl rfl) rfl ?_
      refine DOps.s0 (loadV (TK rfl) rfl rfl rfl) rfl ?_
      refine DOps.s0 moveA rfl ?_
      obtain ⟨x70, gx70, hE⟩ := bindO_some hE
      refine DOps.s0 (idxM (f := strE) (TK rfl) rfl (TK rfl) rfl rfl rfl gx70) rfl ?_
      refine DOps.s0 (loadV (TK rfl) rfl rfl rfl) rfl ?_
      obtain ⟨x71, gx71, hE⟩ := bindO_some hE
      refine DOps.s0 (catM rfl rfl gx71) rfl ?_
      refine DOps.s0 (fieldVA (TK rfl) rfl rfl (TK rfl) rfl rfl) rfl ?_
      refine DOps.s0 (loadV (TK rfl) rfl rfl (congrArg (fun x => some (A.d x)) (TValue.FItemsD_eq _))) rfl ?_
      refine DOps.s0 moveA rfl ?_
      obtain ⟨x72, gx72, hE⟩ := bindO_some hE
      refine DOps.s0 (idxM (f := TValue.c) (TK rfl) rfl (TK rfl) rfl rfl rfl gx72) rfl ?_
      refine DOps.s0 (loadV (TK rfl) rfl rfl rfl) rfl ?_
      obtain ⟨x73, gx73, hE⟩ := bindO_some hE
      refine DOps.s0 (callR rfl rfl (ih_21 (gT := gT) (oT := oT) gx73 _ hpG (by assumption))) rfl ?_
      obtain ⟨x74, gx74, hE⟩ := bindO_some hE
      refine DOps.s0 (catM rfl rfl gx74) rfl ?_
      refine DOps.s0 (buildSlice (TK rfl) rfl (TK rfl) rfl rfl rfl rfl rfl rfl) rfl ?_
      obtain ⟨x75, gx75, hE⟩ := bindO_some hE
      refine DOps.sH (appM (f := strE) (TK rfl) rfl (TK rfl) (TK rfl) ⟨_, rfl⟩ rfl rfl (by decide) rfl rfl rfl rfl hpG rfl gx75) rfl ?_
      refine DOps.heq (h' := (H.set tk1 (some (.tok 1 x75.l.length)))) (by first | rfl | (rw [Heap.set_set]; rfl) | (funext n_; simp only [Heap.set]; (repeat' split) <;> first | rfl | (exfalso; simp_all; done) | (simp_all; done))) ?_
      refine DOps.s0 assignA rfl ?_
      refine DOps.nil (by decide +kernel) ?_
      refine hK68 _ ?_
      clear hK68 K68
      refine region ?_
      obtain ⟨x76, gx76, hE⟩ := bindO_some hE
      refine s0 (addM rfl rfl gx76) rfl ?_
      refine s0 moveA rfl ?_
      refine nil ?_
      exact hK62 _ (n62, x75, x76) Weak.toA hE (Nat.lt_succ_self _)
     refine AWp.exit ?_
     exact hK53 _ s3_63 Weak.toA hE
  rintro s3_54 hE
  try dsimp only at hE
  unfold Z15_j53 at hE
  refine seqK fun K55 hK55 => ?_
  refine region ?_
  refine s0 moveA rfl ?_
  obtain ⟨x56, gx56, hE⟩ := bindO_some hE
  refine s0 (callP rfl rfl (fun H => Z55_walk gx56 H)) rfl ?_
  obtain ⟨x57, gx57, hE⟩ := bindO_some hE
  refine s0 (catM rfl rfl gx57) rfl ?_
  obtain ⟨x58, gx58, hE⟩ := bindO_some hE
  refine s0 (catM rfl rfl gx58) rfl ?_
  refine s0 assignA rfl ?_
  refine nil ?_
  refine hK55 _ ?_
  clear hK55 K55
  refine AWp.ret ?_
  repeat (first | refine xBlock_ret ?_ | refine xThen_ret ?_)
  obtain rfl := Option.some.inj hE
  refine retQ.retF H rfl ⟨rfl, rfl⟩ ?_
  first | exact Heap.sub_set htk1 | (simp only [Heap.set_set]; exact Heap.sub_set htk1)
 refine AWp.skip ?_
 refine hK3 _ ?_
 clear hK3 K3
 refine seqK fun K77 hK77 => ?_
 refine region ?_
 refine s0 assignA rfl ?_
 refine nil ?_
 refine hK77 _ ?_
 clear hK77 K77
 refine AWp.ret ?_
 repeat (first | refine xBlock_ret ?_ | refine xThen_ret ?_)
 obtain rfl := Option.some.inj hE
 refine retQ.retF H rfl ⟨rfl, rfl⟩ ?_
 first | exact Heap.sub_set htk1 | (simp only [Heap.set_set]; exact Heap.sub_set htk1)
theorem Z15_all : ∀ (n : Nat), (∀ {a0 : TValue} {oT : Ab.Obj} {gT : Nat} {r : Bs}, Z15_n n a0 = some r → ∀ (H : Heap) (hgT : H gT = some oT) (hoT : IsTab Tryd.prog oT), ACalls Tryd.prog 21 [.agg (TValue.c a0)] H fun v h' => v = .a (.d (.str r)) ∧ h' = H)
 | 0 => fun hE => by first | cases hE | (rw [Z15_n] at hE; cases hE)
 | n + 1 => Z15_step n (Z15_all n)
def Z15 (a0 : TValue) : Option Bs := Z15_n F0 a0
theorem Z15_walk {a0 : TValue} {oT : Ab.Obj} {gT : Nat} {r : Bs} (hE : Z15 a0 = some r) (H : Heap) (hgT : H gT = some oT) (hoT : IsTab Tryd.prog oT) : ACalls Tryd.prog 21 [.agg (TValue.c a0)] H fun v h' => v = .a (.d (.str r)) ∧ h' = H := (Z15_all F0) hE H hgT hoT
end
section
variable [IsLoud lou]
def Z3_j3  (s3_4 : (Sl Bs)) : Option Bs := (Z55 s3_4 ([44, 32] : Bs)).bind fun x6 => some x6
def Z3_l9 (a0 : (Sl TArg))  : Nat → (Sl Bs) → Nat → Option Bs
 | 0, _, _ => none
 | n9 + 1, s3_10, s8_11 => bif (decide (((s8_11 : Nat) : Int) < ((a0.l.length : Nat) : Int))) then ((a0.l[s8_11]?).bind fun x17 => (catC x17.FName ([58, 32] : Bs)).bind fun x18 => (Z15 x17.FValue).bind fun x19 => (catC x18 x19).bind fun x20 => (appC 16 s3_10 (⟨false, [x20]⟩ : Sl Bs)).bind fun x21 => (Z3_l9 a0 n9) x21 (s8_11 + 1)) else (Z3_j3   s3_10)
def Z3 (a0 : (Sl TArg)) : Option Bs := Z3_l9 a0 (a0.l.length + 1) (Sl.nil : Sl Bs) 0
theorem Z3_walk {a0 : (Sl TArg)} {w0 : Option Nat} {oT : Ab.Obj} {gT : Nat} {r : Bs} (hE : Z3 a0 = some r) (H : Heap) (hgT : H gT = some oT) (hoT : IsTab Tryd.prog oT) : ACalls Tryd.prog 9 [.d (Sl.d 6 TArg.c w0 a0)] H fun v h' => v = .a (.d (.str r)) ∧ h' = H := by
 unfold Z3 at hE
 refine ACalls.of_wp (fn := Tryd.f9) (c := _) Tryd.tab_ok (fun _ _ => Tryd.call9 _ _) Tryd.func9 rfl (n := 25) rfl (rs := [.tmp 2]) rfl rfl ?_
 refine AWp.tok 1 fun tk1 htk1 => ?_
 have ne_tk1_gT : tk1 ≠ gT := fun e_ => by subst e_; simp_all
 refine seqK fun K1 hK1 => ?_
 refine region ?_
 refine s0 assignA rfl ?_
 refine nil ?_
 refine hK1 _ ?_
 clear hK1 K1
 refine seqK fun K2 hK2 => ?_
 refine region ?_
 refine s0 assignA rfl ?_
 refine nil ?_
 refine hK2 _ ?_
 clear hK2 K2
 refine AWp.nilTok 3 1 tk1 rfl hpG ?_
 refine seqJH KeepsT.nil (fun (z : (Sl Bs)) => [(3, .a (.d (Sl.d 1 strE (some tk1) z)))]) (fun z => (H.set tk1 (some (.tok 1 z.l.length)))) (fun z => Z3_j3 z = some r) ?_ ?_
 ·intro K3 hK3
  refine seqK fun K7 hK7 => ?_
  refine region ?_
  refine s0 moveA rfl ?_
  refine sLen (f := TArg.c) (s := a0) (TK rfl) rfl rfl rfl rfl fun hL8 => ?_
  refine s0 moveA rfl ?_
  refine nil ?_
  refine hK7 _ ?_
  clear hK7 K7
  refine block ?_
  refine loopH (KeepsT.A (k := 6) (KeepsT.A (k := 7) KeepsT.nil)) (fun (z : Nat × (Sl Bs) × Nat) => [(3, .a (.d (Sl.d 1 strE (some tk1) z.2.1))), (8, .a (.d (.int .i64 ((z.2.2 : Nat) : Int))))]) (fun z => (H.set tk1 (some (.tok 1 z.2.1.l.length)))) (fun z => z.1) (fun z => Z3_l9 a0 z.1 z.2.1 z.2.2 = some r) ((a0.l.length + 1), (Sl.nil : Sl Bs), 0) hE Weak.toA ?_
  rintro ⟨n9, s3_10, s8_11⟩ hE K9 hK9
  try dsimp only at hE
  cases n9 with
  | zero => cases hE
  | succ n9 =>
    rw [Z3_l9] at hE
    refine seqK fun K12 hK12 => ?_
    refine region ?_
    refine s0 (binI rfl rfl rfl) rfl ?_
    refine nil ?_
    refine hK12 _ ?_
    clear hK12 K12
    refine seqK fun K13 hK13 => ?_
    refine condE hE rfl (fun hc14 hE => ?_) (fun hc14 hE => ?_)
    ·try dsimp only at hc14
     have hf14 := of_decide_eq_true hc14
     refine AWp.skip ?_
     refine hK13 _ ?_
     clear hK13 K13
     refine seqK fun K15 hK15 => ?_
     refine block ?_
     refine seqK fun K16 hK16 => ?_
     refine region ?_
     obtain ⟨x17, gx17, hE⟩ := bindO_some hE
     refine s0 (idxMn (f := TArg.c) (n := s8_11) (TK rfl) rfl (TK rfl) rfl rfl rfl gx17) rfl ?_
     refine s0 (loadV (TK rfl) rfl rfl rfl) rfl ?_
     refine sL (allocLA (TK rfl) rfl) rfl ?_
     refine sLn (storeLFA (TK rfl) rfl rfl rfl rfl rfl) ?_
     refine nil ?_
     refine hK16 _ ?_
     clear hK16 K16
     refine freezeA 5 _ rfl (Keeps.c (k := 3) (by conv => lhs; whnf) (by rfl) (Keeps.c (k := 6) (by conv => lhs; whnf) (by rfl) (Keeps.c (k := 7) (by conv => lhs; whnf) (by rfl) (Keeps.c (k := 8) (by conv => lhs; whnf) (by rfl) Keeps.nil)))) ?_
     refine AWp.draw rfl ?_
     refine DOps.s0 moveA rfl ?_
     refine DOps.s0 (fieldVA (TK rfl) rfl rfl (TK rfl) rfl rfl) rfl ?_
     refine DOps.s0 (loadV (TK rfl) rfl rfl rfl) rfl ?_
     obtain ⟨x18, gx18, hE⟩ := bindO_some hE
     refine DOps.s0 (catM rfl rfl gx18) rfl ?_
     refine DOps.s0 (fieldVA (TK rfl) rfl rfl (TK rfl) rfl rfl) rfl ?_
     refine DOps.s0 (loadV (TK rfl) rfl rfl rfl) rfl ?_
     obtain ⟨x19, gx19, hE⟩ := bindO_some hE
     refine DOps.s0 (callR rfl rfl (Z15_walk (gT := gT) (oT := oT) gx19 _ hpG (by assumption))) rfl ?_
     obtain ⟨x20, gx20, hE⟩ := bindO_some hE
     refine DOps.s0 (catM rfl rfl gx20) rfl ?_
     refine DOps.s0 (buildSlice (TK rfl) rfl (TK rfl) rfl rfl rfl rfl rfl rfl) rfl ?_
     obtain ⟨x21, gx21, hE⟩ := bindO_some hE
     refine DOps.sH (appM (f := strE) (TK rfl) rfl (TK rfl) (TK rfl) ⟨_, rfl⟩ rfl rfl (by decide) rfl rfl rfl rfl hpG rfl gx21) rfl ?_
     refine DOps.heq (h' := (H.set tk1 (some (.tok 1 x21.l.length)))) (by first | rfl | (rw [Heap.set_set]; rfl) | (funext n_; simp only [Heap.set]; (repeat' split) <;> first | rfl | (exfalso; simp_all; done) | (simp_all; done))) ?_
     refine DOps.s0 assignA rfl ?_
     refine DOps.nil (by decide +kernel) ?_
     refine hK15 _ ?_
     clear hK15 K15
     refine region ?_
     refine s0 (addIA rfl rfl) rfl ?_
     refine s0 moveA rfl ?_
     refine nil ?_
     exact hK9 _ (n9, x21, (s8_11 + 1)) Weak.toA hE (Nat.lt_succ_self _)
    refine AWp.exit ?_
    exact hK3 _ s3_10 Weak.toA hE
 rintro s3_4 hE
 try dsimp only at hE
 unfold Z3_j3 at hE
 refine seqK fun K5 hK5 => ?_
 refine region ?_
 refine s0 moveA rfl ?_
 obtain ⟨x6, gx6, hE⟩ := bindO_some hE
 refine s0 (callP rfl rfl (fun H => Z55_walk gx6 H)) rfl ?_
 refine s0 assignA rfl ?_
 refine nil ?_
 refine hK5 _ ?_
 clear hK5 K5
 refine AWp.ret ?_
 repeat (first | refine xBlock_ret ?_ | refine xThen_ret ?_)
 obtain rfl := Option.some.inj hE
 refine retQ.retF H rfl ⟨rfl, rfl⟩ ?_
 first | exact Heap.sub_set htk1 | (simp only [Heap.set_set]; exact Heap.sub_set htk1)
end
def Z44 (a0 : (Sl Bs)) : Option (Sl Bs) := bif a0.nl then (some (Sl.nil : Sl Bs)) else ((appC 16 (⟨false, []⟩ : Sl Bs) a0).bind fun x7 => some x7)
theorem Z44_walk {a0 : (Sl Bs)} {w0 : Option Nat}  {r : (Sl Bs)} (hE : Z44 a0 = some r) (H : Heap)  : ACalls Tryd.prog 81 [.d (Sl.d 1 strE w0 a0)] H fun v h' => v = .a (.d (Sl.d 1 strE none r)) ∧ h' = H := by
 unfold Z44 at hE
 refine ACalls.of_wp (fn := Tryd.f81) (c := _) Tryd.tab_ok (fun _ _ => Tryd.call81 _ _) Tryd.func81 rfl (n := 8) rfl (rs := [.tmp 2]) rfl rfl ?_
 refine seqK fun K1 hK1 => ?_
 refine region ?_
 refine s0 (assignNil (k' := 1) rfl) rfl ?_
 refine nil ?_
 refine hK1 _ ?_
 clear hK1 K1
 refine seqK fun K2 hK2 => ?_
 refine seqK fun K3 hK3 => ?_
 refine region ?_
 refine s0 moveA rfl ?_
 refine s0 (eqNil (TK rfl) rfl rfl) rfl ?_
 refine nil ?_
 refine hK3 _ ?_
 clear hK3 K3
 refine condE hE rfl (fun hc4 hE => ?_) (fun hc4 hE => ?_)
 ·refine seqK fun K5 hK5 => ?_
  refine region ?_
  refine s0 (assignNil (k' := 1) rfl) rfl ?_
  refine nil ?_
  refine hK5 _ ?_
  clear hK5 K5
  refine AWp.ret ?_
  repeat (first | refine xBlock_ret ?_ | refine xThen_ret ?_)
  obtain rfl := Option.some.inj hE
  refine retQ.retF H rfl ⟨rfl, rfl⟩ ?_
  exact (fun _ _ h => h)
 refine AWp.skip ?_
 refine hK2 _ ?_
 clear hK2 K2
 refine seqK fun K6 hK6 => ?_
 refine region ?_
 refine s0 (buildSliceF (TK rfl) rfl (TK rfl) rfl rfl rfl rfl rfl rfl) rfl ?_
 refine s0 moveA rfl ?_
 obtain ⟨x7, gx7, hE⟩ := bindO_some hE
 refine s0 (appFM (f := strE) (TK rfl) rfl (TK rfl) (TK rfl) ⟨_, rfl⟩ rfl rfl (by decide) rfl rfl rfl (by intro q h; cases h <;> decide) rfl rfl gx7) rfl ?_
 refine s0 assignA rfl ?_
 refine nil ?_
 refine hK6 _ ?_
 clear hK6 K6
 refine AWp.ret ?_
 repeat (first | refine xBlock_ret ?_ | refine xThen_ret ?_)
 obtain rfl := Option.some.inj hE
 refine retQ.retF H rfl ⟨rfl, rfl⟩ ?_
 exact (fun _ _ h => h)
def Z64_j3  (s3_4 : (Sl TValue)) : Option (Sl TValue) := some s3_4
def Z64_l8 (a0 : (Sl TValue)) (k_rec_53 : TValue → Option TValue) : Nat → (Sl TValue) → Nat → Option (Sl TValue)
 | 0, _, _ => none
 | n8 + 1, s3_9, s8_10 => bif (decide (((s8_10 : Nat) : Int) < ((a0.l.length : Nat) : Int))) then ((a0.l[s8_10]?).bind fun x16 => (k_rec_53 x16).bind fun x17 => (appC 80 s3_9 (⟨false, [x17]⟩ : Sl TValue)).bind fun x18 => (Z64_l8 a0 k_rec_53 n8) x18 (s8_10 + 1)) else (Z64_j3   s3_9)
mutual
def value_Copy_n : Nat → TValue → Option TValue
 | 0, _ => none
 | n + 1, a0 => ((Z64_n n) a0.FItems).bind fun x3 => (Z44 a0.FKeys).bind fun x5 => some (TValue.mk a0.FKind a0.FInt a0.FText x3.nl x3.l x5)
def Z64_n : Nat → (Sl TValue) → Option (Sl TValue)
 | 0, _ => none
 | n + 1, a0 => Z64_l8 a0 (value_Copy_n n) (a0.l.length + 1) (Sl.nil : Sl TValue) 0
end
theorem value_Copy_step (n : Nat) (ih_53 : ∀ {a0 : TValue}   {r : TValue}, value_Copy_n n a0 = some r → ∀ (H : Heap), ACalls Tryd.prog 53 [.agg (TValue.c a0)] H fun v h' => v = .a (.agg (TValue.c r)) ∧ h' = H) (ih_80 : ∀ {a0 : (Sl TValue)} {w0 : Option Nat}  {r : (Sl TValue)}, Z64_n n a0 = some r → ∀ (H : Heap), ACalls Tryd.prog 80 [.d (Sl.d 5 TValue.c w0 a0)] H fun v h' => v = .a (.d (Sl.d 5 TValue.c none r)) ∧ h' = H) : ∀ {a0 : TValue}   {r : TValue}, value_Copy_n (n + 1) a0 = some r → ∀ (H : Heap), ACalls Tryd.prog 53 [.agg (TValue.c a0)] H fun v h' => v = .a (.agg (TValue.c r)) ∧ h' = H := by
 intro a0   r hE H 
 rw [value_Copy_n] at hE
 refine ACalls.of_wp (fn := Tryd.f53) (c := _) Tryd.tab_ok (fun _ _ => Tryd.call53 _ _) Tryd.func53 rfl (n := 12) rfl (rs := [.cell 2 27]) rfl rfl ?_
 refine seqK fun K1 hK1 => ?_
 refine region ?_
 refine sL (boxL rfl (by repeat (first | exact Snoc.nil | apply Snoc.cons))) rfl ?_
 refine sL (allocLA (TK rfl) rfl) rfl ?_
 refine nil ?_
 refine hK1 _ ?_
 clear hK1 K1
 refine seqK fun K2 hK2 => ?_
 refine region ?_
 refine s0 (fieldL (TK rfl) rfl rfl (TK rfl) rfl rfl) rfl ?_
 refine AOps.relocal 0 (TValue.cu a0) rfl (fun j w cs hh hx => by rw [← TValue.cu_eq]; exact hx) ?_
 refine s0 (loadL (TK rfl) rfl rfl rfl rfl) rfl ?_
 obtain ⟨x3, gx3, hE⟩ := bindO_some hE
 refine s0 (callP rfl rfl (fun H => ih_80 gx3 H)) rfl ?_
 refine s0 (fieldL (TK rfl) rfl rfl (TK rfl) rfl rfl) rfl ?_
 refine sLn (storeL1 (TK rfl) rfl rfl rfl rfl (by repeat (first | exact SetAt.zero | apply SetAt.succ)) (by repeat (first | exact SetAt.zero | apply SetAt.succ))) ?_
 refine AOps.relocal 0 (TValue.c (TValue.mk a0.FKind a0.FInt a0.FText x3.nl x3.l a0.FKeys)) rfl (fun j w cs hh hx => by rw [TValue.cu_eq]; exact hx) ?_
 refine nil ?_
 refine hK2 _ ?_
 clear hK2 K2
 refine seqK fun K4 hK4 => ?_
 refine region ?_
 refine s0 (fieldL (TK rfl) rfl rfl (TK rfl) rfl rfl) rfl ?_
 refine s0 (loadL (TK rfl) rfl rfl rfl rfl) rfl ?_
 obtain ⟨x5, gx5, hE⟩ := bindO_some hE
 refine s0 (callP rfl rfl (fun H => Z44_walk gx5 H)) rfl ?_
 refine s0 (fieldL (TK rfl) rfl rfl (TK rfl) rfl rfl) rfl ?_
 refine AOps.relocal 0 (TValue.cu (TValue.mk a0.FKind a0.FInt a0.FText x3.nl x3.l a0.FKeys)) rfl (fun j w cs hh hx => by rw [← TValue.cu_eq]; exact hx) ?_
 refine sLn (storeL1 (TK rfl) rfl rfl rfl rfl (by repeat (first | exact SetAt.zero | apply SetAt.succ)) (by repeat (first | exact SetAt.zero | apply SetAt.succ))) ?_
 refine AOps.relocal 0 (TValue.c (TValue.mk a0.FKind a0.FInt a0.FText x3.nl x3.l x5)) rfl (fun j w cs hh hx => by rw [TValue.cu_eq]; exact hx) ?_
 refine nil ?_
 refine hK4 _ ?_
 clear hK4 K4
 refine seqK fun K6 hK6 => ?_
 refine region ?_
 refine s0 (loadL (TK rfl) rfl rfl rfl rfl) rfl ?_
 refine sLn (storeLFA (TK rfl) rfl rfl rfl rfl rfl) ?_
 refine nil ?_
 refine hK6 _ ?_
 clear hK6 K6
 refine AWp.ret ?_
 repeat (first | refine xBlock_ret ?_ | refine xThen_ret ?_)
 obtain rfl := Option.some.inj hE
 refine retQ.retF H rfl ⟨rfl, rfl⟩ ?_
 exact (fun _ _ h => h)
theorem Z64_step (n : Nat) (ih_53 : ∀ {a0 : TValue}   {r : TValue}, value_Copy_n n a0 = some r → ∀ (H : Heap), ACalls Tryd.prog 53 [.agg (TValue.c a0)] H fun v h' => v = .a (.agg (TValue.c r)) ∧ h' = H) (ih_80 : ∀ {a0 : (Sl TValue)} {w0 : Option Nat}  {r : (Sl TValue)}, Z64_n n a0 = some r → ∀ (H : Heap), ACalls Tryd.prog 80 [.d (Sl.d 5 TValue.c w0 a0)] H fun v h' => v = .a (.d (Sl.d 5 TValue.c none r)) ∧ h' = H) : ∀ {a0 : (Sl TValue)} {w0 : Option Nat}  {r : (Sl TValue)}, Z64_n (n + 1) a0 = some r → ∀ (H : Heap), ACalls Tryd.prog 80 [.d (Sl.d 5 TValue.c w0 a0)] H fun v h' => v = .a (.d (Sl.d 5 TValue.c none r)) ∧ h' = H := by
 intro a0 w0  r hE H 
 rw [Z64_n] at hE
 refine ACalls.of_wp (fn := Tryd.f80) (c := _) Tryd.tab_ok (fun _ _ => Tryd.call80 _ _) Tryd.func80 rfl (n := 19) rfl (rs := [.tmp 2]) rfl rfl ?_
 refine AWp.tok 5 fun tk1 htk1 => ?_
 refine seqK fun K1 hK1 => ?_
 refine region ?_
 refine s0 (assignNil (k' := 5) rfl) rfl ?_
 refine nil ?_
 refine hK1 _ ?_
 clear hK1 K1
 refine seqK fun K2 hK2 => ?_
 refine region ?_
 refine s0 assignA rfl ?_
 refine nil ?_
 refine hK2 _ ?_
 clear hK2 K2
 refine AWp.nilTok 3 5 tk1 rfl hpG ?_
 refine seqJH KeepsT.nil (fun (z : (Sl TValue)) => [(3, .a (.d (Sl.d 5 TValue.c (some tk1) z)))]) (fun z => (H.set tk1 (some (.tok 5 z.l.length)))) (fun z => Z64_j3 z = some r) ?_ ?_
 ·intro K3 hK3
  refine seqK fun K6 hK6 => ?_
  refine region ?_
  refine s0 moveA rfl ?_
  refine sLen (f := TValue.c) (s := a0) (TK rfl) rfl rfl rfl rfl fun hL7 => ?_
  refine s0 moveA rfl ?_
  refine nil ?_
  refine hK6 _ ?_
  clear hK6 K6
  refine block ?_
  refine loopH (KeepsT.A (k := 6) (KeepsT.A (k := 7) KeepsT.nil)) (fun (z : Nat × (Sl TValue) × Nat) => [(3, .a (.d (Sl.d 5 TValue.c (some tk1) z.2.1))), (8, .a (.d (.int .i64 ((z.2.2 : Nat) : Int))))]) (fun z => (H.set tk1 (some (.tok 5 z.2.1.l.length)))) (fun z => z.1) (fun z => Z64_l8 a0 (value_Copy_n n) z.1 z.2.1 z.2.2 = some r) ((a0.l.length + 1), (Sl.nil : Sl TValue), 0) hE Weak.toA ?_
  rintro ⟨n8, s3_9, s8_10⟩ hE K8 hK8
  try dsimp only at hE
  cases n8 with
  | zero => cases hE
  | succ n8 =>
    rw [Z64_l8] at hE
    refine seqK fun K11 hK11 => ?_
    refine region ?_
    refine s0 (binI rfl rfl rfl) rfl ?_
    refine nil ?_
    refine hK11 _ ?_
    clear hK11 K11
    refine seqK fun K12 hK12 => ?_
    refine condE hE rfl (fun hc13 hE => ?_) (fun hc13 hE => ?_)
    ·try dsimp only at hc13
     have hf13 := of_decide_eq_true hc13
     refine AWp.skip ?_
     refine hK12 _ ?_
     clear hK12 K12
     refine seqK fun K14 hK14 => ?_
     refine block ?_
     refine seqK fun K15 hK15 => ?_
     refine region ?_
     obtain ⟨x16, gx16, hE⟩ := bindO_some hE
     refine s0 (idxMn (f := TValue.c) (n := s8_10) (TK rfl) rfl (TK rfl) rfl rfl rfl gx16) rfl ?_
     refine s0 (loadV (TK rfl) rfl rfl rfl) rfl ?_
     refine sL (allocLA (TK rfl) rfl) rfl ?_
     refine sLn (storeLFA (TK rfl) rfl rfl rfl rfl rfl) ?_
     refine nil ?_
     refine hK15 _ ?_
     clear hK15 K15
     refine freezeA 5 _ rfl (Keeps.c (k := 3) (by conv => lhs; whnf) (by rfl) (Keeps.c (k := 6) (by conv => lhs; whnf) (by rfl) (Keeps.c (k := 7) (by conv => lhs; whnf) (by rfl) (Keeps.c (k := 8) (by conv => lhs; whnf) (by rfl) Keeps.nil)))) ?_
     refine region ?_
     refine s0 moveA rfl ?_
     refine s0 (loadV (TK rfl) rfl rfl rfl) rfl ?_
     obtain ⟨x17, gx17, hE⟩ := bindO_some hE
     refine s0 (callP rfl rfl (fun H => ih_53 gx17 H)) rfl ?_
     refine s0 (buildSlice (TK rfl) rfl (TK rfl) rfl rfl rfl rfl rfl rfl) rfl ?_
     obtain ⟨x18, gx18, hE⟩ := bindO_some hE
     refine sH (appM (f := TValue.c) (TK rfl) rfl (TK rfl) (TK rfl) ⟨_, rfl⟩ rfl rfl (by decide) rfl rfl rfl rfl hpG rfl gx18) rfl ?_
     refine AOps.heq (h' := (H.set tk1 (some (.tok 5 x18.l.length)))) (by first | rfl | (rw [Heap.set_set]; rfl) | (funext n_; simp only [Heap.set]; (repeat' split) <;> first | rfl | (exfalso; simp_all; done) | (simp_all; done))) ?_
     refine s0 assignA rfl ?_
     refine nil ?_
     refine hK14 _ ?_
     clear hK14 K14
     refine region ?_
     refine s0 (addIA rfl rfl) rfl ?_
     refine s0 moveA rfl ?_
     refine nil ?_
     exact hK8 _ (n8, x18, (s8_10 + 1)) Weak.toA hE (Nat.lt_succ_self _)
    refine AWp.exit ?_
    exact hK3 _ s3_9 Weak.toA hE
 rintro s3_4 hE
 try dsimp only at hE
 unfold Z64_j3 at hE
 refine seqK fun K5 hK5 => ?_
 refine region ?_
 refine s0 moveA rfl ?_
 refine s0 assignA rfl ?_
 refine nil ?_
 refine hK5 _ ?_
 clear hK5 K5
 refine AWp.dropTok 2 rfl ?_
 refine AWp.ret ?_
 repeat (first | refine xBlock_ret ?_ | refine xThen_ret ?_)
 obtain rfl := Option.some.inj hE
 refine retQ.retF H rfl ⟨rfl, rfl⟩ ?_
 first | exact Heap.sub_set htk1 | (simp only [Heap.set_set]; exact Heap.sub_set htk1)
theorem value_Copy_all : ∀ (n : Nat), (∀ {a0 : TValue}   {r : TValue}, value_Copy_n n a0 = some r → ∀ (H : Heap), ACalls Tryd.prog 53 [.agg (TValue.c a0)] H fun v h' => v = .a (.agg (TValue.c r)) ∧ h' = H) ∧ (∀ {a0 : (Sl TValue)} {w0 : Option Nat}  {r : (Sl TValue)}, Z64_n n a0 = some r → ∀ (H : Heap), ACalls Tryd.prog 80 [.d (Sl.d 5 TValue.c w0 a0)] H fun v h' => v = .a (.d (Sl.d 5 TValue.c none r)) ∧ h' = H)
 | 0 => ⟨fun hE => by first | cases hE | (rw [value_Copy_n] at hE; cases hE), fun hE => by first | cases hE | (rw [Z64_n] at hE; cases hE)⟩
 | n + 1 => ⟨value_Copy_step n (value_Copy_all n).1 (value_Copy_all n).2, Z64_step n (value_Copy_all n).1 (value_Copy_all n).2⟩
def value_Copy (a0 : TValue) : Option TValue := value_Copy_n F0 a0
theorem value_Copy_walk {a0 : TValue}   {r : TValue} (hE : value_Copy a0 = some r) (H : Heap)  : ACalls Tryd.prog 53 [.agg (TValue.c a0)] H fun v h' => v = .a (.agg (TValue.c r)) ∧ h' = H := (value_Copy_all F0).1 hE H 
def Z49_j2   : Option Int := some (-1 : Int)
def Z49_l6 (a0 : (Sl Bs)) (a1 : Bs)  : Nat → Nat → Option Int
 | 0, _ => none
 | n6 + 1, s8_7 => bif (decide (((s8_7 : Nat) : Int) < ((a0.l.length : Nat) : Int))) then ((a0.l[s8_7]?).bind fun x14 => bif ((a1 == x14)) then (some ((s8_7 : Nat) : Int)) else ((Z49_l6 a0 a1 n6) (s8_7 + 1))) else (Z49_j2   )
def Z49 (a0 : (Sl Bs)) (a1 : Bs) : Option Int := Z49_l6 a0 a1 (a0.l.length + 1) 0
theorem Z49_walk {a0 : (Sl Bs)} {a1 : Bs} {w0 : Option Nat}  {r : Int} (hE : Z49 a0 a1 = some r) (H : Heap)  : ACalls Tryd.prog 66 [.d (Sl.d 1 strE w0 a0), .d (.str a1)] H fun v h' => v = .a (.d (.int .i64 r)) ∧ h' = H := by
 unfold Z49 at hE
 refine ACalls.of_wp (fn := Tryd.f66) (c := _) Tryd.tab_ok (fun _ _ => Tryd.call66 _ _) Tryd.func66 rfl (n := 19) rfl (rs := [.tmp 4]) rfl rfl ?_
 refine seqK fun K1 hK1 => ?_
 refine region ?_
 refine s0 assignA rfl ?_
 refine nil ?_
 refine hK1 _ ?_
 clear hK1 K1
 refine seqJH KeepsT.nil (fun (z : Unit) => []) (fun z => H) (fun z => Z49_j2  = some r) ?_ ?_
 ·intro K2 hK2
  refine seqK fun K4 hK4 => ?_
  refine region ?_
  refine s0 moveA rfl ?_
  refine sLen (f := strE) (s := a0) (TK rfl) rfl rfl rfl rfl fun hL5 => ?_
  refine s0 moveA rfl ?_
  refine nil ?_
  refine hK4 _ ?_
  clear hK4 K4
  refine block ?_
  refine loopH (KeepsT.A (k := 0) (KeepsT.A (k := 1) (KeepsT.A (k := 7) KeepsT.nil))) (fun (z : Nat × Nat) => [(8, .a (.d (.int .i64 ((z.2 : Nat) : Int))))]) (fun z => H) (fun z => z.1) (fun z => Z49_l6 a0 a1 z.1 z.2 = some r) ((a0.l.length + 1), 0) hE Weak.toA ?_
  rintro ⟨n6, s8_7⟩ hE K6 hK6
  try dsimp only at hE
  cases n6 with
  | zero => cases hE
  | succ n6 =>
    rw [Z49_l6] at hE
    refine seqK fun K8 hK8 => ?_
    refine region ?_
    refine s0 (binI rfl rfl rfl) rfl ?_
    refine nil ?_
    refine hK8 _ ?_
    clear hK8 K8
    refine seqK fun K9 hK9 => ?_
    refine condE hE rfl (fun hc10 hE => ?_) (fun hc10 hE => ?_)
    ·try dsimp only at hc10
     have hf10 := of_decide_eq_true hc10
     refine AWp.skip ?_
     refine hK9 _ ?_
     clear hK9 K9
     refine seqK fun K11 hK11 => ?_
     refine block ?_
     refine seqK fun K12 hK12 => ?_
     refine region ?_
     refine s0 moveA rfl ?_
     refine s0 assignA rfl ?_
     refine nil ?_
     refine hK12 _ ?_
     clear hK12 K12
     refine seqK fun K13 hK13 => ?_
     refine region ?_
     refine s0 moveA rfl ?_
     refine s0 moveA rfl ?_
     refine s0 moveA rfl ?_
     obtain ⟨x14, gx14, hE⟩ := bindO_some hE
     refine s0 (idxMn (f := strE) (n := s8_7) (TK rfl) rfl (TK rfl) rfl rfl rfl gx14) rfl ?_
     refine s0 (loadV (TK rfl) rfl rfl rfl) rfl ?_
     refine s0 (binS rfl rfl rfl) rfl ?_
     refine nil ?_
     refine hK13 _ ?_
     clear hK13 K13
     refine condE hE rfl (fun hc15 hE => ?_) (fun hc15 hE => ?_)
     ·refine seqK fun K16 hK16 => ?_
      refine region ?_
      refine s0 moveA rfl ?_
      refine s0 assignA rfl ?_
      refine nil ?_
      refine hK16 _ ?_
      clear hK16 K16
      refine AWp.ret ?_
      repeat (first | refine xBlock_ret ?_ | refine xThen_ret ?_)
      obtain rfl := Option.some.inj hE
      refine retQ.retF H rfl ⟨rfl, rfl⟩ ?_
      exact (fun _ _ h => h)
     refine AWp.skip ?_
     refine hK11 _ ?_
     clear hK11 K11
     refine region ?_
     refine s0 (addIA rfl rfl) rfl ?_
     refine s0 moveA rfl ?_
     refine nil ?_
     exact hK6 _ (n6, (s8_7 + 1)) Weak.toA hE (Nat.lt_succ_self _)
    refine AWp.exit ?_
    exact hK2 _ () Weak.toA hE
 rintro _ hE
 try dsimp only at hE
 unfold Z49_j2 at hE
 refine seqK fun K3 hK3 => ?_
 refine region ?_
 refine s0 assignA rfl ?_
 refine nil ?_
 refine hK3 _ ?_
 clear hK3 K3
 refine AWp.ret ?_
 repeat (first | refine xBlock_ret ?_ | refine xThen_ret ?_)
 obtain rfl := Option.some.inj hE
 refine retQ.retF H rfl ⟨rfl, rfl⟩ ?_
 exact (fun _ _ h => h)
end Go.Proofs
