import Derived.Test.YtfmbgiahleepfaeGreatDoorE3
import Derived.Test.YtfmbgiahleepfaeGreatDoorTab
set_option maxRecDepth 100000
set_option maxHeartbeats 2000000
set_option linter.unusedVariables false
set_option linter.unusedSimpArgs false
namespace Go.Proofs
open Go Go.Ab
structure TChange where
 FKind : Int
 FType : Bs
 FField : Bs
 FArg : Bs
 FFrom : Bs
 FTo : Bs
def TChange.c (x : TChange) : List D := [.int .i64 x.FKind, .str x.FType, .str x.FField, .str x.FArg, .str x.FFrom, .str x.FTo]
def TChange.zero : TChange := ⟨(0 : Int), ([] : Bs), ([] : Bs), ([] : Bs), ([] : Bs), ([] : Bs)⟩
structure TVerdict where
 FChange : TChange
 FSafe : Bool
 FBreaks : (Sl Int)
noncomputable def TVerdict.c (x : TVerdict) : List D := TChange.c x.FChange ++ boolE x.FSafe ++ (fun s => [Sl.d 1 (intE .i64) none s]) x.FBreaks
def TVerdict.zero : TVerdict := ⟨TChange.zero, false, (Sl.nil : Sl Int)⟩
structure TRef where
 FName : Bs
 FWraps : (Sl Int)
noncomputable def TRef.c (x : TRef) : List D := [.str x.FName, Sl.d 1 (intE .i64) none x.FWraps]
def TRef.zero : TRef := ⟨([] : Bs), (Sl.nil : Sl Int)⟩
inductive TValue where
 | mk (FKind : Int) (FInt : Int) (FText : Bs) (FItems_nl : Bool) (FItems_l : List TValue) (FKeys : (Sl Bs))
def TValue.FKind : TValue → Int | .mk x _ _ _ _ _ => x
def TValue.FInt : TValue → Int | .mk _ x _ _ _ _ => x
def TValue.FText : TValue → Bs | .mk _ _ x _ _ _ => x
def TValue.FKeys : TValue → (Sl Bs) | .mk _ _ _ _ _ x => x
noncomputable def TValue.FItemsD : TValue → D := @TValue.rec (fun _ => D) (fun _ => List (List D)) (fun _ _ _ nl _ _ ih => .slice 5 none nl ih) [] (fun v _ ih ihl => ((intE .i64) v.FKind ++ (intE .i64) v.FInt ++ strE v.FText ++ [ih] ++ (fun s => [Sl.d 1 strE none s]) v.FKeys) :: ihl)
noncomputable def TValue.c (v : TValue) : List D := (intE .i64) v.FKind ++ (intE .i64) v.FInt ++ strE v.FText ++ [v.FItemsD] ++ (fun s => [Sl.d 1 strE none s]) v.FKeys
def TValue.zero : TValue := .mk (0 : Int) (0 : Int) ([] : Bs) true [] (Sl.nil : Sl Bs)
structure TArg where
 FName : Bs
 FValue : TValue
noncomputable def TArg.c (x : TArg) : List D := strE x.FName ++ TValue.c x.FValue
def TArg.zero : TArg := ⟨([] : Bs), TValue.zero⟩
structure TDir where
 FName : Bs
 FArgs : (Sl TArg)
noncomputable def TDir.c (x : TDir) : List D := [.str x.FName, Sl.d 6 TArg.c none x.FArgs]
def TDir.zero : TDir := ⟨([] : Bs), (Sl.nil : Sl TArg)⟩
structure TInput where
 FName : Bs
 FType : TRef
 FHas : Bool
 FDefault : TValue
 FDirs : (Sl TDir)
noncomputable def TInput.c (x : TInput) : List D := strE x.FName ++ TRef.c x.FType ++ boolE x.FHas ++ TValue.c x.FDefault ++ (fun s => [Sl.d 2 TDir.c none s]) x.FDirs
def TInput.zero : TInput := ⟨([] : Bs), TRef.zero, false, TValue.zero, (Sl.nil : Sl TDir)⟩
structure TField where
 FName : Bs
 FArgs : (Sl TInput)
 FType : TRef
 FDirs : (Sl TDir)
noncomputable def TField.c (x : TField) : List D := strE x.FName ++ (fun s => [Sl.d 10 TInput.c none s]) x.FArgs ++ TRef.c x.FType ++ (fun s => [Sl.d 2 TDir.c none s]) x.FDirs
def TField.zero : TField := ⟨([] : Bs), (Sl.nil : Sl TInput), TRef.zero, (Sl.nil : Sl TDir)⟩
structure TMember where
 FName : Bs
 FDirs : (Sl TDir)
noncomputable def TMember.c (x : TMember) : List D := [.str x.FName, Sl.d 2 TDir.c none x.FDirs]
def TMember.zero : TMember := ⟨([] : Bs), (Sl.nil : Sl TDir)⟩
structure TDef where
 FKind : Int
 FName : Bs
 FImplements : (Sl Bs)
 FDirs : (Sl TDir)
 FFields : (Sl TField)
 FMembers : (Sl TMember)
 FInputs : (Sl TInput)
noncomputable def TDef.c (x : TDef) : List D := [.int .i64 x.FKind, .str x.FName, Sl.d 1 strE none x.FImplements, Sl.d 2 TDir.c none x.FDirs, Sl.d 5 TField.c none x.FFields, Sl.d 2 TMember.c none x.FMembers, Sl.d 10 TInput.c none x.FInputs]
def TDef.zero : TDef := ⟨(0 : Int), ([] : Bs), (Sl.nil : Sl Bs), (Sl.nil : Sl TDir), (Sl.nil : Sl TField), (Sl.nil : Sl TMember), (Sl.nil : Sl TInput)⟩
structure TDoc where
 FDefs : (Sl TDef)
noncomputable def TDoc.c (x : TDoc) : List D := [Sl.d 7 TDef.c none x.FDefs]
def TDoc.zero : TDoc := ⟨(Sl.nil : Sl TDef)⟩
structure TVar where
 FName : Bs
 FType : TRef
 FHas : Bool
 FDefault : TValue
noncomputable def TVar.c (x : TVar) : List D := strE x.FName ++ TRef.c x.FType ++ boolE x.FHas ++ TValue.c x.FDefault
def TVar.zero : TVar := ⟨([] : Bs), TRef.zero, false, TValue.zero⟩
inductive TSel where
 | mk (FKind : Int) (FAlias : Bs) (FName : Bs) (FOn : Bs) (FArgs : (Sl TArg)) (FDirs : (Sl TDir)) (FSels_nl : Bool) (FSels_l : List TSel)
def TSel.FKind : TSel → Int | .mk x _ _ _ _ _ _ _ => x
def TSel.FAlias : TSel → Bs | .mk _ x _ _ _ _ _ _ => x
def TSel.FName : TSel → Bs | .mk _ _ x _ _ _ _ _ => x
def TSel.FOn : TSel → Bs | .mk _ _ _ x _ _ _ _ => x
def TSel.FArgs : TSel → (Sl TArg) | .mk _ _ _ _ x _ _ _ => x
def TSel.FDirs : TSel → (Sl TDir) | .mk _ _ _ _ _ x _ _ => x
def TSel.FSels : TSel → (Sl TSel) | .mk _ _ _ _ _ _ nl l => ⟨nl, l⟩
noncomputable def TSel.FSelsD : TSel → D := @TSel.rec (fun _ => D) (fun _ => List (List D)) (fun _ _ _ _ _ _ nl _ ih => .slice 7 none nl ih) [] (fun v _ ih ihl => ((intE .i64) v.FKind ++ strE v.FAlias ++ strE v.FName ++ strE v.FOn ++ (fun s => [Sl.d 6 TArg.c none s]) v.FArgs ++ (fun s => [Sl.d 2 TDir.c none s]) v.FDirs ++ [ih]) :: ihl)
noncomputable def TSel.c (v : TSel) : List D := (intE .i64) v.FKind ++ strE v.FAlias ++ strE v.FName ++ strE v.FOn ++ (fun s => [Sl.d 6 TArg.c none s]) v.FArgs ++ (fun s => [Sl.d 2 TDir.c none s]) v.FDirs ++ [v.FSelsD]
def TSel.zero : TSel := .mk (0 : Int) ([] : Bs) ([] : Bs) ([] : Bs) (Sl.nil : Sl TArg) (Sl.nil : Sl TDir) true []
structure TOp where
 FKind : Int
 FName : Bs
 FVars : (Sl TVar)
 FSels : (Sl TSel)
noncomputable def TOp.c (x : TOp) : List D := [.int .i64 x.FKind, .str x.FName, Sl.d 9 TVar.c none x.FVars, Sl.d 7 TSel.c none x.FSels]
def TOp.zero : TOp := ⟨(0 : Int), ([] : Bs), (Sl.nil : Sl TVar), (Sl.nil : Sl TSel)⟩
structure TFrag where
 FName : Bs
 FOn : Bs
 FSels : (Sl TSel)
noncomputable def TFrag.c (x : TFrag) : List D := [.str x.FName, .str x.FOn, Sl.d 7 TSel.c none x.FSels]
def TFrag.zero : TFrag := ⟨([] : Bs), ([] : Bs), (Sl.nil : Sl TSel)⟩
structure TQuery where
 FOps : (Sl TOp)
 FFrags : (Sl TFrag)
noncomputable def TQuery.c (x : TQuery) : List D := [Sl.d 4 TOp.c none x.FOps, Sl.d 3 TFrag.c none x.FFrags]
def TQuery.zero : TQuery := ⟨(Sl.nil : Sl TOp), (Sl.nil : Sl TFrag)⟩
structure Evolve_checker where
 Fa : TDoc
 Fb : TDoc
noncomputable def Evolve_checker.c (x : Evolve_checker) : List D := TDoc.c x.Fa ++ TDoc.c x.Fb
def Evolve_checker.zero : Evolve_checker := ⟨TDoc.zero, TDoc.zero⟩
structure TUse where
 FType : Bs
 FField : Bs
 FArg : Bs
 FCount : Int
def TUse.c (x : TUse) : List D := [.str x.FType, .str x.FField, .str x.FArg, .int .i64 x.FCount]
def TUse.zero : TUse := ⟨([] : Bs), ([] : Bs), ([] : Bs), (0 : Int)⟩
structure Evolve_operation where
 Fuses : (Sl TUse)
 Fconditions : Unit
 Fpositions : Unit
 Ftypes : Unit
 Finputs : Unit
 Ffields : Unit
noncomputable def Evolve_operation.c (x : Evolve_operation) : List D := [Sl.d 4 TUse.c none x.Fuses, .nilmap, .nilmap, .nilmap, .nilmap, .nilmap]
def Evolve_operation.zero : Evolve_operation := ⟨(Sl.nil : Sl TUse), (), (), (), (), ()⟩
structure Changes_differ where
 Fname : Bs
 Fout : (Sl TChange)
noncomputable def Changes_differ.c (x : Changes_differ) : List D := [.str x.Fname, Sl.d 6 TChange.c none x.Fout]
def Changes_differ.zero : Changes_differ := ⟨([] : Bs), (Sl.nil : Sl TChange)⟩
noncomputable def Changes_differ.cg (t1 : Option Nat) (x : Changes_differ) : List D := strE x.Fname ++ [Sl.d 6 TChange.c t1 x.Fout]
structure Changes_kinds where
 Fgone : Int
 Fadd : Int
 Ftyp : Int
 Fdef : Int
def Changes_kinds.c (x : Changes_kinds) : List D := [.int .i64 x.Fgone, .int .i64 x.Fadd, .int .i64 x.Ftyp, .int .i64 x.Fdef]
def Changes_kinds.zero : Changes_kinds := ⟨(0 : Int), (0 : Int), (0 : Int), (0 : Int)⟩
end Go.Proofs

namespace Go.Proofs
open Go Go.Ab Go.RowKit
section
variable {H : Type} {B : DataW H → Nat} (hB : Bulk B)
noncomputable def TChange.sz (x : TChange) : Nat := (fun _ => 1) x.FKind + (Bs.sz x.FType + (Bs.sz x.FField + (Bs.sz x.FArg + (Bs.sz x.FFrom + (Bs.sz x.FTo + (0))))))
def TChange.wf (x : TChange) : Prop := i64 x.FKind ∧ ((fun _ => True) x.FType ∧ ((fun _ => True) x.FField ∧ ((fun _ => True) x.FArg ∧ ((fun _ => True) x.FFrom ∧ ((fun _ => True) x.FTo ∧ (True))))))
include hB in
theorem rd_TChange_25 : ∀ N, RdN Tryz.prog B N 25 TChange.c TChange.sz TChange.wf := RdA.struct hB (Tryz.tab_ok 25 _ rfl) rfl (fun N_ => (RdP.cons (n := 6) (o := 0) (o' := 1) (Tryz.tab_ok 3 _ rfl) rfl ((RdS.int hB (Tryz.tab_ok 3 _ rfl) rfl) N_) (RdP.cons (n := 6) (o := 1) (o' := 2) (Tryz.tab_ok 9 _ rfl) rfl ((RdS.str hB (Tryz.tab_ok 9 _ rfl) rfl) N_) (RdP.cons (n := 6) (o := 2) (o' := 3) (Tryz.tab_ok 9 _ rfl) rfl ((RdS.str hB (Tryz.tab_ok 9 _ rfl) rfl) N_) (RdP.cons (n := 6) (o := 3) (o' := 4) (Tryz.tab_ok 9 _ rfl) rfl ((RdS.str hB (Tryz.tab_ok 9 _ rfl) rfl) N_) (RdP.cons (n := 6) (o := 4) (o' := 5) (Tryz.tab_ok 9 _ rfl) rfl ((RdS.str hB (Tryz.tab_ok 9 _ rfl) rfl) N_) (RdP.cons (n := 6) (o := 5) (o' := 6) (Tryz.tab_ok 9 _ rfl) rfl ((RdS.str hB (Tryz.tab_ok 9 _ rfl) rfl) N_) (RdP.nil (n := 6))))))))) (fun a => (⟨a.1, a.2.1, a.2.2.1, a.2.2.2.1, a.2.2.2.2.1, a.2.2.2.2.2.1⟩ : TChange)) (fun _ => rfl) (fun _ => Nat.le_refl _) (fun _ h => h)
noncomputable def TVerdict.sz (x : TVerdict) : Nat := TChange.sz x.FChange + ((fun _ => 1) x.FSafe + ((Sl.sz (fun _ => 1)) x.FBreaks + (0)))
def TVerdict.wf (x : TVerdict) : Prop := TChange.wf x.FChange ∧ ((fun _ => True) x.FSafe ∧ ((Sl.wf i64) x.FBreaks ∧ (True)))
include hB in
theorem rd_TVerdict_28 : ∀ N, RdN Tryz.prog B N 28 TVerdict.c TVerdict.sz TVerdict.wf := RdA.struct hB (Tryz.tab_ok 28 _ rfl) rfl (fun N_ => (RdP.cons (n := 8) (o := 0) (o' := 6) (Tryz.tab_ok 25 _ rfl) rfl ((rd_TChange_25 hB) N_) (RdP.cons (n := 8) (o := 6) (o' := 7) (Tryz.tab_ok 4 _ rfl) rfl ((RdS.bool hB (Tryz.tab_ok 4 _ rfl) rfl) N_) (RdP.cons (n := 8) (o := 7) (o' := 8) (Tryz.tab_ok 26 _ rfl) rfl ((RdS.slice hB (Tryz.tab_ok 26 _ rfl) rfl (Tryz.tab_ok 3 _ rfl) rfl (by decide) (fun _ => rfl) (RdS.int hB (Tryz.tab_ok 3 _ rfl) rfl)) N_) (RdP.nil (n := 8)))))) (fun a => (⟨a.1, a.2.1, a.2.2.1⟩ : TVerdict)) (fun _ => rfl) (fun _ => Nat.le_refl _) (fun _ h => h)
end
theorem TChange.sz_def (x : TChange) : x.sz = 0 + 1 + Bs.sz x.FType + Bs.sz x.FField + Bs.sz x.FArg + Bs.sz x.FFrom + Bs.sz x.FTo := by
 unfold TChange.sz; try dsimp only
 omega
theorem TChange.pos (x : TChange) : 1 ≤ x.sz := by
 rw [TChange.sz_def]; have := Bs.sz_pos x.FType; omega
theorem TChange.FKind_wf {x : TChange} (h : x.wf) : i64 x.FKind := h.1
theorem TVerdict.sz_def (x : TVerdict) : x.sz = 0 + TChange.sz x.FChange + 1 + (Sl.sz (fun _ => 1)) x.FBreaks := by
 unfold TVerdict.sz; try dsimp only
 omega
theorem TVerdict.pos (x : TVerdict) : 1 ≤ x.sz := by
 rw [TVerdict.sz_def]; have := x.FChange.pos; omega
theorem TVerdict.FChange_wf {x : TVerdict} (h : x.wf) : TChange.wf x.FChange := h.1
theorem TVerdict.FBreaks_wf {x : TVerdict} (h : x.wf) : (Sl.wf i64) x.FBreaks := h.2.2.1
end Go.Proofs

namespace Go.Proofs
open Go Go.Ab
open AOps Cert AWp
variable {lou : Lou}
def Tryz.lay10_ren : Go.Shelf.Ren := ⟨fun | 171 => 10 | 243 => 17 | 246 => 28 | 283 => 45 | 284 => 46 | 285 => 47 | 286 => 48 | 129 => 70 | 317 => 69 | 318 => 71 | 319 => 72 | 320 => 73 | 337 => 98 | 338 => 99 | n => n, fun | 3 => 3 | 9 => 9 | 2 => 2 | 4 => 4 | 171 => 115 | 0 => 0 | 53 => 116 | 37 => 51 | 5 => 5 | 173 => 119 | 212 => 153 | 51 => 154 | 20 => 20 | 213 => 155 | 46 => 157 | 232 => 195 | 233 => 196 | n => n, fun | 17 => 0 | 18 => 2 | 19 => 3 | n => n⟩
theorem Tryz.lay10 : Go.Proofs.LaysM.n171 Tryz.prog Tryz.lay10_ren := {
 mixed := by kernel_rfl
 f129 := Tryz.func70.trans (congrArg some (by kernel_rfl))
 f171 := Tryz.func10.trans (congrArg some (by kernel_rfl))
 f243 := Tryz.func17.trans (congrArg some (by kernel_rfl))
 f246 := Tryz.func28.trans (congrArg some (by kernel_rfl))
 f283 := Tryz.func45.trans (congrArg some (by kernel_rfl))
 f284 := Tryz.func46.trans (congrArg some (by kernel_rfl))
 f285 := Tryz.func47.trans (congrArg some (by kernel_rfl))
 f286 := Tryz.func48.trans (congrArg some (by kernel_rfl))
 f317 := Tryz.func69.trans (congrArg some (by kernel_rfl))
 f318 := Tryz.func71.trans (congrArg some (by kernel_rfl))
 f319 := Tryz.func72.trans (congrArg some (by kernel_rfl))
 f320 := Tryz.func73.trans (congrArg some (by kernel_rfl))
 f337 := Tryz.func98.trans (congrArg some (by kernel_rfl))
 f338 := Tryz.func99.trans (congrArg some (by kernel_rfl))
 t0 := Tryz.underlying0
 a0 := Tryz.isAgg0
 z0 := Tryz.sizeOf0
 v0 := Tryz.zeroValue0
 t2 := Tryz.underlying2
 a2 := Tryz.isAgg2
 z2 := Tryz.sizeOf2
 v2 := Tryz.zeroValue2
 t3 := Tryz.underlying3
 a3 := Tryz.isAgg3
 z3 := Tryz.sizeOf3
 v3 := Tryz.zeroValue3
 t4 := Tryz.underlying4
 a4 := Tryz.isAgg4
 z4 := Tryz.sizeOf4
 v4 := Tryz.zeroValue4
 t5 := Tryz.underlying5
 a5 := Tryz.isAgg5
 z5 := Tryz.sizeOf5
 v5 := Tryz.zeroValue5
 t9 := Tryz.underlying9
 a9 := Tryz.isAgg9
 z9 := Tryz.sizeOf9
 v9 := Tryz.zeroValue9
 t20 := Tryz.underlying20
 a20 := Tryz.isAgg20
 z20 := Tryz.sizeOf20
 v20 := Tryz.zeroValue20
 t37 := Tryz.underlying51
 a37 := Tryz.isAgg51
 z37 := Tryz.sizeOf51
 v37 := Tryz.zeroValue51
 t46 := Tryz.underlying157
 a46 := Tryz.isAgg157
 z46 := Tryz.sizeOf157
 v46 := Tryz.zeroValue157
 t51 := Tryz.underlying154
 a51 := Tryz.isAgg154
 z51 := Tryz.sizeOf154
 v51 := Tryz.zeroValue154
 t53 := Tryz.underlying116
 a53 := Tryz.isAgg116
 z53 := Tryz.sizeOf116
 v53 := Tryz.zeroValue116
 t171 := Tryz.underlying115
 a171 := Tryz.isAgg115
 z171 := Tryz.sizeOf115
 v171 := Tryz.zeroValue115
 t173 := Tryz.underlying119
 a173 := Tryz.isAgg119
 z173 := Tryz.sizeOf119
 v173 := Tryz.zeroValue119
 t212 := Tryz.underlying153
 a212 := Tryz.isAgg153
 z212 := Tryz.sizeOf153
 v212 := Tryz.zeroValue153
 t213 := Tryz.underlying155
 a213 := Tryz.isAgg155
 z213 := Tryz.sizeOf155
 t232 := Tryz.underlying195
 a232 := Tryz.isAgg195
 z232 := Tryz.sizeOf195
 v232 := Tryz.zeroValue195
 t233 := Tryz.underlying196
 a233 := Tryz.isAgg196
 z233 := Tryz.sizeOf196
 v233 := Tryz.zeroValue196
 g17 := by kernel_rfl
 g18 := by kernel_rfl
 g19 := by kernel_rfl
 i0 := by kernel_rfl
 i2 := by kernel_rfl
 i3 := by kernel_rfl
 i4 := by kernel_rfl
 i5 := by kernel_rfl
 i9 := by kernel_rfl
 i20 := by kernel_rfl
 i37 := by kernel_rfl
 i46 := by kernel_rfl
 i51 := by kernel_rfl
 i53 := by kernel_rfl
 i171 := by kernel_rfl
 i173 := by kernel_rfl
 i212 := by kernel_rfl
 i232 := by kernel_rfl
 i233 := by kernel_rfl
 m17 := by kernel_rfl
 m18 := by kernel_rfl
 m19 := by kernel_rfl }
def Z40 (n : Int) : Option Bs := if -9223372036854775808 ≤ n ∧ n ≤ 9223372036854775807 ∧ (Lib.itoa n).length ≤ maxS then some (Lib.itoa n) else none
def Z40_q (n : Int) : Option Bs := Z40 n
theorem Z40_eq (n : Int) : Z40 n = Z40_q n := rfl
theorem Z40_walk {a0 : Int} {oT : Ab.Obj} {gT : Nat} {r : Bs} (hE : Z40 a0 = some r) (H : Heap) (hgT : H gT = some oT) (hoT : IsTab Tryz.prog oT) : ACalls Tryz.prog 10 [.d (.int .i64 a0)] H fun v h' => v = .a (.d (.str r)) ∧ h' = H := by
 unfold Z40 at hE
 split at hE
 ·rename_i h
  obtain rfl := Option.some.inj hE
  exact itoa_calls Tryz.lay10 h.1 h.2.1 rfl hgT hoT h.2.2
 cases hE
def Z45 (a0 : Int) : Option Bs := (Z40 a0).bind fun x3 => some x3
theorem Z45_walk {a0 : Int} {oT : Ab.Obj} {gT : Nat} {r : Bs} (hE : Z45 a0 = some r) (H : Heap) (hgT : H gT = some oT) (hoT : IsTab Tryz.prog oT) : ACalls Tryz.prog 27 [.d (.int .i64 a0)] H fun v h' => v = .a (.d (.str r)) ∧ h' = H := by
 unfold Z45 at hE
 refine ACalls.of_wp (fn := Tryz.f27) (c := _) Tryz.tab_ok (fun _ _ => Tryz.call27 _ _) Tryz.func27 rfl (n := 5) rfl (rs := [.tmp 2]) rfl rfl ?_
 refine seqK fun K1 hK1 => ?_
 refine region ?_
 refine s0 assignA rfl ?_
 refine nil ?_
 refine hK1 _ ?_
 clear hK1 K1
 refine seqK fun K2 hK2 => ?_
 refine region ?_
 refine s0 moveA rfl ?_
 obtain ⟨x3, gx3, hE⟩ := bindO_some hE
 refine s0 (callR rfl rfl (Z40_walk (gT := gT) (oT := oT) gx3 _ hpG (by assumption))) rfl ?_
 refine s0 assignA rfl ?_
 refine nil ?_
 refine hK2 _ ?_
 clear hK2 K2
 refine AWp.ret ?_
 repeat (first | refine xBlock_ret ?_ | refine xThen_ret ?_)
 obtain rfl := Option.some.inj hE
 refine retQ.retF H rfl ⟨rfl, rfl⟩ ?_
 exact (fun _ _ h => h)
def Z15 (a0 : Int) : Option Bs := bif ((decide (a0 < (1 : Int))) || (decide ((18 : Int) < a0))) then ((Z45 a0).bind fun x7 => (catC ([67, 104, 97, 110, 103, 101, 32] : Bs) x7).bind fun x8 => some x8) else ((idxC ([([] : Bs), ([84, 121, 112, 101, 71, 111, 110, 101] : Bs), ([84, 121, 112, 101, 78, 101, 119] : Bs), ([84, 121, 112, 101, 75, 105, 110, 100] : Bs), ([70, 105, 101, 108, 100, 71, 111, 110, 101] : Bs), ([70, 105, 101, 108, 100, 78, 101, 119] : Bs), ([70, 105, 101, 108, 100, 84, 121, 112, 101] : Bs), ([65, 114, 103, 71, 111, 110, 101] : Bs), ([65, 114, 103, 78, 101, 119] : Bs), ([65, 114, 103, 84, 121, 112, 101] : Bs), ([65, 114, 103, 68, 101, 102, 97, 117, 108, 116] : Bs), ([77, 101, 109, 98, 101, 114, 71, 111, 110, 101] : Bs), ([77, 101, 109, 98, 101, 114, 78, 101, 119] : Bs), ([73, 110, 112, 117, 116, 71, 111, 110, 101] : Bs), ([73, 110, 112, 117, 116, 78, 101, 119] : Bs), ([73, 110, 112, 117, 116, 84, 121, 112, 101] : Bs), ([73, 110, 112, 117, 116, 68, 101, 102, 97, 117, 108, 116] : Bs), ([70, 97, 99, 101, 71, 111, 110, 101] : Bs), ([70, 97, 99, 101, 78, 101, 119] : Bs)] : List Bs) a0).bind fun x10 => some x10)
theorem Z15_walk {a0 : Int} {oT : Ab.Obj} {gT : Nat} {r : Bs} (hE : Z15 a0 = some r) (H : Heap) (hgT : H gT = some oT) (hoT : IsTab Tryz.prog oT) : ACalls Tryz.prog 15 [.d (.int .i64 a0)] H fun v h' => v = .a (.d (.str r)) ∧ h' = H := by
 unfold Z15 at hE
 refine ACalls.of_wp (fn := Tryz.f15) (c := _) Tryz.tab_ok (fun _ _ => Tryz.call15 _ _) Tryz.func15 rfl (n := 17) rfl (rs := [.tmp 2]) rfl rfl ?_
 refine seqK fun K1 hK1 => ?_
 refine region ?_
 refine s0 assignA rfl ?_
 refine nil ?_
 refine hK1 _ ?_
 clear hK1 K1
 refine seqK fun K2 hK2 => ?_
 refine region ?_
 refine s0 (buildArr Tryz.tab_ok Tryz.underlying78 rfl rfl rfl rfl rfl) rfl ?_
 refine sL (allocLA (TK rfl) rfl) rfl ?_
 refine sLn (storeLFA (TK rfl) rfl rfl rfl rfl rfl) ?_
 refine nil ?_
 refine hK2 _ ?_
 clear hK2 K2
 refine freezeA 3 _ rfl (Keeps.c (k := 0) (by conv => lhs; whnf) (by rfl) Keeps.nil) ?_
 refine seqK fun K3 hK3 => ?_
 refine seqK fun K4 hK4 => ?_
 refine region ?_
 refine s0 moveA rfl ?_
 refine s0 (binI rfl rfl rfl) rfl ?_
 refine s0 moveA rfl ?_
 refine gC rfl rfl (fun hC => moveA) rfl ?_
 refine gC rfl rfl (fun hC => ungdA (k := 8) rfl (binI rfl rfl rfl)) rfl ?_
 refine s0 (pickOrA rfl rfl rfl) rfl ?_
 refine nil ?_
 refine hK4 _ ?_
 clear hK4 K4
 refine condE hE rfl (fun hc5 hE => ?_) (fun hc5 hE => ?_)
 ·refine seqK fun K6 hK6 => ?_
  refine region ?_
  refine s0 moveA rfl ?_
  obtain ⟨x7, gx7, hE⟩ := bindO_some hE
  refine s0 (callR rfl rfl (Z45_walk (gT := gT) (oT := oT) gx7 _ hpG (by assumption))) rfl ?_
  obtain ⟨x8, gx8, hE⟩ := bindO_some hE
  refine s0 (catM rfl rfl gx8) rfl ?_
  refine s0 assignA rfl ?_
  refine nil ?_
  refine hK6 _ ?_
  clear hK6 K6
  refine AWp.ret ?_
  repeat (first | refine xBlock_ret ?_ | refine xThen_ret ?_)
  obtain rfl := Option.some.inj hE
  refine retQ.retF H rfl ⟨rfl, rfl⟩ ?_
  exact (fun _ _ h => h)
 refine AWp.skip ?_
 refine hK3 _ ?_
 clear hK3 K3
 refine seqK fun K9 hK9 => ?_
 refine region ?_
 refine s0 moveA rfl ?_
 obtain ⟨x10, gx10, hE⟩ := bindO_some hE
 refine s0 (idxArr (f := D.str) (l := ([([] : Bs), ([84, 121, 112, 101, 71, 111, 110, 101] : Bs), ([84, 121, 112, 101, 78, 101, 119] : Bs), ([84, 121, 112, 101, 75, 105, 110, 100] : Bs), ([70, 105, 101, 108, 100, 71, 111, 110, 101] : Bs), ([70, 105, 101, 108, 100, 78, 101, 119] : Bs), ([70, 105, 101, 108, 100, 84, 121, 112, 101] : Bs), ([65, 114, 103, 71, 111, 110, 101] : Bs), ([65, 114, 103, 78, 101, 119] : Bs), ([65, 114, 103, 84, 121, 112, 101] : Bs), ([65, 114, 103, 68, 101, 102, 97, 117, 108, 116] : Bs), ([77, 101, 109, 98, 101, 114, 71, 111, 110, 101] : Bs), ([77, 101, 109, 98, 101, 114, 78, 101, 119] : Bs), ([73, 110, 112, 117, 116, 71, 111, 110, 101] : Bs), ([73, 110, 112, 117, 116, 78, 101, 119] : Bs), ([73, 110, 112, 117, 116, 84, 121, 112, 101] : Bs), ([73, 110, 112, 117, 116, 68, 101, 102, 97, 117, 108, 116] : Bs), ([70, 97, 99, 101, 71, 111, 110, 101] : Bs), ([70, 97, 99, 101, 78, 101, 119] : Bs)] : List Bs)) Tryz.underlying78 (TK rfl) rfl rfl rfl rfl gx10) rfl ?_
 refine s0 (loadV (TK rfl) rfl rfl rfl) rfl ?_
 refine s0 assignA rfl ?_
 refine nil ?_
 refine hK9 _ ?_
 clear hK9 K9
 refine AWp.ret ?_
 repeat (first | refine xBlock_ret ?_ | refine xThen_ret ?_)
 obtain rfl := Option.some.inj hE
 refine retQ.retF H rfl ⟨rfl, rfl⟩ ?_
 exact (fun _ _ h => h)
def Z14 (a0 : Bs) : Option Bs := bif ((a0 == ([] : Bs))) then (some ([110, 111, 110, 101] : Bs)) else (some a0)
theorem Z14_walk {a0 : Bs}   {r : Bs} (hE : Z14 a0 = some r) (H : Heap)  : ACalls Tryz.prog 16 [.d (.str a0)] H fun v h' => v = .a (.d (.str r)) ∧ h' = H := by
 unfold Z14 at hE
 refine ACalls.of_wp (fn := Tryz.f16) (c := _) Tryz.tab_ok (fun _ _ => Tryz.call16 _ _) Tryz.func16 rfl (n := 6) rfl (rs := [.tmp 2]) rfl rfl ?_
 refine seqK fun K1 hK1 => ?_
 refine region ?_
 refine s0 assignA rfl ?_
 refine nil ?_
 refine hK1 _ ?_
 clear hK1 K1
 refine seqK fun K2 hK2 => ?_
 refine seqK fun K3 hK3 => ?_
 refine region ?_
 refine s0 moveA rfl ?_
 refine s0 (binS rfl rfl rfl) rfl ?_
 refine nil ?_
 refine hK3 _ ?_
 clear hK3 K3
 refine condE hE rfl (fun hc4 hE => ?_) (fun hc4 hE => ?_)
 ·refine seqK fun K5 hK5 => ?_
  refine region ?_
  refine s0 assignA rfl ?_
  refine nil ?_
  refine hK5 _ ?_
  clear hK5 K5
  refine AWp.ret ?_
  repeat (first | refine xBlock_ret ?_ | refine xThen_ret ?_)
  obtain rfl := Option.some.inj hE
  refine retQ.retF H rfl ⟨rfl, rfl⟩ ?_
  exact (fun _ _ h => h)
 refine AWp.skip ?_
 refine hK2 _ ?_
 clear hK2 K2
 refine seqK fun K6 hK6 => ?_
 refine region ?_
 refine s0 moveA rfl ?_
 refine s0 assignA rfl ?_
 refine nil ?_
 refine hK6 _ ?_
 clear hK6 K6
 refine AWp.ret ?_
 repeat (first | refine xBlock_ret ?_ | refine xThen_ret ?_)
 obtain rfl := Option.some.inj hE
 refine retQ.retF H rfl ⟨rfl, rfl⟩ ?_
 exact (fun _ _ h => h)
def Z1_j10  (s3_11 : Bs) : Option Bs := some s3_11
def Z1_j8 (a0 : TChange)  (s3_9 : Bs) : Option Bs := bif ((!(a0.FFrom == ([] : Bs))) || (!(a0.FTo == ([] : Bs)))) then ((Z14 a0.FFrom).bind fun x15 => (catC ([58, 32] : Bs) x15).bind fun x16 => (catC x16 ([32, 45, 62, 32] : Bs)).bind fun x17 => (Z14 a0.FTo).bind fun x18 => (catC x17 x18).bind fun x19 => (catC s3_9 x19).bind fun x20 => Z1_j10   x20) else (Z1_j10   s3_9)
def Z1_j6 (a0 : TChange)  (s3_7 : Bs) : Option Bs := bif (!(a0.FArg == ([] : Bs))) then ((catC ([40] : Bs) a0.FArg).bind fun x23 => (catC x23 ([41] : Bs)).bind fun x24 => (catC s3_7 x24).bind fun x25 => Z1_j8 a0  x25) else (Z1_j8 a0  s3_7)
def Z1 (a0 : TChange) : Option Bs := (Z15 a0.FKind).bind fun x3 => (catC x3 ([32] : Bs)).bind fun x4 => (catC x4 a0.FType).bind fun x5 => bif (!(a0.FField == ([] : Bs))) then ((catC ([46] : Bs) a0.FField).bind fun x28 => (catC x5 x28).bind fun x29 => Z1_j6 a0  x29) else (Z1_j6 a0  x5)
theorem Z1_walk {a0 : TChange} {oT : Ab.Obj} {gT : Nat} {r : Bs} (hE : Z1 a0 = some r) (H : Heap) (hgT : H gT = some oT) (hoT : IsTab Tryz.prog oT) : ACalls Tryz.prog 9 [.agg (TChange.c a0)] H fun v h' => v = .a (.d (.str r)) ∧ h' = H := by
 unfold Z1 at hE
 refine ACalls.of_wp (fn := Tryz.f9) (c := _) Tryz.tab_ok (fun _ _ => Tryz.call9 _ _) Tryz.func9 rfl (n := 48) rfl (rs := [.tmp 2]) rfl rfl ?_
 refine seqK fun K1 hK1 => ?_
 refine region ?_
 refine s0 (boxV rfl) rfl ?_
 refine s0 assignA rfl ?_
 refine nil ?_
 refine hK1 _ ?_
 clear hK1 K1
 refine seqK fun K2 hK2 => ?_
 refine AWp.draw rfl ?_
 refine DOps.s0 (fieldVA (TK rfl) rfl rfl (TK rfl) rfl rfl) rfl ?_
 refine DOps.s0 (loadV (TK rfl) rfl rfl rfl) rfl ?_
 obtain ⟨x3, gx3, hE⟩ := bindO_some hE
 refine DOps.s0 (callR rfl rfl (Z15_walk (gT := gT) (oT := oT) gx3 _ hpG (by assumption))) rfl ?_
 obtain ⟨x4, gx4, hE⟩ := bindO_some hE
 refine DOps.s0 (catM rfl rfl gx4) rfl ?_
 refine DOps.s0 (fieldVA (TK rfl) rfl rfl (TK rfl) rfl rfl) rfl ?_
 refine DOps.s0 (loadV (TK rfl) rfl rfl rfl) rfl ?_
 obtain ⟨x5, gx5, hE⟩ := bindO_some hE
 refine DOps.s0 (catM rfl rfl gx5) rfl ?_
 refine DOps.s0 assignA rfl ?_
 refine DOps.nil (by decide +kernel) ?_
 refine hK2 _ ?_
 clear hK2 K2
 refine seqJH (KeepsT.A (k := 1) KeepsT.nil) (fun (z : Bs) => [(3, .a (.d (.str z)))]) (fun z => H) (fun z => Z1_j6 a0 z = some r) ?_ ?_
 ·intro K6 hK6
  refine seqK fun K26 hK26 => ?_
  refine region ?_
  refine s0 (fieldVA (TK rfl) rfl rfl (TK rfl) rfl rfl) rfl ?_
  refine s0 (loadV (TK rfl) rfl rfl rfl) rfl ?_
  refine s0 (binS rfl rfl rfl) rfl ?_
  refine nil ?_
  refine hK26 _ ?_
  clear hK26 K26
  refine condE hE rfl (fun hc27 hE => ?_) (fun hc27 hE => ?_)
  ·refine region ?_
   refine s0 moveA rfl ?_
   refine s0 (fieldVA (TK rfl) rfl rfl (TK rfl) rfl rfl) rfl ?_
   refine s0 (loadV (TK rfl) rfl rfl rfl) rfl ?_
   obtain ⟨x28, gx28, hE⟩ := bindO_some hE
   refine s0 (catM rfl rfl gx28) rfl ?_
   obtain ⟨x29, gx29, hE⟩ := bindO_some hE
   refine s0 (catM rfl rfl gx29) rfl ?_
   refine s0 assignA rfl ?_
   refine nil ?_
   exact hK6 _ x29 Weak.toA hE
  refine AWp.skip ?_
  exact hK6 _ x5 Weak.toA hE
 rintro s3_7 hE
 try dsimp only at hE
 unfold Z1_j6 at hE
 refine seqJH (KeepsT.A (k := 1) KeepsT.nil) (fun (z : Bs) => [(3, .a (.d (.str z)))]) (fun z => H) (fun z => Z1_j8 a0 z = some r) ?_ ?_
 ·intro K8 hK8
  refine seqK fun K21 hK21 => ?_
  refine region ?_
  refine s0 (fieldVA (TK rfl) rfl rfl (TK rfl) rfl rfl) rfl ?_
  refine s0 (loadV (TK rfl) rfl rfl rfl) rfl ?_
  refine s0 (binS rfl rfl rfl) rfl ?_
  refine nil ?_
  refine hK21 _ ?_
  clear hK21 K21
  refine condE hE rfl (fun hc22 hE => ?_) (fun hc22 hE => ?_)
  ·refine region ?_
   refine s0 moveA rfl ?_
   refine s0 (fieldVA (TK rfl) rfl rfl (TK rfl) rfl rfl) rfl ?_
   refine s0 (loadV (TK rfl) rfl rfl rfl) rfl ?_
   obtain ⟨x23, gx23, hE⟩ := bindO_some hE
   refine s0 (catM rfl rfl gx23) rfl ?_
   obtain ⟨x24, gx24, hE⟩ := bindO_some hE
   refine s0 (catM rfl rfl gx24) rfl ?_
   obtain ⟨x25, gx25, hE⟩ := bindO_some hE
   refine s0 (catM rfl rfl gx25) rfl ?_
   refine s0 assignA rfl ?_
   refine nil ?_
   exact hK8 _ x25 Weak.toA hE
  refine AWp.skip ?_
  exact hK8 _ s3_7 Weak.toA hE
 rintro s3_9 hE
 try dsimp only at hE
 unfold Z1_j8 at hE
 refine seqJH KeepsT.nil (fun (z : Bs) => [(3, .a (.d (.str z)))]) (fun z => H) (fun z => Z1_j10 z = some r) ?_ ?_
 ·intro K10 hK10
  refine seqK fun K13 hK13 => ?_
  refine region ?_
  refine s0 (fieldVA (TK rfl) rfl rfl (TK rfl) rfl rfl) rfl ?_
  refine s0 (loadV (TK rfl) rfl rfl rfl) rfl ?_
  refine s0 (binS rfl rfl rfl) rfl ?_
  refine s0 moveA rfl ?_
  refine gC rfl rfl (fun hC => fieldVA (TK rfl) rfl rfl (TK rfl) rfl rfl) rfl ?_
  refine gC rfl rfl (fun hC => ungdA (k := 32) rfl (loadV (TK rfl) rfl rfl rfl)) rfl ?_
  refine gC rfl rfl (fun hC => ungdA (k := 33) rfl (binS rfl rfl rfl)) rfl ?_
  refine s0 (pickOrA rfl rfl rfl) rfl ?_
  refine nil ?_
  refine hK13 _ ?_
  clear hK13 K13
  refine condE hE rfl (fun hc14 hE => ?_) (fun hc14 hE => ?_)
  ·refine AWp.draw rfl ?_
   refine DOps.s0 moveA rfl ?_
   refine DOps.s0 (fieldVA (TK rfl) rfl rfl (TK rfl) rfl rfl) rfl ?_
   refine DOps.s0 (loadV (TK rfl) rfl rfl rfl) rfl ?_
   obtain ⟨x15, gx15, hE⟩ := bindO_some hE
   refine DOps.s0 (callP rfl rfl (fun H => Z14_walk gx15 H)) rfl ?_
   obtain ⟨x16, gx16, hE⟩ := bindO_some hE
   refine DOps.s0 (catM rfl rfl gx16) rfl ?_
   obtain ⟨x17, gx17, hE⟩ := bindO_some hE
   refine DOps.s0 (catM rfl rfl gx17) rfl ?_
   refine DOps.s0 (fieldVA (TK rfl) rfl rfl (TK rfl) rfl rfl) rfl ?_
   refine DOps.s0 (loadV (TK rfl) rfl rfl rfl) rfl ?_
   obtain ⟨x18, gx18, hE⟩ := bindO_some hE
   refine DOps.s0 (callP rfl rfl (fun H => Z14_walk gx18 H)) rfl ?_
   obtain ⟨x19, gx19, hE⟩ := bindO_some hE
   refine DOps.s0 (catM rfl rfl gx19) rfl ?_
   obtain ⟨x20, gx20, hE⟩ := bindO_some hE
   refine DOps.s0 (catM rfl rfl gx20) rfl ?_
   refine DOps.s0 assignA rfl ?_
   refine DOps.nil (by decide +kernel) ?_
   exact hK10 _ x20 Weak.toA hE
  refine AWp.skip ?_
  exact hK10 _ s3_9 Weak.toA hE
 rintro s3_11 hE
 try dsimp only at hE
 unfold Z1_j10 at hE
 refine seqK fun K12 hK12 => ?_
 refine region ?_
 refine s0 moveA rfl ?_
 refine s0 assignA rfl ?_
 refine nil ?_
 refine hK12 _ ?_
 clear hK12 K12
 refine AWp.ret ?_
 repeat (first | refine xBlock_ret ?_ | refine xThen_ret ?_)
 obtain rfl := Option.some.inj hE
 refine retQ.retF H rfl ⟨rfl, rfl⟩ ?_
 exact (fun _ _ h => h)
section
variable [IsLoud lou]
def Tryz.lay11_ren : Go.Shelf.Ren := ⟨fun | 156 => 11 | 165 => 18 | 166 => 19 | 169 => 20 | 240 => 29 | 241 => 30 | 276 => 49 | 277 => 50 | n => n, fun | 31 => 32 | 9 => 9 | 3 => 3 | 4 => 4 | 0 => 0 | 20 => 20 | 72 => 53 | 76 => 57 | 70 => 50 | 37 => 51 | 75 => 56 | 127 => 80 | 164 => 121 | 5 => 5 | 80 => 59 | n => n, fun | n => n⟩
theorem Tryz.lay11 : Go.Proofs.Lays.n156 Tryz.prog Tryz.lay11_ren := {
 mixed := by kernel_rfl
 f156 := Tryz.func11.trans (congrArg some (by kernel_rfl))
 f165 := Tryz.func18.trans (congrArg some (by kernel_rfl))
 f166 := Tryz.func19.trans (congrArg some (by kernel_rfl))
 f169 := Tryz.func20.trans (congrArg some (by kernel_rfl))
 f240 := Tryz.func29.trans (congrArg some (by kernel_rfl))
 f241 := Tryz.func30.trans (congrArg some (by kernel_rfl))
 f276 := Tryz.func49.trans (congrArg some (by kernel_rfl))
 f277 := Tryz.func50.trans (congrArg some (by kernel_rfl))
 t0 := Tryz.underlying0
 a0 := Tryz.isAgg0
 z0 := Tryz.sizeOf0
 v0 := Tryz.zeroValue0
 t3 := Tryz.underlying3
 a3 := Tryz.isAgg3
 z3 := Tryz.sizeOf3
 v3 := Tryz.zeroValue3
 t4 := Tryz.underlying4
 a4 := Tryz.isAgg4
 z4 := Tryz.sizeOf4
 v4 := Tryz.zeroValue4
 t9 := Tryz.underlying9
 a9 := Tryz.isAgg9
 z9 := Tryz.sizeOf9
 v9 := Tryz.zeroValue9
 t20 := Tryz.underlying20
 a20 := Tryz.isAgg20
 z20 := Tryz.sizeOf20
 v20 := Tryz.zeroValue20
 t31 := Tryz.underlying32
 a31 := Tryz.isAgg32
 z31 := Tryz.sizeOf32
 v31 := Tryz.zeroValue32
 t37 := Tryz.underlying51
 a37 := Tryz.isAgg51
 z37 := Tryz.sizeOf51
 v37 := Tryz.zeroValue51
 t70 := Tryz.underlying50
 a70 := Tryz.isAgg50
 z70 := Tryz.sizeOf50
 v70 := Tryz.zeroValue50
 t72 := Tryz.underlying53
 a72 := Tryz.isAgg53
 z72 := Tryz.sizeOf53
 v72 := Tryz.zeroValue53
 t75 := Tryz.underlying56
 a75 := Tryz.isAgg56
 z75 := Tryz.sizeOf56
 v75 := Tryz.zeroValue56
 t76 := Tryz.underlying57
 a76 := Tryz.isAgg57
 z76 := Tryz.sizeOf57
 v76 := Tryz.zeroValue57
 t127 := Tryz.underlying80
 a127 := Tryz.isAgg80
 z127 := Tryz.sizeOf80
 v127 := Tryz.zeroValue80
 t164 := Tryz.underlying121
 a164 := Tryz.isAgg121
 z164 := Tryz.sizeOf121
 v164 := Tryz.zeroValue121 }
theorem Tryz.extra11 : Builder.Extra Tryz.prog Tryz.lay11_ren where
 sizeBuilder := by kernel_rfl
 liesBuilder := by kernel_rfl
 t5 := Tryz.underlying5
 a5 := Tryz.isAgg5
 z5 := Tryz.sizeOf5
 v5 := Tryz.zeroValue5
 infoByte := by kernel_rfl
 cellsByte := by kernel_rfl
 sizeByte := by kernel_rfl
 neB5 := by decide
def Z44 (s : Sl Bs) (sep : Bs) : Option Bs := joinA s sep
def Z44_q (s : Sl Bs) (sep : Bs) : Option Bs := Z44 s sep
theorem Z44_eq (s : Sl Bs) (sep : Bs) : Z44 s sep = Z44_q s sep := rfl
theorem Z44_walk {a0 : Sl Bs} {a1 : Bs} {w0 : Option Nat} {r : Bs} (hE : Z44 a0 a1 = some r) (H : Heap) : ACalls Tryz.prog 11 [.d (Sl.d 1 strE w0 a0), .d (.str a1)] H fun v h' => v = .a (.d (.str r)) ∧ h' = H := joinA_calls Tryz.lay11 Tryz.extra11 hE rfl
end
section
variable [IsLoud lou]
def Z17_j9 (a0 : TVerdict)  (s3_10 : (Sl Bs)) : Option Bs := (Z44 s3_10 ([44, 32] : Bs)).bind fun x12 => (catC ([98, 114, 101, 97, 107, 115, 32] : Bs) x12).bind fun x13 => (catC x13 ([58, 32] : Bs)).bind fun x14 => (Z1 a0.FChange).bind fun x15 => (catC x14 x15).bind fun x16 => some x16
def Z17_l19 (a0 : TVerdict)  : Nat → (Sl Bs) → Nat → Option Bs
 | 0, _, _ => none
 | n19 + 1, s3_20, s15_21 => bif (decide (((s15_21 : Nat) : Int) < ((a0.FBreaks.l.length : Nat) : Int))) then ((a0.FBreaks.l[s15_21]?).bind fun x27 => (Z40 x27).bind fun x28 => (appC 16 s3_20 (⟨false, [x28]⟩ : Sl Bs)).bind fun x29 => (Z17_l19 a0 n19) x29 (s15_21 + 1)) else (Z17_j9 a0  s3_20)
def Z17 (a0 : TVerdict) : Option Bs := bif a0.FSafe then ((Z1 a0.FChange).bind fun x6 => (catC ([115, 97, 102, 101, 58, 32] : Bs) x6).bind fun x7 => some x7) else (Z17_l19 a0 (a0.FBreaks.l.length + 1) (Sl.nil : Sl Bs) 0)
theorem Z17_walk {a0 : TVerdict} {oT : Ab.Obj} {gT : Nat} {r : Bs} (hE : Z17 a0 = some r) (H : Heap) (hgT : H gT = some oT) (hoT : IsTab Tryz.prog oT) : ACalls Tryz.prog 4 [.agg (TVerdict.c a0)] H fun v h' => v = .a (.d (.str r)) ∧ h' = H := by
 unfold Z17 at hE
 refine ACalls.of_wp (fn := Tryz.f4) (c := _) Tryz.tab_ok (fun _ _ => Tryz.call4 _ _) Tryz.func4 rfl (n := 33) rfl (rs := [.tmp 2]) rfl rfl ?_
 refine AWp.tok 1 fun tk1 htk1 => ?_
 have ne_tk1_gT : tk1 ≠ gT := fun e_ => by subst e_; simp_all
 refine seqK fun K1 hK1 => ?_
 refine region ?_
 refine s0 (boxV rfl) rfl ?_
 refine s0 assignA rfl ?_
 refine nil ?_
 refine hK1 _ ?_
 clear hK1 K1
 refine seqK fun K2 hK2 => ?_
 refine seqK fun K3 hK3 => ?_
 refine region ?_
 refine s0 (fieldVA (TK rfl) rfl rfl (TK rfl) rfl rfl) rfl ?_
 refine s0 (loadV (TK rfl) rfl rfl rfl) rfl ?_
 refine nil ?_
 refine hK3 _ ?_
 clear hK3 K3
 refine condE hE rfl (fun hc4 hE => ?_) (fun hc4 hE => ?_)
 ·refine seqK fun K5 hK5 => ?_
  refine region ?_
  refine s0 (fieldVA (TK rfl) rfl rfl (TK rfl) rfl rfl) rfl ?_
  refine s0 (loadV (TK rfl) rfl rfl rfl) rfl ?_
  obtain ⟨x6, gx6, hE⟩ := bindO_some hE
  refine s0 (callR rfl rfl (Z1_walk (gT := gT) (oT := oT) gx6 _ hpG (by assumption))) rfl ?_
  obtain ⟨x7, gx7, hE⟩ := bindO_some hE
  refine s0 (catM rfl rfl gx7) rfl ?_
  refine s0 assignA rfl ?_
  refine nil ?_
  refine hK5 _ ?_
  clear hK5 K5
  refine AWp.ret ?_
  repeat (first | refine xBlock_ret ?_ | refine xThen_ret ?_)
  obtain rfl := Option.some.inj hE
  refine retQ.retF H rfl ⟨rfl, rfl⟩ ?_
  first | exact Heap.sub_set htk1 | (simp only [Heap.set_set]; exact Heap.sub_set htk1)
 refine AWp.skip ?_
 refine hK2 _ ?_
 clear hK2 K2
 refine seqK fun K8 hK8 => ?_
 refine region ?_
 refine s0 assignA rfl ?_
 refine nil ?_
 refine hK8 _ ?_
 clear hK8 K8
 refine AWp.nilTok 3 1 tk1 rfl hpG ?_
 refine seqJH (KeepsT.A (k := 1) KeepsT.nil) (fun (z : (Sl Bs)) => [(3, .a (.d (Sl.d 1 strE (some tk1) z)))]) (fun z => (H.set tk1 (some (.tok 1 z.l.length)))) (fun z => Z17_j9 a0 z = some r) ?_ ?_
 ·intro K9 hK9
  refine seqK fun K17 hK17 => ?_
  refine region ?_
  refine s0 (fieldVA (TK rfl) rfl rfl (TK rfl) rfl rfl) rfl ?_
  refine s0 (loadV (TK rfl) rfl rfl rfl) rfl ?_
  refine sLen (f := (intE .i64)) (s := a0.FBreaks) (TK rfl) rfl rfl rfl rfl fun hL18 => ?_
  refine s0 moveA rfl ?_
  refine nil ?_
  refine hK17 _ ?_
  clear hK17 K17
  refine block ?_
  refine loopH (KeepsT.A (k := 1) (KeepsT.A (k := 13) (KeepsT.A (k := 14) KeepsT.nil))) (fun (z : Nat × (Sl Bs) × Nat) => [(3, .a (.d (Sl.d 1 strE (some tk1) z.2.1))), (15, .a (.d (.int .i64 ((z.2.2 : Nat) : Int))))]) (fun z => (H.set tk1 (some (.tok 1 z.2.1.l.length)))) (fun z => z.1) (fun z => Z17_l19 a0 z.1 z.2.1 z.2.2 = some r) ((a0.FBreaks.l.length + 1), (Sl.nil : Sl Bs), 0) hE Weak.toA ?_
  rintro ⟨n19, s3_20, s15_21⟩ hE K19 hK19
  try dsimp only at hE
  cases n19 with
  | zero => cases hE
  | succ n19 =>
    rw [Z17_l19] at hE
    refine seqK fun K22 hK22 => ?_
    refine region ?_
    refine s0 (binI rfl rfl rfl) rfl ?_
    refine nil ?_
    refine hK22 _ ?_
    clear hK22 K22
    refine seqK fun K23 hK23 => ?_
    refine condE hE rfl (fun hc24 hE => ?_) (fun hc24 hE => ?_)
    ·try dsimp only at hc24
     have hf24 := of_decide_eq_true hc24
     refine AWp.skip ?_
     refine hK23 _ ?_
     clear hK23 K23
     refine seqK fun K25 hK25 => ?_
     refine block ?_
     refine seqK fun K26 hK26 => ?_
     refine region ?_
     obtain ⟨x27, gx27, hE⟩ := bindO_some hE
     refine s0 (idxMn (f := (intE .i64)) (n := s15_21) (TK rfl) rfl (TK rfl) rfl rfl rfl gx27) rfl ?_
     refine s0 (loadV (TK rfl) rfl rfl rfl) rfl ?_
     refine s0 assignA rfl ?_
     refine nil ?_
     refine hK26 _ ?_
     clear hK26 K26
     refine region ?_
     refine s0 moveA rfl ?_
     refine s0 moveA rfl ?_
     obtain ⟨x28, gx28, hE⟩ := bindO_some hE
     refine s0 (callR rfl rfl (Z40_walk (gT := gT) (oT := oT) gx28 _ hpG (by assumption))) rfl ?_
     refine s0 (buildSlice (TK rfl) rfl (TK rfl) rfl rfl rfl rfl rfl rfl) rfl ?_
     obtain ⟨x29, gx29, hE⟩ := bindO_some hE
     refine sH (appM (f := strE) (TK rfl) rfl (TK rfl) (TK rfl) ⟨_, rfl⟩ rfl rfl (by decide) rfl rfl rfl rfl hpG rfl gx29) rfl ?_
     refine AOps.heq (h' := (H.set tk1 (some (.tok 1 x29.l.length)))) (by first | rfl | (rw [Heap.set_set]; rfl) | (funext n_; simp only [Heap.set]; (repeat' split) <;> first | rfl | (exfalso; simp_all; done) | (simp_all; done))) ?_
     refine s0 assignA rfl ?_
     refine nil ?_
     refine hK25 _ ?_
     clear hK25 K25
     refine region ?_
     refine s0 (addI rfl rfl (by first | omega | (dsimp only; omega) | (simp at *; omega)) (by first | omega | (dsimp only; omega) | (simp at *; omega))) rfl ?_
     refine s0 moveA rfl ?_
     refine nil ?_
     exact hK19 _ (n19, x29, (s15_21 + 1)) Weak.toA hE (Nat.lt_succ_self _)
    refine AWp.exit ?_
    exact hK9 _ s3_20 Weak.toA hE
 rintro s3_10 hE
 try dsimp only at hE
 unfold Z17_j9 at hE
 refine seqK fun K11 hK11 => ?_
 refine AWp.draw rfl ?_
 refine DOps.s0 moveA rfl ?_
 obtain ⟨x12, gx12, hE⟩ := bindO_some hE
 refine DOps.s0 (callP rfl rfl (fun H => Z44_walk gx12 H)) rfl ?_
 obtain ⟨x13, gx13, hE⟩ := bindO_some hE
 refine DOps.s0 (catM rfl rfl gx13) rfl ?_
 obtain ⟨x14, gx14, hE⟩ := bindO_some hE
 refine DOps.s0 (catM rfl rfl gx14) rfl ?_
 refine DOps.s0 (fieldVA (TK rfl) rfl rfl (TK rfl) rfl rfl) rfl ?_
 refine DOps.s0 (loadV (TK rfl) rfl rfl rfl) rfl ?_
 obtain ⟨x15, gx15, hE⟩ := bindO_some hE
 refine DOps.s0 (callR rfl rfl (Z1_walk (gT := gT) (oT := oT) gx15 _ hpG (by assumption))) rfl ?_
 obtain ⟨x16, gx16, hE⟩ := bindO_some hE
 refine DOps.s0 (catM rfl rfl gx16) rfl ?_
 refine DOps.s0 assignA rfl ?_
 refine DOps.nil (by decide +kernel) ?_
 refine hK11 _ ?_
 clear hK11 K11
 refine AWp.ret ?_
 repeat (first | refine xBlock_ret ?_ | refine xThen_ret ?_)
 obtain rfl := Option.some.inj hE
 refine retQ.retF H rfl ⟨rfl, rfl⟩ ?_
 first | exact Heap.sub_set htk1 | (simp only [Heap.set_set]; exact Heap.sub_set htk1)
end
def Z24_n : Nat → Int → Option Bs
 | 0, _ => none
 | n + 1, a0 => (subC (48 : Int) (Int.tmod a0 (10 : Int))).bind fun x3 => bif (decide ((-10 : Int) < a0)) then (some (bytesC (⟨false, [(IntKind.wrap .u8 x3)]⟩ : Sl Int))) else (((Z24_n n) (IntKind.wrap .i64 (Int.tdiv a0 (10 : Int)))).bind fun x9 => (catC x9 (bytesC (⟨false, [(IntKind.wrap .u8 x3)]⟩ : Sl Int))).bind fun x10 => some x10)
theorem Z24_step (n : Nat) (ih_23 : ∀ {a0 : Int}   {r : Bs}, Z24_n n a0 = some r → ∀ (H : Heap), ACalls Tryz.prog 23 [.d (.int .i64 a0)] H fun v h' => v = .a (.d (.str r)) ∧ h' = H) : ∀ {a0 : Int}   {r : Bs}, Z24_n (n + 1) a0 = some r → ∀ (H : Heap), ACalls Tryz.prog 23 [.d (.int .i64 a0)] H fun v h' => v = .a (.d (.str r)) ∧ h' = H := by
 intro a0   r hE H 
 rw [Z24_n] at hE
 refine ACalls.of_wp (fn := Tryz.f23) (c := _) Tryz.tab_ok (fun _ _ => Tryz.call23 _ _) Tryz.func23 rfl (n := 18) rfl (rs := [.tmp 2]) rfl rfl ?_
 refine seqK fun K1 hK1 => ?_
 refine region ?_
 refine s0 assignA rfl ?_
 refine nil ?_
 refine hK1 _ ?_
 clear hK1 K1
 refine seqK fun K2 hK2 => ?_
 refine region ?_
 refine s0 moveA rfl ?_
 refine s0 (remI rfl rfl (by decide)) rfl ?_
 obtain ⟨x3, gx3, hE⟩ := bindO_some hE
 refine s0 (subM rfl rfl gx3) rfl ?_
 refine s0 (convI (TK rfl) (TK rfl) rfl rfl) rfl ?_
 refine s0 (buildSlice (TK rfl) rfl (TK rfl) rfl rfl rfl rfl rfl rfl) rfl ?_
 refine s0 (convB (y := (⟨false, [(IntKind.wrap .u8 x3)]⟩ : Sl Int)) (TK rfl) rfl (TK rfl) rfl (TK rfl) rfl rfl) rfl ?_
 refine s0 assignA rfl ?_
 refine nil ?_
 refine hK2 _ ?_
 clear hK2 K2
 refine seqK fun K4 hK4 => ?_
 refine seqK fun K5 hK5 => ?_
 refine region ?_
 refine s0 moveA rfl ?_
 refine s0 (binI rfl rfl rfl) rfl ?_
 refine nil ?_
 refine hK5 _ ?_
 clear hK5 K5
 refine condE hE rfl (fun hc6 hE => ?_) (fun hc6 hE => ?_)
 ·refine seqK fun K7 hK7 => ?_
  refine region ?_
  refine s0 moveA rfl ?_
  refine s0 assignA rfl ?_
  refine nil ?_
  refine hK7 _ ?_
  clear hK7 K7
  refine AWp.ret ?_
  repeat (first | refine xBlock_ret ?_ | refine xThen_ret ?_)
  obtain rfl := Option.some.inj hE
  refine retQ.retF H rfl ⟨rfl, rfl⟩ ?_
  exact (fun _ _ h => h)
 refine AWp.skip ?_
 refine hK4 _ ?_
 clear hK4 K4
 refine seqK fun K8 hK8 => ?_
 refine region ?_
 refine s0 moveA rfl ?_
 refine s0 (quoI rfl rfl (by decide)) rfl ?_
 obtain ⟨x9, gx9, hE⟩ := bindO_some hE
 refine s0 (callP rfl rfl (fun H => ih_23 gx9 H)) rfl ?_
 refine s0 moveA rfl ?_
 obtain ⟨x10, gx10, hE⟩ := bindO_some hE
 refine s0 (catM rfl rfl gx10) rfl ?_
 refine s0 assignA rfl ?_
 refine nil ?_
 refine hK8 _ ?_
 clear hK8 K8
 refine AWp.ret ?_
 repeat (first | refine xBlock_ret ?_ | refine xThen_ret ?_)
 obtain rfl := Option.some.inj hE
 refine retQ.retF H rfl ⟨rfl, rfl⟩ ?_
 exact (fun _ _ h => h)
theorem Z24_all : ∀ (n : Nat), (∀ {a0 : Int}   {r : Bs}, Z24_n n a0 = some r → ∀ (H : Heap), ACalls Tryz.prog 23 [.d (.int .i64 a0)] H fun v h' => v = .a (.d (.str r)) ∧ h' = H)
 | 0 => fun hE => by first | cases hE | (rw [Z24_n] at hE; cases hE)
 | n + 1 => Z24_step n (Z24_all n)
def Z24 (a0 : Int) : Option Bs := Z24_n F0 a0
theorem Z24_walk {a0 : Int}   {r : Bs} (hE : Z24 a0 = some r) (H : Heap)  : ACalls Tryz.prog 23 [.d (.int .i64 a0)] H fun v h' => v = .a (.d (.str r)) ∧ h' = H := (Z24_all F0) hE H 
def Z23 (a0 : Int) : Option Bs := bif (decide (a0 < (0 : Int))) then ((Z24 a0).bind fun x6 => (catC ([45] : Bs) x6).bind fun x7 => some x7) else ((Z24 (IntKind.wrap .i64 (0 - a0))).bind fun x9 => some x9)
theorem Z23_walk {a0 : Int}   {r : Bs} (hE : Z23 a0 = some r) (H : Heap)  : ACalls Tryz.prog 13 [.d (.int .i64 a0)] H fun v h' => v = .a (.d (.str r)) ∧ h' = H := by
 unfold Z23 at hE
 refine ACalls.of_wp (fn := Tryz.f13) (c := _) Tryz.tab_ok (fun _ _ => Tryz.call13 _ _) Tryz.func13 rfl (n := 11) rfl (rs := [.tmp 2]) rfl rfl ?_
 refine seqK fun K1 hK1 => ?_
 refine region ?_
 refine s0 assignA rfl ?_
 refine nil ?_
 refine hK1 _ ?_
 clear hK1 K1
 refine seqK fun K2 hK2 => ?_
 refine seqK fun K3 hK3 => ?_
 refine region ?_
 refine s0 moveA rfl ?_
 refine s0 (binI rfl rfl rfl) rfl ?_
 refine nil ?_
 refine hK3 _ ?_
 clear hK3 K3
 refine condE hE rfl (fun hc4 hE => ?_) (fun hc4 hE => ?_)
 ·refine seqK fun K5 hK5 => ?_
  refine region ?_
  refine s0 moveA rfl ?_
  obtain ⟨x6, gx6, hE⟩ := bindO_some hE
  refine s0 (callP rfl rfl (fun H => Z24_walk gx6 H)) rfl ?_
  obtain ⟨x7, gx7, hE⟩ := bindO_some hE
  refine s0 (catM rfl rfl gx7) rfl ?_
  refine s0 assignA rfl ?_
  refine nil ?_
  refine hK5 _ ?_
  clear hK5 K5
  refine AWp.ret ?_
  repeat (first | refine xBlock_ret ?_ | refine xThen_ret ?_)
  obtain rfl := Option.some.inj hE
  refine retQ.retF H rfl ⟨rfl, rfl⟩ ?_
  exact (fun _ _ h => h)
 refine AWp.skip ?_
 refine hK2 _ ?_
 clear hK2 K2
 refine seqK fun K8 hK8 => ?_
 refine region ?_
 refine s0 moveA rfl ?_
 refine s0 (negI rfl) rfl ?_
 obtain ⟨x9, gx9, hE⟩ := bindO_some hE
 refine s0 (callP rfl rfl (fun H => Z24_walk gx9 H)) rfl ?_
 refine s0 assignA rfl ?_
 refine nil ?_
 refine hK8 _ ?_
 clear hK8 K8
 refine AWp.ret ?_
 repeat (first | refine xBlock_ret ?_ | refine xThen_ret ?_)
 obtain rfl := Option.some.inj hE
 refine retQ.retF H rfl ⟨rfl, rfl⟩ ?_
 exact (fun _ _ h => h)
def Z26 (a0 : Int) : Option Bs := bif ((decide ((1 : Int) ≤ a0)) && (decide (a0 ≤ (((⟨false, [([84, 121, 112, 101, 71, 111, 110, 101] : Bs), ([84, 121, 112, 101, 78, 101, 119] : Bs), ([84, 121, 112, 101, 75, 105, 110, 100] : Bs), ([70, 105, 101, 108, 100, 71, 111, 110, 101] : Bs), ([70, 105, 101, 108, 100, 78, 101, 119] : Bs), ([70, 105, 101, 108, 100, 84, 121, 112, 101] : Bs), ([65, 114, 103, 71, 111, 110, 101] : Bs), ([65, 114, 103, 78, 101, 119] : Bs), ([65, 114, 103, 84, 121, 112, 101] : Bs), ([65, 114, 103, 68, 101, 102, 97, 117, 108, 116] : Bs), ([77, 101, 109, 98, 101, 114, 71, 111, 110, 101] : Bs), ([77, 101, 109, 98, 101, 114, 78, 101, 119] : Bs), ([73, 110, 112, 117, 116, 71, 111, 110, 101] : Bs), ([73, 110, 112, 117, 116, 78, 101, 119] : Bs), ([73, 110, 112, 117, 116, 84, 121, 112, 101] : Bs), ([73, 110, 112, 117, 116, 68, 101, 102, 97, 117, 108, 116] : Bs), ([70, 97, 99, 101, 71, 111, 110, 101] : Bs), ([70, 97, 99, 101, 78, 101, 119] : Bs)]⟩ : Sl Bs).l.length : Nat) : Int)))) then ((subC a0 (1 : Int)).bind fun x7 => (idxC (⟨false, [([84, 121, 112, 101, 71, 111, 110, 101] : Bs), ([84, 121, 112, 101, 78, 101, 119] : Bs), ([84, 121, 112, 101, 75, 105, 110, 100] : Bs), ([70, 105, 101, 108, 100, 71, 111, 110, 101] : Bs), ([70, 105, 101, 108, 100, 78, 101, 119] : Bs), ([70, 105, 101, 108, 100, 84, 121, 112, 101] : Bs), ([65, 114, 103, 71, 111, 110, 101] : Bs), ([65, 114, 103, 78, 101, 119] : Bs), ([65, 114, 103, 84, 121, 112, 101] : Bs), ([65, 114, 103, 68, 101, 102, 97, 117, 108, 116] : Bs), ([77, 101, 109, 98, 101, 114, 71, 111, 110, 101] : Bs), ([77, 101, 109, 98, 101, 114, 78, 101, 119] : Bs), ([73, 110, 112, 117, 116, 71, 111, 110, 101] : Bs), ([73, 110, 112, 117, 116, 78, 101, 119] : Bs), ([73, 110, 112, 117, 116, 84, 121, 112, 101] : Bs), ([73, 110, 112, 117, 116, 68, 101, 102, 97, 117, 108, 116] : Bs), ([70, 97, 99, 101, 71, 111, 110, 101] : Bs), ([70, 97, 99, 101, 78, 101, 119] : Bs)]⟩ : Sl Bs).l x7).bind fun x8 => some x8) else ((Z23 a0).bind fun x10 => (catC ([67, 104, 97, 110, 103, 101, 32] : Bs) x10).bind fun x11 => some x11)
theorem Z26_walk {a0 : Int}   {r : Bs} (hE : Z26 a0 = some r) (H : Heap)  : ACalls Tryz.prog 21 [.d (.int .i64 a0)] H fun v h' => v = .a (.d (.str r)) ∧ h' = H := by
 unfold Z26 at hE
 refine ACalls.of_wp (fn := Tryz.f21) (c := _) Tryz.tab_ok (fun _ _ => Tryz.call21 _ _) Tryz.func21 rfl (n := 21) rfl (rs := [.tmp 2]) rfl rfl ?_
 refine seqK fun K1 hK1 => ?_
 refine region ?_
 refine s0 assignA rfl ?_
 refine nil ?_
 refine hK1 _ ?_
 clear hK1 K1
 refine seqK fun K2 hK2 => ?_
 refine region ?_
 refine s0 (buildSlice (TK rfl) rfl (TK rfl) rfl rfl rfl rfl rfl rfl) rfl ?_
 refine s0 assignA rfl ?_
 refine nil ?_
 refine hK2 _ ?_
 clear hK2 K2
 refine seqK fun K3 hK3 => ?_
 refine seqK fun K4 hK4 => ?_
 refine region ?_
 refine s0 moveA rfl ?_
 refine s0 (binI rfl rfl rfl) rfl ?_
 refine s0 moveA rfl ?_
 refine gC rfl rfl (fun hC => moveA) rfl ?_
 refine gC rfl rfl (fun hC => moveA) rfl ?_
 refine gC rfl rfl (fun hC => ungdA (k := 9) rfl (lenM' (f := strE) (s := (⟨false, [([84, 121, 112, 101, 71, 111, 110, 101] : Bs), ([84, 121, 112, 101, 78, 101, 119] : Bs), ([84, 121, 112, 101, 75, 105, 110, 100] : Bs), ([70, 105, 101, 108, 100, 71, 111, 110, 101] : Bs), ([70, 105, 101, 108, 100, 78, 101, 119] : Bs), ([70, 105, 101, 108, 100, 84, 121, 112, 101] : Bs), ([65, 114, 103, 71, 111, 110, 101] : Bs), ([65, 114, 103, 78, 101, 119] : Bs), ([65, 114, 103, 84, 121, 112, 101] : Bs), ([65, 114, 103, 68, 101, 102, 97, 117, 108, 116] : Bs), ([77, 101, 109, 98, 101, 114, 71, 111, 110, 101] : Bs), ([77, 101, 109, 98, 101, 114, 78, 101, 119] : Bs), ([73, 110, 112, 117, 116, 71, 111, 110, 101] : Bs), ([73, 110, 112, 117, 116, 78, 101, 119] : Bs), ([73, 110, 112, 117, 116, 84, 121, 112, 101] : Bs), ([73, 110, 112, 117, 116, 68, 101, 102, 97, 117, 108, 116] : Bs), ([70, 97, 99, 101, 71, 111, 110, 101] : Bs), ([70, 97, 99, 101, 78, 101, 119] : Bs)]⟩ : Sl Bs)) (TK rfl) rfl rfl rfl)) rfl ?_
 refine gC rfl rfl (fun hC => ungdA (k := 8) rfl (ungdA (k := 10) rfl (binI rfl rfl rfl))) rfl ?_
 refine s0 (pickAndA rfl rfl rfl) rfl ?_
 refine nil ?_
 refine hK4 _ ?_
 clear hK4 K4
 refine condE hE rfl (fun hc5 hE => ?_) (fun hc5 hE => ?_)
 ·refine seqK fun K6 hK6 => ?_
  refine region ?_
  refine s0 moveA rfl ?_
  refine s0 moveA rfl ?_
  obtain ⟨x7, gx7, hE⟩ := bindO_some hE
  refine s0 (subM rfl rfl gx7) rfl ?_
  obtain ⟨x8, gx8, hE⟩ := bindO_some hE
  refine s0 (idxM (f := strE) (TK rfl) rfl (TK rfl) rfl rfl rfl gx8) rfl ?_
  refine s0 (loadV (TK rfl) rfl rfl rfl) rfl ?_
  refine s0 assignA rfl ?_
  refine nil ?_
  refine hK6 _ ?_
  clear hK6 K6
  refine AWp.ret ?_
  repeat (first | refine xBlock_ret ?_ | refine xThen_ret ?_)
  obtain rfl := Option.some.inj hE
  refine retQ.retF H rfl ⟨rfl, rfl⟩ ?_
  exact (fun _ _ h => h)
 refine AWp.skip ?_
 refine hK3 _ ?_
 clear hK3 K3
 refine seqK fun K9 hK9 => ?_
 refine region ?_
 refine s0 moveA rfl ?_
 obtain ⟨x10, gx10, hE⟩ := bindO_some hE
 refine s0 (callP rfl rfl (fun H => Z23_walk gx10 H)) rfl ?_
 obtain ⟨x11, gx11, hE⟩ := bindO_some hE
 refine s0 (catM rfl rfl gx11) rfl ?_
 refine s0 assignA rfl ?_
 refine nil ?_
 refine hK9 _ ?_
 clear hK9 K9
 refine AWp.ret ?_
 repeat (first | refine xBlock_ret ?_ | refine xThen_ret ?_)
 obtain rfl := Option.some.inj hE
 refine retQ.retF H rfl ⟨rfl, rfl⟩ ?_
 exact (fun _ _ h => h)
def Z27 (a0 : Bs) : Option Bs := bif ((a0 == ([] : Bs))) then (some ([110, 111, 110, 101] : Bs)) else (some a0)
theorem Z27_walk {a0 : Bs}   {r : Bs} (hE : Z27 a0 = some r) (H : Heap)  : ACalls Tryz.prog 22 [.d (.str a0)] H fun v h' => v = .a (.d (.str r)) ∧ h' = H := by
 unfold Z27 at hE
 refine ACalls.of_wp (fn := Tryz.f22) (c := _) Tryz.tab_ok (fun _ _ => Tryz.call22 _ _) Tryz.func22 rfl (n := 6) rfl (rs := [.tmp 2]) rfl rfl ?_
 refine seqK fun K1 hK1 => ?_
 refine region ?_
 refine s0 assignA rfl ?_
 refine nil ?_
 refine hK1 _ ?_
 clear hK1 K1
 refine seqK fun K2 hK2 => ?_
 refine seqK fun K3 hK3 => ?_
 refine region ?_
 refine s0 moveA rfl ?_
 refine s0 (binS rfl rfl rfl) rfl ?_
 refine nil ?_
 refine hK3 _ ?_
 clear hK3 K3
 refine condE hE rfl (fun hc4 hE => ?_) (fun hc4 hE => ?_)
 ·refine seqK fun K5 hK5 => ?_
  refine region ?_
  refine s0 assignA rfl ?_
  refine nil ?_
  refine hK5 _ ?_
  clear hK5 K5
  refine AWp.ret ?_
  repeat (first | refine xBlock_ret ?_ | refine xThen_ret ?_)
  obtain rfl := Option.some.inj hE
  refine retQ.retF H rfl ⟨rfl, rfl⟩ ?_
  exact (fun _ _ h => h)
 refine AWp.skip ?_
 refine hK2 _ ?_
 clear hK2 K2
 refine seqK fun K6 hK6 => ?_
 refine region ?_
 refine s0 moveA rfl ?_
 refine s0 assignA rfl ?_
 refine nil ?_
 refine hK6 _ ?_
 clear hK6 K6
 refine AWp.ret ?_
 repeat (first | refine xBlock_ret ?_ | refine xThen_ret ?_)
 obtain rfl := Option.some.inj hE
 refine retQ.retF H rfl ⟨rfl, rfl⟩ ?_
 exact (fun _ _ h => h)
end Go.Proofs

namespace Go.Proofs
open Go Go.Ab
open AOps Cert AWp
variable {lou : Lou}
def Z25_j10  (s3_11 : Bs) : Option Bs := some s3_11
def Z25_j8 (a0 : TChange)  (s3_9 : Bs) : Option Bs := bif ((!(a0.FFrom == ([] : Bs))) || (!(a0.FTo == ([] : Bs)))) then ((catC s3_9 ([58, 32] : Bs)).bind fun x15 => (Z27 a0.FFrom).bind fun x16 => (catC x15 x16).bind fun x17 => (catC x17 ([32, 45, 62, 32] : Bs)).bind fun x18 => (Z27 a0.FTo).bind fun x19 => (catC x18 x19).bind fun x20 => Z25_j10   x20) else (Z25_j10   s3_9)
def Z25_j6 (a0 : TChange)  (s3_7 : Bs) : Option Bs := bif (!(a0.FArg == ([] : Bs))) then ((catC s3_7 ([40] : Bs)).bind fun x23 => (catC x23 a0.FArg).bind fun x24 => (catC x24 ([41] : Bs)).bind fun x25 => Z25_j8 a0  x25) else (Z25_j8 a0  s3_7)
def Z25 (a0 : TChange) : Option Bs := (Z26 a0.FKind).bind fun x3 => (catC x3 ([32] : Bs)).bind fun x4 => (catC x4 a0.FType).bind fun x5 => bif (!(a0.FField == ([] : Bs))) then ((catC x5 ([46] : Bs)).bind fun x28 => (catC x28 a0.FField).bind fun x29 => Z25_j6 a0  x29) else (Z25_j6 a0  x5)
theorem Z25_walk {a0 : TChange}   {r : Bs} (hE : Z25 a0 = some r) (H : Heap)  : ACalls Tryz.prog 12 [.agg (TChange.c a0)] H fun v h' => v = .a (.d (.str r)) ∧ h' = H := by
 unfold Z25 at hE
 refine ACalls.of_wp (fn := Tryz.f12) (c := _) Tryz.tab_ok (fun _ _ => Tryz.call12 _ _) Tryz.func12 rfl (n := 48) rfl (rs := [.tmp 2]) rfl rfl ?_
 refine seqK fun K1 hK1 => ?_
 refine region ?_
 refine s0 (boxV rfl) rfl ?_
 refine s0 assignA rfl ?_
 refine nil ?_
 refine hK1 _ ?_
 clear hK1 K1
 refine seqK fun K2 hK2 => ?_
 refine AWp.draw rfl ?_
 refine DOps.s0 (fieldVA (TK rfl) rfl rfl (TK rfl) rfl rfl) rfl ?_
 refine DOps.s0 (loadV (TK rfl) rfl rfl rfl) rfl ?_
 obtain ⟨x3, gx3, hE⟩ := bindO_some hE
 refine DOps.s0 (callP rfl rfl (fun H => Z26_walk gx3 H)) rfl ?_
 obtain ⟨x4, gx4, hE⟩ := bindO_some hE
 refine DOps.s0 (catM rfl rfl gx4) rfl ?_
 refine DOps.s0 (fieldVA (TK rfl) rfl rfl (TK rfl) rfl rfl) rfl ?_
 refine DOps.s0 (loadV (TK rfl) rfl rfl rfl) rfl ?_
 obtain ⟨x5, gx5, hE⟩ := bindO_some hE
 refine DOps.s0 (catM rfl rfl gx5) rfl ?_
 refine DOps.s0 assignA rfl ?_
 refine DOps.nil (by decide +kernel) ?_
 refine hK2 _ ?_
 clear hK2 K2
 refine seqJH (KeepsT.A (k := 1) KeepsT.nil) (fun (z : Bs) => [(3, .a (.d (.str z)))]) (fun z => H) (fun z => Z25_j6 a0 z = some r) ?_ ?_
 ·intro K6 hK6
  refine seqK fun K26 hK26 => ?_
  refine region ?_
  refine s0 (fieldVA (TK rfl) rfl rfl (TK rfl) rfl rfl) rfl ?_
  refine s0 (loadV (TK rfl) rfl rfl rfl) rfl ?_
  refine s0 (binS rfl rfl rfl) rfl ?_
  refine nil ?_
  refine hK26 _ ?_
  clear hK26 K26
  refine condE hE rfl (fun hc27 hE => ?_) (fun hc27 hE => ?_)
  ·refine region ?_
   refine s0 moveA rfl ?_
   obtain ⟨x28, gx28, hE⟩ := bindO_some hE
   refine s0 (catM rfl rfl gx28) rfl ?_
   refine s0 (fieldVA (TK rfl) rfl rfl (TK rfl) rfl rfl) rfl ?_
   refine s0 (loadV (TK rfl) rfl rfl rfl) rfl ?_
   obtain ⟨x29, gx29, hE⟩ := bindO_some hE
   refine s0 (catM rfl rfl gx29) rfl ?_
   refine s0 assignA rfl ?_
   refine nil ?_
   exact hK6 _ x29 Weak.toA hE
  refine AWp.skip ?_
  exact hK6 _ x5 Weak.toA hE
 rintro s3_7 hE
 try dsimp only at hE
 unfold Z25_j6 at hE
 refine seqJH (KeepsT.A (k := 1) KeepsT.nil) (fun (z : Bs) => [(3, .a (.d (.str z)))]) (fun z => H) (fun z => Z25_j8 a0 z = some r) ?_ ?_
 ·intro K8 hK8
  refine seqK fun K21 hK21 => ?_
  refine region ?_
  refine s0 (fieldVA (TK rfl) rfl rfl (TK rfl) rfl rfl) rfl ?_
  refine s0 (loadV (TK rfl) rfl rfl rfl) rfl ?_
  refine s0 (binS rfl rfl rfl) rfl ?_
  refine nil ?_
  refine hK21 _ ?_
  clear hK21 K21
  refine condE hE rfl (fun hc22 hE => ?_) (fun hc22 hE => ?_)
  ·refine region ?_
   refine s0 moveA rfl ?_
   obtain ⟨x23, gx23, hE⟩ := bindO_some hE
   refine s0 (catM rfl rfl gx23) rfl ?_
   refine s0 (fieldVA (TK rfl) rfl rfl (TK rfl) rfl rfl) rfl ?_
   refine s0 (loadV (TK rfl) rfl rfl rfl) rfl ?_
   obtain ⟨x24, gx24, hE⟩ := bindO_some hE
   refine s0 (catM rfl rfl gx24) rfl ?_
   obtain ⟨x25, gx25, hE⟩ := bindO_some hE
   refine s0 (catM rfl rfl gx25) rfl ?_
   refine s0 assignA rfl ?_
   refine nil ?_
   exact hK8 _ x25 Weak.toA hE
  refine AWp.skip ?_
  exact hK8 _ s3_7 Weak.toA hE
 rintro s3_9 hE
 try dsimp only at hE
 unfold Z25_j8 at hE
 refine seqJH KeepsT.nil (fun (z : Bs) => [(3, .a (.d (.str z)))]) (fun z => H) (fun z => Z25_j10 z = some r) ?_ ?_
 ·intro K10 hK10
  refine seqK fun K13 hK13 => ?_
  refine region ?_
  refine s0 (fieldVA (TK rfl) rfl rfl (TK rfl) rfl rfl) rfl ?_
  refine s0 (loadV (TK rfl) rfl rfl rfl) rfl ?_
  refine s0 (binS rfl rfl rfl) rfl ?_
  refine s0 moveA rfl ?_
  refine gC rfl rfl (fun hC => fieldVA (TK rfl) rfl rfl (TK rfl) rfl rfl) rfl ?_
  refine gC rfl rfl (fun hC => ungdA (k := 32) rfl (loadV (TK rfl) rfl rfl rfl)) rfl ?_
  refine gC rfl rfl (fun hC => ungdA (k := 33) rfl (binS rfl rfl rfl)) rfl ?_
  refine s0 (pickOrA rfl rfl rfl) rfl ?_
  refine nil ?_
  refine hK13 _ ?_
  clear hK13 K13
  refine condE hE rfl (fun hc14 hE => ?_) (fun hc14 hE => ?_)
  ·refine AWp.draw rfl ?_
   refine DOps.s0 moveA rfl ?_
   obtain ⟨x15, gx15, hE⟩ := bindO_some hE
   refine DOps.s0 (catM rfl rfl gx15) rfl ?_
   refine DOps.s0 (fieldVA (TK rfl) rfl rfl (TK rfl) rfl rfl) rfl ?_
   refine DOps.s0 (loadV (TK rfl) rfl rfl rfl) rfl ?_
   obtain ⟨x16, gx16, hE⟩ := bindO_some hE
   refine DOps.s0 (callP rfl rfl (fun H => Z27_walk gx16 H)) rfl ?_
   obtain ⟨x17, gx17, hE⟩ := bindO_some hE
   refine DOps.s0 (catM rfl rfl gx17) rfl ?_
   obtain ⟨x18, gx18, hE⟩ := bindO_some hE
   refine DOps.s0 (catM rfl rfl gx18) rfl ?_
   refine DOps.s0 (fieldVA (TK rfl) rfl rfl (TK rfl) rfl rfl) rfl ?_
   refine DOps.s0 (loadV (TK rfl) rfl rfl rfl) rfl ?_
   obtain ⟨x19, gx19, hE⟩ := bindO_some hE
   refine DOps.s0 (callP rfl rfl (fun H => Z27_walk gx19 H)) rfl ?_
   obtain ⟨x20, gx20, hE⟩ := bindO_some hE
   refine DOps.s0 (catM rfl rfl gx20) rfl ?_
   refine DOps.s0 assignA rfl ?_
   refine DOps.nil (by decide +kernel) ?_
   exact hK10 _ x20 Weak.toA hE
  refine AWp.skip ?_
  exact hK10 _ s3_9 Weak.toA hE
 rintro s3_11 hE
 try dsimp only at hE
 unfold Z25_j10 at hE
 refine seqK fun K12 hK12 => ?_
 refine region ?_
 refine s0 moveA rfl ?_
 refine s0 assignA rfl ?_
 refine nil ?_
 refine hK12 _ ?_
 clear hK12 K12
 refine AWp.ret ?_
 repeat (first | refine xBlock_ret ?_ | refine xThen_ret ?_)
 obtain rfl := Option.some.inj hE
 refine retQ.retF H rfl ⟨rfl, rfl⟩ ?_
 exact (fun _ _ h => h)
def Z28_j9 (a0 : TVerdict)  (s3_10 : Bs) : Option Bs := (catC s3_10 ([58, 32] : Bs)).bind fun x12 => (Z25 a0.FChange).bind fun x13 => (catC x12 x13).bind fun x14 => some x14
def Z28_j23 (s4_18 : Nat) (k_next_16 : Bs → Nat → Option Bs) (s3_24 : Bs) : Option Bs := k_next_16 s3_24 (s4_18 + 1)
def Z28_j25 (a0 : TVerdict) (s4_18 : Nat) (k_next_16 : Bs → Nat → Option Bs) (s3_26 : Bs) : Option Bs := (a0.FBreaks.l[s4_18]?).bind fun x27 => (Z23 x27).bind fun x28 => (catC s3_26 x28).bind fun x29 => Z28_j23 s4_18 k_next_16 x29
def Z28_l16 (a0 : TVerdict)  : Nat → Bs → Nat → Option Bs
 | 0, _, _ => none
 | n16 + 1, s3_17, s4_18 => bif (decide (((s4_18 : Nat) : Int) < ((a0.FBreaks.l.length : Nat) : Int))) then (bif (decide ((0 : Int) < ((s4_18 : Nat) : Int))) then ((catC s3_17 ([44, 32] : Bs)).bind fun x32 => Z28_j25 a0 s4_18 ((Z28_l16 a0 n16)) x32) else (Z28_j25 a0 s4_18 ((Z28_l16 a0 n16)) s3_17)) else (Z28_j9 a0  s3_17)
def Z28 (a0 : TVerdict) : Option Bs := bif a0.FSafe then ((Z25 a0.FChange).bind fun x6 => (catC ([115, 97, 102, 101, 58, 32] : Bs) x6).bind fun x7 => some x7) else (Z28_l16 a0 (a0.FBreaks.l.length + 1) ([98, 114, 101, 97, 107, 115, 32] : Bs) 0)
theorem Z28_walk {a0 : TVerdict}   {r : Bs} (hE : Z28 a0 = some r) (H : Heap)  : ACalls Tryz.prog 5 [.agg (TVerdict.c a0)] H fun v h' => v = .a (.d (.str r)) ∧ h' = H := by
 unfold Z28 at hE
 refine ACalls.of_wp (fn := Tryz.f5) (c := _) Tryz.tab_ok (fun _ _ => Tryz.call5 _ _) Tryz.func5 rfl (n := 36) rfl (rs := [.tmp 2]) rfl rfl ?_
 refine seqK fun K1 hK1 => ?_
 refine region ?_
 refine s0 (boxV rfl) rfl ?_
 refine s0 assignA rfl ?_
 refine nil ?_
 refine hK1 _ ?_
 clear hK1 K1
 refine seqK fun K2 hK2 => ?_
 refine seqK fun K3 hK3 => ?_
 refine region ?_
 refine s0 (fieldVA (TK rfl) rfl rfl (TK rfl) rfl rfl) rfl ?_
 refine s0 (loadV (TK rfl) rfl rfl rfl) rfl ?_
 refine nil ?_
 refine hK3 _ ?_
 clear hK3 K3
 refine condE hE rfl (fun hc4 hE => ?_) (fun hc4 hE => ?_)
 ·refine seqK fun K5 hK5 => ?_
  refine region ?_
  refine s0 (fieldVA (TK rfl) rfl rfl (TK rfl) rfl rfl) rfl ?_
  refine s0 (loadV (TK rfl) rfl rfl rfl) rfl ?_
  obtain ⟨x6, gx6, hE⟩ := bindO_some hE
  refine s0 (callP rfl rfl (fun H => Z25_walk gx6 H)) rfl ?_
  obtain ⟨x7, gx7, hE⟩ := bindO_some hE
  refine s0 (catM rfl rfl gx7) rfl ?_
  refine s0 assignA rfl ?_
  refine nil ?_
  refine hK5 _ ?_
  clear hK5 K5
  refine AWp.ret ?_
  repeat (first | refine xBlock_ret ?_ | refine xThen_ret ?_)
  obtain rfl := Option.some.inj hE
  refine retQ.retF H rfl ⟨rfl, rfl⟩ ?_
  exact (fun _ _ h => h)
 refine AWp.skip ?_
 refine hK2 _ ?_
 clear hK2 K2
 refine seqK fun K8 hK8 => ?_
 refine region ?_
 refine s0 assignA rfl ?_
 refine nil ?_
 refine hK8 _ ?_
 clear hK8 K8
 refine seqJH (KeepsT.A (k := 1) KeepsT.nil) (fun (z : Bs) => [(3, .a (.d (.str z)))]) (fun z => H) (fun z => Z28_j9 a0 z = some r) ?_ ?_
 ·intro K9 hK9
  refine seqK fun K15 hK15 => ?_
  refine region ?_
  refine s0 assignA rfl ?_
  refine nil ?_
  refine hK15 _ ?_
  clear hK15 K15
  refine block ?_
  refine loopH (KeepsT.A (k := 1) KeepsT.nil) (fun (z : Nat × Bs × Nat) => [(3, .a (.d (.str z.2.1))), (4, .a (.d (.int .i64 ((z.2.2 : Nat) : Int))))]) (fun z => H) (fun z => z.1) (fun z => Z28_l16 a0 z.1 z.2.1 z.2.2 = some r) ((a0.FBreaks.l.length + 1), ([98, 114, 101, 97, 107, 115, 32] : Bs), 0) hE Weak.toA ?_
  rintro ⟨n16, s3_17, s4_18⟩ hE K16 hK16
  try dsimp only at hE
  cases n16 with
  | zero => cases hE
  | succ n16 =>
    rw [Z28_l16] at hE
    refine seqK fun K19 hK19 => ?_
    refine seqK fun K20 hK20 => ?_
    refine region ?_
    refine s0 moveA rfl ?_
    refine s0 (fieldVA (TK rfl) rfl rfl (TK rfl) rfl rfl) rfl ?_
    refine s0 (loadV (TK rfl) rfl rfl rfl) rfl ?_
    refine sLen (f := (intE .i64)) (s := a0.FBreaks) (TK rfl) rfl rfl rfl rfl fun hL21 => ?_
    refine s0 (binI rfl rfl rfl) rfl ?_
    refine nil ?_
    refine hK20 _ ?_
    clear hK20 K20
    refine condE hE rfl (fun hc22 hE => ?_) (fun hc22 hE => ?_)
    ·try dsimp only at hc22
     have hf22 := of_decide_eq_true hc22
     refine AWp.skip ?_
     refine hK19 _ ?_
     clear hK19 K19
     refine seqJH (KeepsT.A (k := 1) (KeepsT.A (k := 4) KeepsT.nil)) (fun (z : Bs) => [(3, .a (.d (.str z)))]) (fun z => H) (fun z => Z28_j23 s4_18 ((Z28_l16 a0 n16)) z = some r) ?_ ?_
     ·intro K23 hK23
      refine block ?_
      refine seqJH (KeepsT.A (k := 1) (KeepsT.A (k := 4) KeepsT.nil)) (fun (z : Bs) => [(3, .a (.d (.str z)))]) (fun z => H) (fun z => Z28_j25 a0 s4_18 ((Z28_l16 a0 n16)) z = some r) ?_ ?_
      ·intro K25 hK25
       refine seqK fun K30 hK30 => ?_
       refine region ?_
       refine s0 moveA rfl ?_
       refine s0 (binI rfl rfl rfl) rfl ?_
       refine nil ?_
       refine hK30 _ ?_
       clear hK30 K30
       refine condE hE rfl (fun hc31 hE => ?_) (fun hc31 hE => ?_)
       ·refine region ?_
        refine s0 moveA rfl ?_
        obtain ⟨x32, gx32, hE⟩ := bindO_some hE
        refine s0 (catM rfl rfl gx32) rfl ?_
        refine s0 assignA rfl ?_
        refine nil ?_
        exact hK25 _ x32 Weak.toA hE
       refine AWp.skip ?_
       exact hK25 _ s3_17 Weak.toA hE
      rintro s3_26 hE
      try dsimp only at hE
      unfold Z28_j25 at hE
      refine region ?_
      refine s0 moveA rfl ?_
      refine s0 (fieldVA (TK rfl) rfl rfl (TK rfl) rfl rfl) rfl ?_
      refine s0 (loadV (TK rfl) rfl rfl rfl) rfl ?_
      refine s0 moveA rfl ?_
      obtain ⟨x27, gx27, hE⟩ := bindO_some hE
      refine s0 (idxMn (f := (intE .i64)) (n := s4_18) (TK rfl) rfl (TK rfl) rfl rfl rfl gx27) rfl ?_
      refine s0 (loadV (TK rfl) rfl rfl rfl) rfl ?_
      obtain ⟨x28, gx28, hE⟩ := bindO_some hE
      refine s0 (callP rfl rfl (fun H => Z23_walk gx28 H)) rfl ?_
      obtain ⟨x29, gx29, hE⟩ := bindO_some hE
      refine s0 (catM rfl rfl gx29) rfl ?_
      refine s0 assignA rfl ?_
      refine nil ?_
      exact hK23 _ x29 Weak.toA hE
     rintro s3_24 hE
     try dsimp only at hE
     unfold Z28_j23 at hE
     refine region ?_
     refine s0 moveA rfl ?_
     refine s0 (addI rfl rfl (by first | omega | (dsimp only; omega) | (simp at *; omega)) (by first | omega | (dsimp only; omega) | (simp at *; omega))) rfl ?_
     refine s0 assignA rfl ?_
     refine nil ?_
     exact hK16 _ (n16, s3_24, (s4_18 + 1)) Weak.toA hE (Nat.lt_succ_self _)
    refine AWp.exit ?_
    exact hK9 _ s3_17 Weak.toA hE
 rintro s3_10 hE
 try dsimp only at hE
 unfold Z28_j9 at hE
 refine seqK fun K11 hK11 => ?_
 refine region ?_
 refine s0 moveA rfl ?_
 obtain ⟨x12, gx12, hE⟩ := bindO_some hE
 refine s0 (catM rfl rfl gx12) rfl ?_
 refine s0 (fieldVA (TK rfl) rfl rfl (TK rfl) rfl rfl) rfl ?_
 refine s0 (loadV (TK rfl) rfl rfl rfl) rfl ?_
 obtain ⟨x13, gx13, hE⟩ := bindO_some hE
 refine s0 (callP rfl rfl (fun H => Z25_walk gx13 H)) rfl ?_
 obtain ⟨x14, gx14, hE⟩ := bindO_some hE
 refine s0 (catM rfl rfl gx14) rfl ?_
 refine s0 assignA rfl ?_
 refine nil ?_
 refine hK11 _ ?_
 clear hK11 K11
 refine AWp.ret ?_
 repeat (first | refine xBlock_ret ?_ | refine xThen_ret ?_)
 obtain rfl := Option.some.inj hE
 refine retQ.retF H rfl ⟨rfl, rfl⟩ ?_
 exact (fun _ _ h => h)
def Z18_j2   : Option Bool := some true
def Z18_l6 (a0 : (Sl TVerdict))  : Nat → Nat → Option Bool
 | 0, _ => none
 | n6 + 1, s7_7 => bif (decide (((s7_7 : Nat) : Int) < ((a0.l.length : Nat) : Int))) then ((a0.l[s7_7]?).bind fun x13 => bif (!x13.FSafe) then (some false) else ((Z18_l6 a0 n6) (s7_7 + 1))) else (Z18_j2   )
def Z18 (a0 : (Sl TVerdict)) : Option Bool := Z18_l6 a0 (a0.l.length + 1) 0
theorem Z18_walk {a0 : (Sl TVerdict)} {w0 : Option Nat}  {r : Bool} (hE : Z18 a0 = some r) (H : Heap)  : ACalls Tryz.prog 6 [.d (Sl.d 8 TVerdict.c w0 a0)] H fun v h' => v = .a (.d (.bool r)) ∧ h' = H := by
 unfold Z18 at hE
 refine ACalls.of_wp (fn := Tryz.f6) (c := _) Tryz.tab_ok (fun _ _ => Tryz.call6 _ _) Tryz.func6 rfl (n := 15) rfl (rs := [.tmp 2]) rfl rfl ?_
 refine seqK fun K1 hK1 => ?_
 refine region ?_
 refine s0 assignA rfl ?_
 refine nil ?_
 refine hK1 _ ?_
 clear hK1 K1
 refine seqJH KeepsT.nil (fun (z : Unit) => []) (fun z => H) (fun z => Z18_j2  = some r) ?_ ?_
 ·intro K2 hK2
  refine seqK fun K4 hK4 => ?_
  refine region ?_
  refine s0 moveA rfl ?_
  refine sLen (f := TVerdict.c) (s := a0) (TK rfl) rfl rfl rfl rfl fun hL5 => ?_
  refine s0 moveA rfl ?_
  refine nil ?_
  refine hK4 _ ?_
  clear hK4 K4
  refine block ?_
  refine loopH (KeepsT.A (k := 5) (KeepsT.A (k := 6) KeepsT.nil)) (fun (z : Nat × Nat) => [(7, .a (.d (.int .i64 ((z.2 : Nat) : Int))))]) (fun z => H) (fun z => z.1) (fun z => Z18_l6 a0 z.1 z.2 = some r) ((a0.l.length + 1), 0) hE Weak.toA ?_
  rintro ⟨n6, s7_7⟩ hE K6 hK6
  try dsimp only at hE
  cases n6 with
  | zero => cases hE
  | succ n6 =>
    rw [Z18_l6] at hE
    refine seqK fun K8 hK8 => ?_
    refine region ?_
    refine s0 (binI rfl rfl rfl) rfl ?_
    refine nil ?_
    refine hK8 _ ?_
    clear hK8 K8
    refine seqK fun K9 hK9 => ?_
    refine condE hE rfl (fun hc10 hE => ?_) (fun hc10 hE => ?_)
    ·try dsimp only at hc10
     have hf10 := of_decide_eq_true hc10
     refine AWp.skip ?_
     refine hK9 _ ?_
     clear hK9 K9
     refine seqK fun K11 hK11 => ?_
     refine block ?_
     refine seqK fun K12 hK12 => ?_
     refine region ?_
     obtain ⟨x13, gx13, hE⟩ := bindO_some hE
     refine s0 (idxMn (f := TVerdict.c) (n := s7_7) (TK rfl) rfl (TK rfl) rfl rfl rfl gx13) rfl ?_
     refine s0 (loadV (TK rfl) rfl rfl rfl) rfl ?_
     refine sL (allocLA (TK rfl) rfl) rfl ?_
     refine sLn (storeLFA (TK rfl) rfl rfl rfl rfl rfl) ?_
     refine nil ?_
     refine hK12 _ ?_
     clear hK12 K12
     refine freezeA 4 _ rfl (Keeps.c (k := 5) (by conv => lhs; whnf) (by rfl) (Keeps.c (k := 6) (by conv => lhs; whnf) (by rfl) (Keeps.c (k := 7) (by conv => lhs; whnf) (by rfl) Keeps.nil))) ?_
     refine seqK fun K14 hK14 => ?_
     refine region ?_
     refine s0 (fieldVA (TK rfl) rfl rfl (TK rfl) rfl rfl) rfl ?_
     refine s0 (loadV (TK rfl) rfl rfl rfl) rfl ?_
     refine s0 (notB rfl) rfl ?_
     refine nil ?_
     refine hK14 _ ?_
     clear hK14 K14
     refine condE hE rfl (fun hc15 hE => ?_) (fun hc15 hE => ?_)
     ·refine seqK fun K16 hK16 => ?_
      refine region ?_
      refine s0 assignA rfl ?_
      refine nil ?_
      refine hK16 _ ?_
      clear hK16 K16
      refine AWp.ret ?_
      repeat (first | refine xBlock_ret ?_ | refine xThen_ret ?_)
      obtain rfl := Option.some.inj hE
      refine retQ.retF H rfl ⟨rfl, rfl⟩ ?_
      exact (fun _ _ h => h)
     refine AWp.skip ?_
     refine hK11 _ ?_
     clear hK11 K11
     refine region ?_
     refine s0 (addI rfl rfl (by first | omega | (dsimp only; omega) | (simp at *; omega)) (by first | omega | (dsimp only; omega) | (simp at *; omega))) rfl ?_
     refine s0 moveA rfl ?_
     refine nil ?_
     exact hK6 _ (n6, (s7_7 + 1)) Weak.toA hE (Nat.lt_succ_self _)
    refine AWp.exit ?_
    exact hK2 _ () Weak.toA hE
 rintro _ hE
 try dsimp only at hE
 unfold Z18_j2 at hE
 refine seqK fun K3 hK3 => ?_
 refine region ?_
 refine s0 assignA rfl ?_
 refine nil ?_
 refine hK3 _ ?_
 clear hK3 K3
 refine AWp.ret ?_
 repeat (first | refine xBlock_ret ?_ | refine xThen_ret ?_)
 obtain rfl := Option.some.inj hE
 refine retQ.retF H rfl ⟨rfl, rfl⟩ ?_
 exact (fun _ _ h => h)
def Z29_j2   : Option Bool := some true
def Z29_l5 (a0 : (Sl TVerdict))  : Nat → Nat → Option Bool
 | 0, _ => none
 | n5 + 1, s3_6 => bif (decide (((s3_6 : Nat) : Int) < ((a0.l.length : Nat) : Int))) then ((a0.l[s3_6]?).bind fun x13 => bif (!x13.FSafe) then (some false) else ((Z29_l5 a0 n5) (s3_6 + 1))) else (Z29_j2   )
def Z29 (a0 : (Sl TVerdict)) : Option Bool := Z29_l5 a0 (a0.l.length + 1) 0
theorem Z29_walk {a0 : (Sl TVerdict)} {w0 : Option Nat}  {r : Bool} (hE : Z29 a0 = some r) (H : Heap)  : ACalls Tryz.prog 7 [.d (Sl.d 8 TVerdict.c w0 a0)] H fun v h' => v = .a (.d (.bool r)) ∧ h' = H := by
 unfold Z29 at hE
 refine ACalls.of_wp (fn := Tryz.f7) (c := _) Tryz.tab_ok (fun _ _ => Tryz.call7 _ _) Tryz.func7 rfl (n := 16) rfl (rs := [.tmp 2]) rfl rfl ?_
 refine seqK fun K1 hK1 => ?_
 refine region ?_
 refine s0 assignA rfl ?_
 refine nil ?_
 refine hK1 _ ?_
 clear hK1 K1
 refine seqJH KeepsT.nil (fun (z : Unit) => []) (fun z => H) (fun z => Z29_j2  = some r) ?_ ?_
 ·intro K2 hK2
  refine seqK fun K4 hK4 => ?_
  refine region ?_
  refine s0 assignA rfl ?_
  refine nil ?_
  refine hK4 _ ?_
  clear hK4 K4
  refine block ?_
  refine loopH (KeepsT.A (k := 0) KeepsT.nil) (fun (z : Nat × Nat) => [(3, .a (.d (.int .i64 ((z.2 : Nat) : Int))))]) (fun z => H) (fun z => z.1) (fun z => Z29_l5 a0 z.1 z.2 = some r) ((a0.l.length + 1), 0) hE Weak.toA ?_
  rintro ⟨n5, s3_6⟩ hE K5 hK5
  try dsimp only at hE
  cases n5 with
  | zero => cases hE
  | succ n5 =>
    rw [Z29_l5] at hE
    refine seqK fun K7 hK7 => ?_
    refine seqK fun K8 hK8 => ?_
    refine region ?_
    refine s0 moveA rfl ?_
    refine s0 moveA rfl ?_
    refine sLen (f := TVerdict.c) (s := a0) (TK rfl) rfl rfl rfl rfl fun hL9 => ?_
    refine s0 (binI rfl rfl rfl) rfl ?_
    refine nil ?_
    refine hK8 _ ?_
    clear hK8 K8
    refine condE hE rfl (fun hc10 hE => ?_) (fun hc10 hE => ?_)
    ·try dsimp only at hc10
     have hf10 := of_decide_eq_true hc10
     refine AWp.skip ?_
     refine hK7 _ ?_
     clear hK7 K7
     refine seqK fun K11 hK11 => ?_
     refine block ?_
     refine seqK fun K12 hK12 => ?_
     refine region ?_
     refine s0 moveA rfl ?_
     refine s0 moveA rfl ?_
     obtain ⟨x13, gx13, hE⟩ := bindO_some hE
     refine s0 (idxMn (f := TVerdict.c) (n := s3_6) (TK rfl) rfl (TK rfl) rfl rfl rfl gx13) rfl ?_
     refine s0 (fieldVA (TK rfl) rfl rfl (TK rfl) rfl rfl) rfl ?_
     refine s0 (loadV (TK rfl) rfl rfl rfl) rfl ?_
     refine s0 (notB rfl) rfl ?_
     refine nil ?_
     refine hK12 _ ?_
     clear hK12 K12
     refine condE hE rfl (fun hc14 hE => ?_) (fun hc14 hE => ?_)
     ·refine seqK fun K15 hK15 => ?_
      refine region ?_
      refine s0 assignA rfl ?_
      refine nil ?_
      refine hK15 _ ?_
      clear hK15 K15
      refine AWp.ret ?_
      repeat (first | refine xBlock_ret ?_ | refine xThen_ret ?_)
      obtain rfl := Option.some.inj hE
      refine retQ.retF H rfl ⟨rfl, rfl⟩ ?_
      exact (fun _ _ h => h)
     refine AWp.skip ?_
     refine hK11 _ ?_
     clear hK11 K11
     refine region ?_
     refine s0 moveA rfl ?_
     refine s0 (addI rfl rfl (by first | omega | (dsimp only; omega) | (simp at *; omega)) (by first | omega | (dsimp only; omega) | (simp at *; omega))) rfl ?_
     refine s0 assignA rfl ?_
     refine nil ?_
     exact hK5 _ (n5, (s3_6 + 1)) Weak.toA hE (Nat.lt_succ_self _)
    refine AWp.exit ?_
    exact hK2 _ () Weak.toA hE
 rintro _ hE
 try dsimp only at hE
 unfold Z29_j2 at hE
 refine seqK fun K3 hK3 => ?_
 refine region ?_
 refine s0 assignA rfl ?_
 refine nil ?_
 refine hK3 _ ?_
 clear hK3 K3
 refine AWp.ret ?_
 repeat (first | refine xBlock_ret ?_ | refine xThen_ret ?_)
 obtain rfl := Option.some.inj hE
 refine retQ.retF H rfl ⟨rfl, rfl⟩ ?_
 exact (fun _ _ h => h)
def Z20 (a0 : Evolve_checker) (a1 : TQuery) (a2 : Int) : Option Evolve_operation := none
theorem Z20_walk {a0 : Evolve_checker} {a1 : TQuery} {a2 : Int}   {r : Evolve_operation} (hE : Z20 a0 a1 a2 = some r) (H : Heap)  : ACalls Tryz.prog 24 [.agg (Evolve_checker.c a0), .agg (TQuery.c a1), .d (.int .i64 a2)] H fun v h' => v = .a (.agg (Evolve_operation.c r)) ∧ h' = H := by cases hE
def Z31_j2  (y3_l0 : TDef) : Option (TDef × Bool) := some ((TDef.mk (0 : Int) ([] : Bs) (Sl.nil : Sl Bs) (Sl.nil : Sl TDir) (Sl.nil : Sl TField) (Sl.nil : Sl TMember) (Sl.nil : Sl TInput)), false)
def Z31_l7 (a0 : TDoc) (a1 : Bs)  : Nat → Nat → TDef → Option (TDef × Bool)
 | 0, _, _ => none
 | n7 + 1, s11_8, y9_l0 => bif (decide (((s11_8 : Nat) : Int) < ((a0.FDefs.l.length : Nat) : Int))) then ((a0.FDefs.l[s11_8]?).bind fun x15 => bif ((x15.FName == a1)) then (some (x15, true)) else ((Z31_l7 a0 a1 n7) (s11_8 + 1) y9_l0)) else (Z31_j2   y9_l0)
def Z31 (a0 : TDoc) (a1 : Bs) : Option (TDef × Bool) := Z31_l7 a0 a1 (a0.FDefs.l.length + 1) 0 TDef.zero
theorem Z31_walk {a0 : TDoc} {a1 : Bs}   {r : (TDef × Bool)} (hE : Z31 a0 a1 = some r) (H : Heap)  : ACalls Tryz.prog 35 [.agg (TDoc.c a0), .d (.str a1)] H fun v h' => v = .tup [.agg (TDef.c r.1), .d (.bool r.2)] ∧ h' = H := by
 unfold Z31 at hE
 refine ACalls.of_wp (fn := Tryz.f35) (c := _) Tryz.tab_ok (fun _ _ => Tryz.call35 _ _) Tryz.func35 rfl (n := 22) rfl (rs := [.cell 4 44, .tmp 5]) rfl rfl ?_
 refine seqK fun K1 hK1 => ?_
 refine region ?_
 refine s0 (boxV rfl) rfl ?_
 refine sL (allocLA (TK rfl) rfl) rfl ?_
 refine s0 assignA rfl ?_
 refine nil ?_
 refine hK1 _ ?_
 clear hK1 K1
 refine seqJ (KeepsT.A (k := 4) KeepsT.nil) (fun (z : TDef) => []) (fun z => [TDef.c z]) (fun z => H) (fun z => Z31_j2 z = some r) ?_ ?_
 ·intro K2 hK2
  refine seqK fun K5 hK5 => ?_
  refine region ?_
  refine s0 (fieldVA (TK rfl) rfl rfl (TK rfl) rfl rfl) rfl ?_
  refine s0 (loadV (TK rfl) rfl rfl rfl) rfl ?_
  refine sLen (f := TDef.c) (s := a0.FDefs) (TK rfl) rfl rfl rfl rfl fun hL6 => ?_
  refine s0 moveA rfl ?_
  refine nil ?_
  refine hK5 _ ?_
  clear hK5 K5
  refine block ?_
  refine loopO (KeepsT.A (k := 1) (KeepsT.A (k := 4) (KeepsT.A (k := 9) (KeepsT.A (k := 10) KeepsT.nil)))) (fun (z : Nat × Nat × TDef) => [(11, .a (.d (.int .i64 ((z.2.1 : Nat) : Int))))]) (fun z => [TDef.c z.2.2]) (fun z => H) (fun z => z.1) (fun z => Z31_l7 a0 a1 z.1 z.2.1 z.2.2 = some r) ((a0.FDefs.l.length + 1), 0, TDef.zero) hE Weak.toA ?_
  rintro ⟨n7, s11_8, y9_l0⟩ hE K7 hK7
  try dsimp only at hE
  cases n7 with
  | zero => cases hE
  | succ n7 =>
    rw [Z31_l7] at hE
    refine seqK fun K10 hK10 => ?_
    refine region ?_
    refine s0 (binI rfl rfl rfl) rfl ?_
    refine nil ?_
    refine hK10 _ ?_
    clear hK10 K10
    refine seqK fun K11 hK11 => ?_
    refine condE hE rfl (fun hc12 hE => ?_) (fun hc12 hE => ?_)
    ·try dsimp only at hc12
     have hf12 := of_decide_eq_true hc12
     refine AWp.skip ?_
     refine hK11 _ ?_
     clear hK11 K11
     refine seqK fun K13 hK13 => ?_
     refine block ?_
     refine seqK fun K14 hK14 => ?_
     refine region ?_
     obtain ⟨x15, gx15, hE⟩ := bindO_some hE
     refine s0 (idxMn (f := TDef.c) (n := s11_8) (TK rfl) rfl (TK rfl) rfl rfl rfl gx15) rfl ?_
     refine s0 (loadV (TK rfl) rfl rfl rfl) rfl ?_
     refine sL (allocLA (TK rfl) rfl) rfl ?_
     refine sLn (storeLFA (TK rfl) rfl rfl rfl rfl rfl) ?_
     refine nil ?_
     refine hK14 _ ?_
     clear hK14 K14
     refine freezeA 7 _ rfl (Keeps.c (k := 1) (by conv => lhs; whnf) (by rfl) (Keeps.c (k := 4) (by conv => lhs; whnf) (by rfl) (Keeps.c (k := 9) (by conv => lhs; whnf) (by rfl) (Keeps.c (k := 10) (by conv => lhs; whnf) (by rfl) (Keeps.c (k := 11) (by conv => lhs; whnf) (by rfl) Keeps.nil))))) ?_
     refine seqK fun K16 hK16 => ?_
     refine region ?_
     refine s0 (fieldVA (TK rfl) rfl rfl (TK rfl) rfl rfl) rfl ?_
     refine s0 (loadV (TK rfl) rfl rfl rfl) rfl ?_
     refine s0 moveA rfl ?_
     refine s0 (binS rfl rfl rfl) rfl ?_
     refine nil ?_
     refine hK16 _ ?_
     clear hK16 K16
     refine condE hE rfl (fun hc17 hE => ?_) (fun hc17 hE => ?_)
     ·refine seqK fun K18 hK18 => ?_
      refine region ?_
      refine s0 (loadV (TK rfl) rfl rfl rfl) rfl ?_
      refine sLn (storeLFA (TK rfl) rfl rfl rfl rfl rfl) ?_
      refine s0 assignA rfl ?_
      refine nil ?_
      refine hK18 _ ?_
      clear hK18 K18
      refine AWp.ret ?_
      repeat (first | refine xBlock_ret ?_ | refine xThen_ret ?_)
      obtain rfl := Option.some.inj hE
      refine retQ.retF H rfl ⟨rfl, rfl⟩ ?_
      exact (fun _ _ h => h)
     refine AWp.skip ?_
     refine hK13 _ ?_
     clear hK13 K13
     refine region ?_
     refine s0 (addI rfl rfl (by first | omega | (dsimp only; omega) | (simp at *; omega)) (by first | omega | (dsimp only; omega) | (simp at *; omega))) rfl ?_
     refine s0 moveA rfl ?_
     refine nil ?_
     exact hK7 _ (n7, (s11_8 + 1), y9_l0) Weak.toA hE (Nat.lt_succ_self _)
    refine AWp.exit ?_
    exact hK2 _ y9_l0 Weak.toA hE
 rintro y3_l0 hE
 try dsimp only at hE
 unfold Z31_j2 at hE
 refine seqK fun K4 hK4 => ?_
 refine region ?_
 refine s0 (build Tryz.tab_ok rfl rfl rfl rfl rfl rfl) rfl ?_
 refine sLn (storeLFA (TK rfl) rfl rfl rfl rfl rfl) ?_
 refine s0 assignA rfl ?_
 refine nil ?_
 refine hK4 _ ?_
 clear hK4 K4
 refine AWp.ret ?_
 repeat (first | refine xBlock_ret ?_ | refine xThen_ret ?_)
 obtain rfl := Option.some.inj hE
 refine retQ.retF H rfl ⟨rfl, rfl⟩ ?_
 exact (fun _ _ h => h)
def Z3 (a0 : Changes_differ) (a1 : Int) (a2 : Bs) (a3 : Bs) (a4 : Bs) (a5 : Bs) : Option Changes_differ := (appC 88 a0.Fout (⟨false, [(TChange.mk a1 a0.Fname a2 a3 a4 a5)]⟩ : Sl TChange)).bind fun x1 => some (Changes_differ.mk a0.Fname x1)
theorem Z3_walk {a0 : Changes_differ} {a1 : Int} {a2 : Bs} {a3 : Bs} {a4 : Bs} {a5 : Bs}  {c0 : Nat} {c0_1 : Nat} {r : Changes_differ} (hE : Z3 a0 a1 a2 a3 a4 a5 = some r) (H : Heap) (hc0 : H c0 = some (.cells (Changes_differ.cg (some c0_1) a0))) (ht0_1 : H c0_1 = some (.tok 6 a0.Fout.l.length)) : ACalls Tryz.prog 37 [.d (.ptr c0 0), .d (.int .i64 a1), .d (.str a2), .d (.str a3), .d (.str a4), .d (.str a5)] H fun v h' => v = .tup [] ∧ h' = ((H.set c0_1 (some (.tok 6 r.Fout.l.length))).set c0 (some (.cells (Changes_differ.cg (some c0_1) r)))) := by
 unfold Z3 at hE
 refine ACalls.of_wp (fn := Tryz.f37) (c := _) Tryz.tab_ok (fun _ _ => Tryz.call37 _ _) Tryz.func37 rfl (n := 31) rfl (rs := []) rfl rfl ?_
 have ne_c0_c0_1 : c0 ≠ c0_1 := fun e_ => by subst e_; simp_all
 refine AWp.heqA (h' := ((H.set c0_1 (some (.tok 6 a0.Fout.l.length))).set c0 (some (.cells (Changes_differ.cg (some c0_1) a0))))) (by funext n_; simp only [Heap.set]; (repeat' split) <;> simp_all) ?_
 refine AWp.draw rfl ?_
 refine DOps.s0 moveA rfl ?_
 refine DOps.s0 moveA rfl ?_
 refine DOps.s0 (nilP rfl) rfl ?_
 refine DOps.s0 (fieldP (TK rfl) rfl rfl (TK rfl) rfl rfl) rfl ?_
 refine DOps.s0 (loadP (TK rfl) rfl rfl hpG rfl) rfl ?_
 refine DOps.s0 moveA rfl ?_
 refine DOps.s0 moveA rfl ?_
 refine DOps.s0 (nilP rfl) rfl ?_
 refine DOps.s0 (fieldP (TK rfl) rfl rfl (TK rfl) rfl rfl) rfl ?_
 refine DOps.s0 (loadP (TK rfl) rfl rfl hpG rfl) rfl ?_
 refine DOps.s0 moveA rfl ?_
 refine DOps.s0 moveA rfl ?_
 refine DOps.s0 moveA rfl ?_
 refine DOps.s0 moveA rfl ?_
 refine DOps.s0 (build Tryz.tab_ok rfl rfl rfl rfl rfl rfl) rfl ?_
 refine DOps.s0 (buildSlice (TK rfl) rfl (TK rfl) rfl rfl rfl rfl rfl rfl) rfl ?_
 obtain ⟨x1, gx1, hE⟩ := bindO_some hE
 refine DOps.sH (appM (f := TChange.c) (TK rfl) rfl (TK rfl) (TK rfl) ⟨_, rfl⟩ rfl rfl (by decide) rfl rfl rfl rfl hpG rfl gx1) rfl ?_
 refine DOps.heq (h' := ((H.set c0_1 (some (.tok 6 x1.l.length))).set c0 (some (.cells (Changes_differ.cg (some c0_1) a0))))) (by first | rfl | (rw [Heap.set_set]; rfl) | (funext n_; simp only [Heap.set]; (repeat' split) <;> first | rfl | (exfalso; simp_all; done) | (simp_all; done))) ?_
 refine DOps.s0 (nilP rfl) rfl ?_
 refine DOps.s0 (fieldP (TK rfl) rfl rfl (TK rfl) rfl rfl) rfl ?_
 refine DOps.sHn (storeP1 (TK rfl) rfl rfl hpG rfl (by repeat (first | exact SetAt.zero | apply SetAt.succ))) rfl rfl ?_
 refine DOps.heq (h' := ((H.set c0_1 (some (.tok 6 x1.l.length))).set c0 (some (.cells (Changes_differ.cg (some c0_1) (Changes_differ.mk a0.Fname x1)))))) (by first | rfl | (rw [Heap.set_set]; rfl) | (funext n_; simp only [Heap.set]; (repeat' split) <;> first | rfl | (exfalso; simp_all; done) | (simp_all; done))) ?_
 refine DOps.nil (by decide +kernel) ?_
 repeat (first | refine xBlock_normal ?_ | refine xThen_exit ?_ | refine xBlock_exit ?_)
 obtain rfl := Option.some.inj hE
 refine retQ.normalF ((H.set c0_1 (some (.tok 6 x1.l.length))).set c0 (some (.cells (Changes_differ.cg (some c0_1) (Changes_differ.mk a0.Fname x1))))) (xs := []) rfl ⟨rfl, rfl⟩ ?_
 exact (fun _ _ h => h)
def Z10 (a0 : Int) : Option Bs := bif (decide (a0 = (1 : Int))) then (some ([116, 121, 112, 101] : Bs)) else (bif (decide (a0 = (2 : Int))) then (some ([105, 110, 116, 101, 114, 102, 97, 99, 101] : Bs)) else (bif (decide (a0 = (3 : Int))) then (some ([117, 110, 105, 111, 110] : Bs)) else (bif (decide (a0 = (4 : Int))) then (some ([101, 110, 117, 109] : Bs)) else (some ([105, 110, 112, 117, 116] : Bs)))))
theorem Z10_walk {a0 : Int}   {r : Bs} (hE : Z10 a0 = some r) (H : Heap)  : ACalls Tryz.prog 38 [.d (.int .i64 a0)] H fun v h' => v = .a (.d (.str r)) ∧ h' = H := by
 unfold Z10 at hE
 refine ACalls.of_wp (fn := Tryz.f38) (c := _) Tryz.tab_ok (fun _ _ => Tryz.call38 _ _) Tryz.func38 rfl (n := 12) rfl (rs := [.tmp 2]) rfl rfl ?_
 refine seqK fun K1 hK1 => ?_
 refine region ?_
 refine s0 assignA rfl ?_
 refine nil ?_
 refine hK1 _ ?_
 clear hK1 K1
 refine seqK fun K2 hK2 => ?_
 refine seqK fun K3 hK3 => ?_
 refine region ?_
 refine s0 moveA rfl ?_
 refine nil ?_
 refine hK3 _ ?_
 clear hK3 K3
 refine block ?_
 refine seqK fun K4 hK4 => ?_
 refine region ?_
 refine s0 (binI rfl rfl rfl) rfl ?_
 refine s0 assignA rfl ?_
 refine nil ?_
 refine hK4 _ ?_
 clear hK4 K4
 refine condE hE rfl (fun hc5 hE => ?_) (fun hc5 hE => ?_)
 ·refine seqK fun K6 hK6 => ?_
  refine region ?_
  refine s0 assignA rfl ?_
  refine nil ?_
  refine hK6 _ ?_
  clear hK6 K6
  refine AWp.ret ?_
  repeat (first | refine xBlock_ret ?_ | refine xThen_ret ?_)
  obtain rfl := Option.some.inj hE
  refine retQ.retF H rfl ⟨rfl, rfl⟩ ?_
  exact (fun _ _ h => h)
 refine seqK fun K7 hK7 => ?_
 refine region ?_
 refine s0 (binI rfl rfl rfl) rfl ?_
 refine s0 assignA rfl ?_
 refine nil ?_
 refine hK7 _ ?_
 clear hK7 K7
 refine condE hE rfl (fun hc8 hE => ?_) (fun hc8 hE => ?_)
 ·refine seqK fun K9 hK9 => ?_
  refine region ?_
  refine s0 assignA rfl ?_
  refine nil ?_
  refine hK9 _ ?_
  clear hK9 K9
  refine AWp.ret ?_
  repeat (first | refine xBlock_ret ?_ | refine xThen_ret ?_)
  obtain rfl := Option.some.inj hE
  refine retQ.retF H rfl ⟨rfl, rfl⟩ ?_
  exact (fun _ _ h => h)
 refine seqK fun K10 hK10 => ?_
 refine region ?_
 refine s0 (binI rfl rfl rfl) rfl ?_
 refine s0 assignA rfl ?_
 refine nil ?_
 refine hK10 _ ?_
 clear hK10 K10
 refine condE hE rfl (fun hc11 hE => ?_) (fun hc11 hE => ?_)
 ·refine seqK fun K12 hK12 => ?_
  refine region ?_
  refine s0 assignA rfl ?_
  refine nil ?_
  refine hK12 _ ?_
  clear hK12 K12
  refine AWp.ret ?_
  repeat (first | refine xBlock_ret ?_ | refine xThen_ret ?_)
  obtain rfl := Option.some.inj hE
  refine retQ.retF H rfl ⟨rfl, rfl⟩ ?_
  exact (fun _ _ h => h)
 refine seqK fun K13 hK13 => ?_
 refine region ?_
 refine s0 (binI rfl rfl rfl) rfl ?_
 refine s0 assignA rfl ?_
 refine nil ?_
 refine hK13 _ ?_
 clear hK13 K13
 refine condE hE rfl (fun hc14 hE => ?_) (fun hc14 hE => ?_)
 ·refine seqK fun K15 hK15 => ?_
  refine region ?_
  refine s0 assignA rfl ?_
  refine nil ?_
  refine hK15 _ ?_
  clear hK15 K15
  refine AWp.ret ?_
  repeat (first | refine xBlock_ret ?_ | refine xThen_ret ?_)
  obtain rfl := Option.some.inj hE
  refine retQ.retF H rfl ⟨rfl, rfl⟩ ?_
  exact (fun _ _ h => h)
 refine AWp.skip ?_
 refine hK2 _ ?_
 clear hK2 K2
 refine seqK fun K16 hK16 => ?_
 refine region ?_
 refine s0 assignA rfl ?_
 refine nil ?_
 refine hK16 _ ?_
 clear hK16 K16
 refine AWp.ret ?_
 repeat (first | refine xBlock_ret ?_ | refine xThen_ret ?_)
 obtain rfl := Option.some.inj hE
 refine retQ.retF H rfl ⟨rfl, rfl⟩ ?_
 exact (fun _ _ h => h)
def Z30_j2  (y3_l0 : TField) : Option (TField × Bool) := some ((TField.mk ([] : Bs) (Sl.nil : Sl TInput) TRef.zero (Sl.nil : Sl TDir)), false)
def Z30_l7 (a0 : TDef) (a1 : Bs)  : Nat → Nat → TField → Option (TField × Bool)
 | 0, _, _ => none
 | n7 + 1, s11_8, y9_l0 => bif (decide (((s11_8 : Nat) : Int) < ((a0.FFields.l.length : Nat) : Int))) then ((a0.FFields.l[s11_8]?).bind fun x15 => bif ((x15.FName == a1)) then (some (x15, true)) else ((Z30_l7 a0 a1 n7) (s11_8 + 1) y9_l0)) else (Z30_j2   y9_l0)
def Z30 (a0 : TDef) (a1 : Bs) : Option (TField × Bool) := Z30_l7 a0 a1 (a0.FFields.l.length + 1) 0 TField.zero
theorem Z30_walk {a0 : TDef} {a1 : Bs}   {r : (TField × Bool)} (hE : Z30 a0 a1 = some r) (H : Heap)  : ACalls Tryz.prog 36 [.agg (TDef.c a0), .d (.str a1)] H fun v h' => v = .tup [.agg (TField.c r.1), .d (.bool r.2)] ∧ h' = H := by
 unfold Z30 at hE
 refine ACalls.of_wp (fn := Tryz.f36) (c := _) Tryz.tab_ok (fun _ _ => Tryz.call36 _ _) Tryz.func36 rfl (n := 22) rfl (rs := [.cell 4 40, .tmp 5]) rfl rfl ?_
 refine seqK fun K1 hK1 => ?_
 refine region ?_
 refine s0 (boxV rfl) rfl ?_
 refine sL (allocLA (TK rfl) rfl) rfl ?_
 refine s0 assignA rfl ?_
 refine nil ?_
 refine hK1 _ ?_
 clear hK1 K1
 refine seqJ (KeepsT.A (k := 4) KeepsT.nil) (fun (z : TField) => []) (fun z => [TField.c z]) (fun z => H) (fun z => Z30_j2 z = some r) ?_ ?_
 ·intro K2 hK2
  refine seqK fun K5 hK5 => ?_
  refine region ?_
  refine s0 (fieldVA (TK rfl) rfl rfl (TK rfl) rfl rfl) rfl ?_
  refine s0 (loadV (TK rfl) rfl rfl rfl) rfl ?_
  refine sLen (f := TField.c) (s := a0.FFields) (TK rfl) rfl rfl rfl rfl fun hL6 => ?_
  refine s0 moveA rfl ?_
  refine nil ?_
  refine hK5 _ ?_
  clear hK5 K5
  refine block ?_
  refine loopO (KeepsT.A (k := 1) (KeepsT.A (k := 4) (KeepsT.A (k := 9) (KeepsT.A (k := 10) KeepsT.nil)))) (fun (z : Nat × Nat × TField) => [(11, .a (.d (.int .i64 ((z.2.1 : Nat) : Int))))]) (fun z => [TField.c z.2.2]) (fun z => H) (fun z => z.1) (fun z => Z30_l7 a0 a1 z.1 z.2.1 z.2.2 = some r) ((a0.FFields.l.length + 1), 0, TField.zero) hE Weak.toA ?_
  rintro ⟨n7, s11_8, y9_l0⟩ hE K7 hK7
  try dsimp only at hE
  cases n7 with
  | zero => cases hE
  | succ n7 =>
    rw [Z30_l7] at hE
    refine seqK fun K10 hK10 => ?_
    refine region ?_
    refine s0 (binI rfl rfl rfl) rfl ?_
    refine nil ?_
    refine hK10 _ ?_
    clear hK10 K10
    refine seqK fun K11 hK11 => ?_
    refine condE hE rfl (fun hc12 hE => ?_) (fun hc12 hE => ?_)
    ·try dsimp only at hc12
     have hf12 := of_decide_eq_true hc12
     refine AWp.skip ?_
     refine hK11 _ ?_
     clear hK11 K11
     refine seqK fun K13 hK13 => ?_
     refine block ?_
     refine seqK fun K14 hK14 => ?_
     refine region ?_
     obtain ⟨x15, gx15, hE⟩ := bindO_some hE
     refine s0 (idxMn (f := TField.c) (n := s11_8) (TK rfl) rfl (TK rfl) rfl rfl rfl gx15) rfl ?_
     refine s0 (loadV (TK rfl) rfl rfl rfl) rfl ?_
     refine sL (allocLA (TK rfl) rfl) rfl ?_
     refine sLn (storeLFA (TK rfl) rfl rfl rfl rfl rfl) ?_
     refine nil ?_
     refine hK14 _ ?_
     clear hK14 K14
     refine freezeA 7 _ rfl (Keeps.c (k := 1) (by conv => lhs; whnf) (by rfl) (Keeps.c (k := 4) (by conv => lhs; whnf) (by rfl) (Keeps.c (k := 9) (by conv => lhs; whnf) (by rfl) (Keeps.c (k := 10) (by conv => lhs; whnf) (by rfl) (Keeps.c (k := 11) (by conv => lhs; whnf) (by rfl) Keeps.nil))))) ?_
     refine seqK fun K16 hK16 => ?_
     refine region ?_
     refine s0 (fieldVA (TK rfl) rfl rfl (TK rfl) rfl rfl) rfl ?_
     refine s0 (loadV (TK rfl) rfl rfl rfl) rfl ?_
     refine s0 moveA rfl ?_
     refine s0 (binS rfl rfl rfl) rfl ?_
     refine nil ?_
     refine hK16 _ ?_
     clear hK16 K16
     refine condE hE rfl (fun hc17 hE => ?_) (fun hc17 hE => ?_)
     ·refine seqK fun K18 hK18 => ?_
      refine region ?_
      refine s0 (loadV (TK rfl) rfl rfl rfl) rfl ?_
      refine sLn (storeLFA (TK rfl) rfl rfl rfl rfl rfl) ?_
      refine s0 assignA rfl ?_
      refine nil ?_
      refine hK18 _ ?_
      clear hK18 K18
      refine AWp.ret ?_
      repeat (first | refine xBlock_ret ?_ | refine xThen_ret ?_)
      obtain rfl := Option.some.inj hE
      refine retQ.retF H rfl ⟨rfl, rfl⟩ ?_
      exact (fun _ _ h => h)
     refine AWp.skip ?_
     refine hK13 _ ?_
     clear hK13 K13
     refine region ?_
     refine s0 (addI rfl rfl (by first | omega | (dsimp only; omega) | (simp at *; omega)) (by first | omega | (dsimp only; omega) | (simp at *; omega))) rfl ?_
     refine s0 moveA rfl ?_
     refine nil ?_
     exact hK7 _ (n7, (s11_8 + 1), y9_l0) Weak.toA hE (Nat.lt_succ_self _)
    refine AWp.exit ?_
    exact hK2 _ y9_l0 Weak.toA hE
 rintro y3_l0 hE
 try dsimp only at hE
 unfold Z30_j2 at hE
 refine seqK fun K4 hK4 => ?_
 refine region ?_
 refine s0 (build Tryz.tab_ok rfl rfl rfl rfl rfl rfl) rfl ?_
 refine sLn (storeLFA (TK rfl) rfl rfl rfl rfl rfl) ?_
 refine s0 assignA rfl ?_
 refine nil ?_
 refine hK4 _ ?_
 clear hK4 K4
 refine AWp.ret ?_
 repeat (first | refine xBlock_ret ?_ | refine xThen_ret ?_)
 obtain rfl := Option.some.inj hE
 refine retQ.retF H rfl ⟨rfl, rfl⟩ ?_
 exact (fun _ _ h => h)
end Go.Proofs

namespace Go.Proofs
open Go Go.Ab
open AOps Cert AWp
variable {lou : Lou}
def Z32_j2  (y3_l0 : TInput) : Option (TInput × Bool) := some ((TInput.mk ([] : Bs) TRef.zero false TValue.zero (Sl.nil : Sl TDir)), false)
def Z32_l7 (a0 : (Sl TInput)) (a1 : Bs)  : Nat → Nat → TInput → Option (TInput × Bool)
 | 0, _, _ => none
 | n7 + 1, s10_8, y9_l0 => bif (decide (((s10_8 : Nat) : Int) < ((a0.l.length : Nat) : Int))) then ((a0.l[s10_8]?).bind fun x15 => bif ((x15.FName == a1)) then (some (x15, true)) else ((Z32_l7 a0 a1 n7) (s10_8 + 1) y9_l0)) else (Z32_j2   y9_l0)
def Z32 (a0 : (Sl TInput)) (a1 : Bs) : Option (TInput × Bool) := Z32_l7 a0 a1 (a0.l.length + 1) 0 TInput.zero
theorem Z32_walk {a0 : (Sl TInput)} {a1 : Bs} {w0 : Option Nat}  {r : (TInput × Bool)} (hE : Z32 a0 a1 = some r) (H : Heap)  : ACalls Tryz.prog 44 [.d (Sl.d 10 TInput.c w0 a0), .d (.str a1)] H fun v h' => v = .tup [.agg (TInput.c r.1), .d (.bool r.2)] ∧ h' = H := by
 unfold Z32 at hE
 refine ACalls.of_wp (fn := Tryz.f44) (c := _) Tryz.tab_ok (fun _ _ => Tryz.call44 _ _) Tryz.func44 rfl (n := 21) rfl (rs := [.cell 4 104, .tmp 5]) rfl rfl ?_
 refine seqK fun K1 hK1 => ?_
 refine region ?_
 refine sL (allocLA (TK rfl) rfl) rfl ?_
 refine s0 assignA rfl ?_
 refine nil ?_
 refine hK1 _ ?_
 clear hK1 K1
 refine seqJ (KeepsT.A (k := 4) KeepsT.nil) (fun (z : TInput) => []) (fun z => [TInput.c z]) (fun z => H) (fun z => Z32_j2 z = some r) ?_ ?_
 ·intro K2 hK2
  refine seqK fun K5 hK5 => ?_
  refine region ?_
  refine s0 moveA rfl ?_
  refine sLen (f := TInput.c) (s := a0) (TK rfl) rfl rfl rfl rfl fun hL6 => ?_
  refine s0 moveA rfl ?_
  refine nil ?_
  refine hK5 _ ?_
  clear hK5 K5
  refine block ?_
  refine loopO (KeepsT.A (k := 1) (KeepsT.A (k := 4) (KeepsT.A (k := 8) (KeepsT.A (k := 9) KeepsT.nil)))) (fun (z : Nat × Nat × TInput) => [(10, .a (.d (.int .i64 ((z.2.1 : Nat) : Int))))]) (fun z => [TInput.c z.2.2]) (fun z => H) (fun z => z.1) (fun z => Z32_l7 a0 a1 z.1 z.2.1 z.2.2 = some r) ((a0.l.length + 1), 0, TInput.zero) hE Weak.toA ?_
  rintro ⟨n7, s10_8, y9_l0⟩ hE K7 hK7
  try dsimp only at hE
  cases n7 with
  | zero => cases hE
  | succ n7 =>
    rw [Z32_l7] at hE
    refine seqK fun K10 hK10 => ?_
    refine region ?_
    refine s0 (binI rfl rfl rfl) rfl ?_
    refine nil ?_
    refine hK10 _ ?_
    clear hK10 K10
    refine seqK fun K11 hK11 => ?_
    refine condE hE rfl (fun hc12 hE => ?_) (fun hc12 hE => ?_)
    ·try dsimp only at hc12
     have hf12 := of_decide_eq_true hc12
     refine AWp.skip ?_
     refine hK11 _ ?_
     clear hK11 K11
     refine seqK fun K13 hK13 => ?_
     refine block ?_
     refine seqK fun K14 hK14 => ?_
     refine region ?_
     obtain ⟨x15, gx15, hE⟩ := bindO_some hE
     refine s0 (idxMn (f := TInput.c) (n := s10_8) (TK rfl) rfl (TK rfl) rfl rfl rfl gx15) rfl ?_
     refine s0 (loadV (TK rfl) rfl rfl rfl) rfl ?_
     refine sL (allocLA (TK rfl) rfl) rfl ?_
     refine sLn (storeLFA (TK rfl) rfl rfl rfl rfl rfl) ?_
     refine nil ?_
     refine hK14 _ ?_
     clear hK14 K14
     refine freezeA 7 _ rfl (Keeps.c (k := 1) (by conv => lhs; whnf) (by rfl) (Keeps.c (k := 4) (by conv => lhs; whnf) (by rfl) (Keeps.c (k := 8) (by conv => lhs; whnf) (by rfl) (Keeps.c (k := 9) (by conv => lhs; whnf) (by rfl) (Keeps.c (k := 10) (by conv => lhs; whnf) (by rfl) Keeps.nil))))) ?_
     refine seqK fun K16 hK16 => ?_
     refine region ?_
     refine s0 (fieldVA (TK rfl) rfl rfl (TK rfl) rfl rfl) rfl ?_
     refine s0 (loadV (TK rfl) rfl rfl rfl) rfl ?_
     refine s0 moveA rfl ?_
     refine s0 (binS rfl rfl rfl) rfl ?_
     refine nil ?_
     refine hK16 _ ?_
     clear hK16 K16
     refine condE hE rfl (fun hc17 hE => ?_) (fun hc17 hE => ?_)
     ·refine seqK fun K18 hK18 => ?_
      refine region ?_
      refine s0 (loadV (TK rfl) rfl rfl rfl) rfl ?_
      refine sLn (storeLFA (TK rfl) rfl rfl rfl rfl rfl) ?_
      refine s0 assignA rfl ?_
      refine nil ?_
      refine hK18 _ ?_
      clear hK18 K18
      refine AWp.ret ?_
      repeat (first | refine xBlock_ret ?_ | refine xThen_ret ?_)
      obtain rfl := Option.some.inj hE
      refine retQ.retF H rfl ⟨rfl, rfl⟩ ?_
      exact (fun _ _ h => h)
     refine AWp.skip ?_
     refine hK13 _ ?_
     clear hK13 K13
     refine region ?_
     refine s0 (addI rfl rfl (by first | omega | (dsimp only; omega) | (simp at *; omega)) (by first | omega | (dsimp only; omega) | (simp at *; omega))) rfl ?_
     refine s0 moveA rfl ?_
     refine nil ?_
     exact hK7 _ (n7, (s10_8 + 1), y9_l0) Weak.toA hE (Nat.lt_succ_self _)
    refine AWp.exit ?_
    exact hK2 _ y9_l0 Weak.toA hE
 rintro y3_l0 hE
 try dsimp only at hE
 unfold Z32_j2 at hE
 refine seqK fun K4 hK4 => ?_
 refine region ?_
 refine s0 (build Tryz.tab_ok rfl rfl rfl rfl rfl rfl) rfl ?_
 refine sLn (storeLFA (TK rfl) rfl rfl rfl rfl rfl) ?_
 refine s0 assignA rfl ?_
 refine nil ?_
 refine hK4 _ ?_
 clear hK4 K4
 refine AWp.ret ?_
 repeat (first | refine xBlock_ret ?_ | refine xThen_ret ?_)
 obtain rfl := Option.some.inj hE
 refine retQ.retF H rfl ⟨rfl, rfl⟩ ?_
 exact (fun _ _ h => h)
def Tryz.lay20_ren : Go.Shelf.Ren := ⟨fun | 169 => 20 | n => n, fun | 70 => 50 | 9 => 9 | 0 => 0 | 72 => 53 | 37 => 51 | 127 => 80 | 3 => 3 | 5 => 5 | n => n, fun | n => n⟩
theorem Tryz.lay20 : Go.Proofs.Lays.n169 Tryz.prog Tryz.lay20_ren := {
 mixed := by kernel_rfl
 f169 := Tryz.func20.trans (congrArg some (by kernel_rfl))
 t0 := Tryz.underlying0
 a0 := Tryz.isAgg0
 z0 := Tryz.sizeOf0
 v0 := Tryz.zeroValue0
 t3 := Tryz.underlying3
 a3 := Tryz.isAgg3
 z3 := Tryz.sizeOf3
 v3 := Tryz.zeroValue3
 t9 := Tryz.underlying9
 a9 := Tryz.isAgg9
 z9 := Tryz.sizeOf9
 v9 := Tryz.zeroValue9
 t37 := Tryz.underlying51
 a37 := Tryz.isAgg51
 z37 := Tryz.sizeOf51
 v37 := Tryz.zeroValue51
 t70 := Tryz.underlying50
 a70 := Tryz.isAgg50
 z70 := Tryz.sizeOf50
 v70 := Tryz.zeroValue50
 t72 := Tryz.underlying53
 a72 := Tryz.isAgg53
 z72 := Tryz.sizeOf53
 v72 := Tryz.zeroValue53
 t127 := Tryz.underlying80
 a127 := Tryz.isAgg80
 z127 := Tryz.sizeOf80
 v127 := Tryz.zeroValue80 }
theorem Tryz.extra20 : Builder.Extra Tryz.prog Tryz.lay20_ren where
 sizeBuilder := by kernel_rfl
 liesBuilder := by kernel_rfl
 t5 := Tryz.underlying5
 a5 := Tryz.isAgg5
 z5 := Tryz.sizeOf5
 v5 := Tryz.zeroValue5
 infoByte := by kernel_rfl
 cellsByte := by kernel_rfl
 sizeByte := by kernel_rfl
 neB5 := by decide
def Z41 (a0 : Strings_Builder) : Option Bs := bldStr a0
theorem Z41_walk {a0 : Strings_Builder} {c0 t0 : Nat} {r : Bs} (hE : Z41 a0 = some r) (H : Heap) (hc0 : H c0 = some (.tcells 53 (Strings_Builder.cg c0 (some t0) a0))) (ht0 : H t0 = some (.tok 1 a0.Fbuf.l.length (some 5))) : ACalls Tryz.prog 20 [.d (.ptr c0 0)] H fun v h' => v = .a (.d (.str r)) ∧ h' = (H.set t0 none).set c0 none := bld_string Tryz.lay20 Tryz.extra20 rfl rfl rfl hE hc0 ht0
def Tryz.lay29_ren : Go.Shelf.Ren := ⟨fun | 240 => 29 | 276 => 49 | n => n, fun | 0 => 0 | 4 => 4 | 9 => 9 | 20 => 20 | 70 => 50 | 72 => 53 | 164 => 121 | 37 => 51 | n => n, fun | n => n⟩
theorem Tryz.lay29 : Go.Proofs.Lays.n240 Tryz.prog Tryz.lay29_ren := {
 mixed := by kernel_rfl
 f240 := Tryz.func29.trans (congrArg some (by kernel_rfl))
 f276 := Tryz.func49.trans (congrArg some (by kernel_rfl))
 t0 := Tryz.underlying0
 a0 := Tryz.isAgg0
 z0 := Tryz.sizeOf0
 v0 := Tryz.zeroValue0
 t4 := Tryz.underlying4
 a4 := Tryz.isAgg4
 z4 := Tryz.sizeOf4
 v4 := Tryz.zeroValue4
 t9 := Tryz.underlying9
 a9 := Tryz.isAgg9
 z9 := Tryz.sizeOf9
 v9 := Tryz.zeroValue9
 t20 := Tryz.underlying20
 a20 := Tryz.isAgg20
 z20 := Tryz.sizeOf20
 v20 := Tryz.zeroValue20
 t70 := Tryz.underlying50
 a70 := Tryz.isAgg50
 z70 := Tryz.sizeOf50
 v70 := Tryz.zeroValue50
 t72 := Tryz.underlying53
 a72 := Tryz.isAgg53
 z72 := Tryz.sizeOf53
 v72 := Tryz.zeroValue53
 t164 := Tryz.underlying121
 a164 := Tryz.isAgg121
 z164 := Tryz.sizeOf121
 v164 := Tryz.zeroValue121 }
def Z43 (a0 : Strings_Builder) : Option Strings_Builder := some ⟨true, a0.Fbuf⟩
theorem Z43_walk {a0 : Strings_Builder} {c0 : Nat} {c0_1 : Nat} {r : Strings_Builder} (hE : Z43 a0 = some r) (H : Heap) (hc0 : H c0 = some (.tcells 53 (Strings_Builder.cg c0 (some c0_1) a0))) (ht0_1 : H c0_1 = some (.tok 1 a0.Fbuf.l.length (some 5))) : ACalls Tryz.prog 29 [.d (.ptr c0 0)] H fun v h' => v = .tup [] ∧ h' = ((H.set c0_1 (some (.tok 1 r.Fbuf.l.length (some 5)))).set c0 (some (.tcells 53 (Strings_Builder.cg c0 (some c0_1) r)))) := by
 obtain rfl := Option.some.inj hE
 refine (bld_check (T := 53) Tryz.lay29 ⟨by kernel_rfl, by kernel_rfl⟩ rfl rfl hc0).mono fun v h' e => ⟨e.1, ?_⟩
 rw [e.2]
 show _ = Heap.set (Heap.set H c0_1 _) _ _
 rw [Heap.set_self H c0_1 _ ht0_1]
def Z42 (a0 : Strings_Builder) (a1 : Int) : Option (Unit × Strings_Builder) := (Z43 a0).bind fun x3 => (appC 1 x3.Fbuf (⟨false, [a1]⟩ : Sl Int)).bind fun x5 => some ((), (Strings_Builder.mk x3.Faddr x5))
theorem Z42_walk {a0 : Strings_Builder} {a1 : Int}  {c0 : Nat} {c0_1 : Nat} {r : (Unit × Strings_Builder)} (hE : Z42 a0 a1 = some r) (H : Heap) (hc0 : H c0 = some (.tcells 53 (Strings_Builder.cg c0 (some c0_1) a0))) (ht0_1 : H c0_1 = some (.tok 1 a0.Fbuf.l.length (some 5))) : ACalls Tryz.prog 107 [.d (.ptr c0 0), .d (.int .u8 a1)] H fun v h' => v = .a (.d (.nilIface)) ∧ h' = ((H.set c0_1 (some (.tok 1 r.2.Fbuf.l.length (some 5)))).set c0 (some (.tcells 53 (Strings_Builder.cg c0 (some c0_1) r.2)))) := by
 unfold Z42 at hE
 refine ACalls.of_wp (fn := Tryz.f107) (c := _) Tryz.tab_ok (fun _ _ => Tryz.call107 _ _) Tryz.func107 rfl (n := 17) rfl (rs := [.tmp 4]) rfl rfl ?_
 have ne_c0_c0_1 : c0 ≠ c0_1 := fun e_ => by subst e_; simp_all
 refine AWp.heqA (h' := ((H.set c0_1 (some (.tok 1 a0.Fbuf.l.length (some 5)))).set c0 (some (.tcells 53 (Strings_Builder.cg c0 (some c0_1) a0))))) (by funext n_; simp only [Heap.set]; (repeat' split) <;> simp_all) ?_
 refine seqK fun K1 hK1 => ?_
 refine region ?_
 refine s0 assignA rfl ?_
 refine nil ?_
 refine hK1 _ ?_
 clear hK1 K1
 refine seqK fun K2 hK2 => ?_
 refine region ?_
 refine s0 moveA rfl ?_
 obtain ⟨x3, gx3, hE⟩ := bindO_some hE
 refine sH (callH rfl rfl (Z43_walk gx3 _ hpG hpG)) rfl ?_
 refine AOps.heq (h' := ((H.set c0_1 (some (.tok 1 x3.Fbuf.l.length (some 5)))).set c0 (some (.tcells 53 (Strings_Builder.cg c0 (some c0_1) x3))))) (by first | rfl | (rw [Heap.set_set]; rfl) | (funext n_; simp only [Heap.set]; (repeat' split) <;> first | rfl | (exfalso; simp_all; done) | (simp_all; done))) ?_
 refine nil ?_
 refine hK2 _ ?_
 clear hK2 K2
 refine seqK fun K4 hK4 => ?_
 refine region ?_
 refine s0 moveA rfl ?_
 refine s0 moveA rfl ?_
 refine s0 (nilP rfl) rfl ?_
 refine s0 (fieldP (TK rfl) rfl rfl (TK rfl) rfl rfl) rfl ?_
 refine s0 (loadPT (TK rfl) rfl rfl hpG rfl) rfl ?_
 refine s0 moveA rfl ?_
 refine s0 (buildSlice (TK rfl) rfl (TK rfl) rfl rfl rfl rfl rfl rfl) rfl ?_
 obtain ⟨x5, gx5, hE⟩ := bindO_some hE
 refine sH (appMT (TK rfl) rfl (TK rfl) (TK rfl) ⟨_, rfl⟩ rfl rfl (by decide) rfl rfl rfl rfl hpG rfl rfl gx5) rfl ?_
 refine AOps.heq (h' := ((H.set c0_1 (some (.tok 1 x5.l.length (some 5)))).set c0 (some (.tcells 53 (Strings_Builder.cg c0 (some c0_1) x3))))) (by first | rfl | (rw [Heap.set_set]; rfl) | (funext n_; simp only [Heap.set]; (repeat' split) <;> first | rfl | (exfalso; simp_all; done) | (simp_all; done))) ?_
 refine s0 (nilP rfl) rfl ?_
 refine s0 (fieldP (TK rfl) rfl rfl (TK rfl) rfl rfl) rfl ?_
 refine sHn (storePT (TK rfl) rfl rfl hpG rfl (by repeat (first | exact SetAt.zero | apply SetAt.succ))) rfl rfl ?_
 refine AOps.heq (h' := ((H.set c0_1 (some (.tok 1 x5.l.length (some 5)))).set c0 (some (.tcells 53 (Strings_Builder.cg c0 (some c0_1) (Strings_Builder.mk x3.Faddr x5)))))) (by first | rfl | (rw [Heap.set_set]; rfl) | (funext n_; simp only [Heap.set]; (repeat' split) <;> first | rfl | (exfalso; simp_all; done) | (simp_all; done))) ?_
 refine nil ?_
 refine hK4 _ ?_
 clear hK4 K4
 refine seqK fun K6 hK6 => ?_
 refine region ?_
 refine s0 assignA rfl ?_
 refine nil ?_
 refine hK6 _ ?_
 clear hK6 K6
 refine AWp.ret ?_
 repeat (first | refine xBlock_ret ?_ | refine xThen_ret ?_)
 obtain rfl := Option.some.inj hE
 refine retQ.retF ((H.set c0_1 (some (.tok 1 x5.l.length (some 5)))).set c0 (some (.tcells 53 (Strings_Builder.cg c0 (some c0_1) (Strings_Builder.mk x3.Faddr x5))))) rfl ⟨rfl, rfl⟩ ?_
 exact (fun _ _ h => h)
def Z46_j7 (a0 : TRef)  (y8_id3_3 : Strings_Builder) (y9_id4_5 : Strings_Builder) : Option Bs := (Z41 y8_id3_3).bind fun x11 => (catC x11 a0.FName).bind fun x12 => (Z41 y9_id4_5).bind fun x13 => (catC x12 x13).bind fun x14 => some x14
def Z46_j25 (s5_19 : Int) (k_next_18 : Int → Strings_Builder → Strings_Builder → Option Bs) (y26_id3_3 : Strings_Builder) (y27_id4_5 : Strings_Builder) : Option Bs := (subC s5_19 (1 : Int)).bind fun x28 => k_next_18 x28 y26_id3_3 y27_id4_5
def Z46_l18 (a0 : TRef)  : Nat → Int → Strings_Builder → Strings_Builder → Option Bs
 | 0, _, _, _ => none
 | n18 + 1, s5_19, y20_id3_3, y21_id4_5 => bif (decide ((0 : Int) ≤ s5_19)) then ((idxC a0.FWraps.l s5_19).bind fun x30 => bif (decide (x30 = (1 : Int))) then ((Z42 y21_id4_5 (33 : Int)).bind fun x32 => Z46_j25 s5_19 ((Z46_l18 a0 n18)) y20_id3_3 x32.2) else ((Z42 y20_id3_3 (91 : Int)).bind fun x34 => (Z42 y21_id4_5 (93 : Int)).bind fun x35 => Z46_j25 s5_19 ((Z46_l18 a0 n18)) x34.2 x35.2)) else (Z46_j7 a0  y20_id3_3 y21_id4_5)
def Z46 (a0 : TRef) : Option Bs := (subC ((a0.FWraps.l.length : Nat) : Int) (1 : Int)).bind fun x17 => Z46_l18 a0 F0 x17 Strings_Builder.zero Strings_Builder.zero
theorem Z46_walk {a0 : TRef}   {r : Bs} (hE : Z46 a0 = some r) (H : Heap)  : ACalls Tryz.prog 87 [.agg (TRef.c a0)] H fun v h' => v = .a (.d (.str r)) ∧ h' = H := by
 unfold Z46 at hE
 refine ACalls.of_wp (fn := Tryz.f87) (c := _) Tryz.tab_ok (fun _ _ => Tryz.call87 _ _) Tryz.func87 rfl (n := 29) rfl (rs := [.tmp 2]) rfl rfl ?_
 refine seqK fun K1 hK1 => ?_
 refine region ?_
 refine s0 (boxV rfl) rfl ?_
 refine s0 assignA rfl ?_
 refine nil ?_
 refine hK1 _ ?_
 clear hK1 K1
 refine seqK fun K2 hK2 => ?_
 refine region ?_
 refine AOps.tokE 1 5 fun tk3_4 htk3_4 => ?_
 refine sE (StepE.allocT (TK rfl) rfl) rfl (fun _ _ _ ⟨id3_3, hid3_3, e1, e2, e3⟩ => ?_); subst e1 e2 e3
 obtain ⟨ne_id3_3_tk3_4, hid3_3⟩ := Heap.set_fresh hid3_3
 refine AOps.recellT id3_3 _ hpG (fun j w cs hh hx => tok_cell 1 1 1 hh (t := tk3_4) hpG hx rfl) ?_
 refine AOps.heq (h' := ((H.set tk3_4 (some (.tok 1 0 (some 5)))).set id3_3 (some (.tcells 53 (Strings_Builder.cg id3_3 (some tk3_4) Strings_Builder.zero))))) (by first | rfl | (rw [Heap.set_set]; rfl) | (funext n_; simp only [Heap.set]; (repeat' split) <;> first | rfl | (exfalso; simp_all; done) | (simp_all; done))) ?_
 refine AOps.tokE 1 5 fun tk4_6 htk4_6 => ?_
 obtain ⟨ne_tk4_6_id3_3, htk4_6⟩ := Heap.set_fresh htk4_6
 obtain ⟨ne_tk4_6_tk3_4, htk4_6⟩ := Heap.set_fresh htk4_6
 refine sE (StepE.allocT (TK rfl) rfl) rfl (fun _ _ _ ⟨id4_5, hid4_5, e1, e2, e3⟩ => ?_); subst e1 e2 e3
 obtain ⟨ne_id4_5_tk4_6, hid4_5⟩ := Heap.set_fresh hid4_5
 obtain ⟨ne_id4_5_id3_3, hid4_5⟩ := Heap.set_fresh hid4_5
 obtain ⟨ne_id4_5_tk3_4, hid4_5⟩ := Heap.set_fresh hid4_5
 refine AOps.recellT id4_5 _ hpG (fun j w cs hh hx => tok_cell 1 1 1 hh (t := tk4_6) hpG hx rfl) ?_
 refine AOps.heq (h' := ((((H.set tk3_4 (some (.tok 1 0 (some 5)))).set id3_3 (some (.tcells 53 (Strings_Builder.cg id3_3 (some tk3_4) Strings_Builder.zero)))).set tk4_6 (some (.tok 1 0 (some 5)))).set id4_5 (some (.tcells 53 (Strings_Builder.cg id4_5 (some tk4_6) Strings_Builder.zero))))) (by first | rfl | (rw [Heap.set_set]; rfl) | (funext n_; simp only [Heap.set]; (repeat' split) <;> first | rfl | (exfalso; simp_all; done) | (simp_all; done))) ?_
 refine nil ?_
 refine hK2 _ ?_
 clear hK2 K2
 refine seqJH (KeepsT.A (k := 1) (KeepsT.A (k := 3) (KeepsT.A (k := 4) KeepsT.nil))) (fun (z : Strings_Builder × Strings_Builder) => []) (fun z => ((((H.set tk3_4 (some (.tok 1 z.1.Fbuf.l.length (some 5)))).set id3_3 (some (.tcells 53 (Strings_Builder.cg id3_3 (some tk3_4) z.1)))).set tk4_6 (some (.tok 1 z.2.Fbuf.l.length (some 5)))).set id4_5 (some (.tcells 53 (Strings_Builder.cg id4_5 (some tk4_6) z.2))))) (fun z => Z46_j7 a0 z.1 z.2 = some r) ?_ ?_
 ·intro K7 hK7
  refine seqK fun K15 hK15 => ?_
  refine region ?_
  refine s0 (fieldVA (TK rfl) rfl rfl (TK rfl) rfl rfl) rfl ?_
  refine s0 (loadV (TK rfl) rfl rfl rfl) rfl ?_
  refine sLen (f := (intE .i64)) (s := a0.FWraps) (TK rfl) rfl rfl rfl rfl fun hL16 => ?_
  obtain ⟨x17, gx17, hE⟩ := bindO_some hE
  refine s0 (subM rfl rfl gx17) rfl ?_
  refine s0 assignA rfl ?_
  refine nil ?_
  refine hK15 _ ?_
  clear hK15 K15
  refine block ?_
  refine loopH (KeepsT.A (k := 1) (KeepsT.A (k := 3) (KeepsT.A (k := 4) KeepsT.nil))) (fun (z : Nat × Int × Strings_Builder × Strings_Builder) => [(5, .a (.d (.int .i64 z.2.1)))]) (fun z => ((((H.set tk3_4 (some (.tok 1 z.2.2.1.Fbuf.l.length (some 5)))).set id3_3 (some (.tcells 53 (Strings_Builder.cg id3_3 (some tk3_4) z.2.2.1)))).set tk4_6 (some (.tok 1 z.2.2.2.Fbuf.l.length (some 5)))).set id4_5 (some (.tcells 53 (Strings_Builder.cg id4_5 (some tk4_6) z.2.2.2))))) (fun z => z.1) (fun z => Z46_l18 a0 z.1 z.2.1 z.2.2.1 z.2.2.2 = some r) (F0, x17, Strings_Builder.zero, Strings_Builder.zero) hE Weak.toA ?_
  rintro ⟨n18, s5_19, y20_id3_3, y21_id4_5⟩ hE K18 hK18
  try dsimp only at hE
  cases n18 with
  | zero => cases hE
  | succ n18 =>
    rw [Z46_l18] at hE
    refine seqK fun K22 hK22 => ?_
    refine seqK fun K23 hK23 => ?_
    refine region ?_
    refine s0 moveA rfl ?_
    refine s0 (binI rfl rfl rfl) rfl ?_
    refine nil ?_
    refine hK23 _ ?_
    clear hK23 K23
    refine condE hE rfl (fun hc24 hE => ?_) (fun hc24 hE => ?_)
    ·refine AWp.skip ?_
     refine hK22 _ ?_
     clear hK22 K22
     refine seqJH (KeepsT.A (k := 1) (KeepsT.A (k := 3) (KeepsT.A (k := 4) (KeepsT.A (k := 5) KeepsT.nil)))) (fun (z : Strings_Builder × Strings_Builder) => []) (fun z => ((((H.set tk3_4 (some (.tok 1 z.1.Fbuf.l.length (some 5)))).set id3_3 (some (.tcells 53 (Strings_Builder.cg id3_3 (some tk3_4) z.1)))).set tk4_6 (some (.tok 1 z.2.Fbuf.l.length (some 5)))).set id4_5 (some (.tcells 53 (Strings_Builder.cg id4_5 (some tk4_6) z.2))))) (fun z => Z46_j25 s5_19 ((Z46_l18 a0 n18)) z.1 z.2 = some r) ?_ ?_
     ·intro K25 hK25
      refine block ?_
      refine seqK fun K29 hK29 => ?_
      refine region ?_
      refine s0 (fieldVA (TK rfl) rfl rfl (TK rfl) rfl rfl) rfl ?_
      refine s0 (loadV (TK rfl) rfl rfl rfl) rfl ?_
      refine s0 moveA rfl ?_
      obtain ⟨x30, gx30, hE⟩ := bindO_some hE
      refine s0 (idxM (f := (intE .i64)) (TK rfl) rfl (TK rfl) rfl rfl rfl gx30) rfl ?_
      refine s0 (loadV (TK rfl) rfl rfl rfl) rfl ?_
      refine s0 (binI rfl rfl rfl) rfl ?_
      refine nil ?_
      refine hK29 _ ?_
      clear hK29 K29
      refine condE hE rfl (fun hc31 hE => ?_) (fun hc31 hE => ?_)
      ·refine region ?_
       obtain ⟨x32, gx32, hE⟩ := bindO_some hE
       refine sH (callH rfl rfl (Z42_walk gx32 _ hpG hpG)) rfl ?_
       refine AOps.heq (h' := ((((H.set tk3_4 (some (.tok 1 y20_id3_3.Fbuf.l.length (some 5)))).set id3_3 (some (.tcells 53 (Strings_Builder.cg id3_3 (some tk3_4) y20_id3_3)))).set tk4_6 (some (.tok 1 x32.2.Fbuf.l.length (some 5)))).set id4_5 (some (.tcells 53 (Strings_Builder.cg id4_5 (some tk4_6) x32.2))))) (by first | rfl | (rw [Heap.set_set]; rfl) | (funext n_; simp only [Heap.set]; (repeat' split) <;> first | rfl | (exfalso; simp_all; done) | (simp_all; done))) ?_
       refine nil ?_
       exact hK25 _ (y20_id3_3, x32.2) Weak.toA hE
      refine seqK fun K33 hK33 => ?_
      refine region ?_
      obtain ⟨x34, gx34, hE⟩ := bindO_some hE
      refine sH (callH rfl rfl (Z42_walk gx34 _ hpG hpG)) rfl ?_
      refine AOps.heq (h' := ((((H.set tk3_4 (some (.tok 1 x34.2.Fbuf.l.length (some 5)))).set id3_3 (some (.tcells 53 (Strings_Builder.cg id3_3 (some tk3_4) x34.2)))).set tk4_6 (some (.tok 1 y21_id4_5.Fbuf.l.length (some 5)))).set id4_5 (some (.tcells 53 (Strings_Builder.cg id4_5 (some tk4_6) y21_id4_5))))) (by first | rfl | (rw [Heap.set_set]; rfl) | (funext n_; simp only [Heap.set]; (repeat' split) <;> first | rfl | (exfalso; simp_all; done) | (simp_all; done))) ?_
      refine nil ?_
      refine hK33 _ ?_
      clear hK33 K33
      refine region ?_
      obtain ⟨x35, gx35, hE⟩ := bindO_some hE
      refine sH (callH rfl rfl (Z42_walk gx35 _ hpG hpG)) rfl ?_
      refine AOps.heq (h' := ((((H.set tk3_4 (some (.tok 1 x34.2.Fbuf.l.length (some 5)))).set id3_3 (some (.tcells 53 (Strings_Builder.cg id3_3 (some tk3_4) x34.2)))).set tk4_6 (some (.tok 1 x35.2.Fbuf.l.length (some 5)))).set id4_5 (some (.tcells 53 (Strings_Builder.cg id4_5 (some tk4_6) x35.2))))) (by first | rfl | (rw [Heap.set_set]; rfl) | (funext n_; simp only [Heap.set]; (repeat' split) <;> first | rfl | (exfalso; simp_all; done) | (simp_all; done))) ?_
      refine nil ?_
      exact hK25 _ (x34.2, x35.2) Weak.toA hE
     rintro ⟨y26_id3_3, y27_id4_5⟩ hE
     try dsimp only at hE
     unfold Z46_j25 at hE
     refine region ?_
     refine s0 moveA rfl ?_
     obtain ⟨x28, gx28, hE⟩ := bindO_some hE
     refine s0 (subM rfl rfl gx28) rfl ?_
     refine s0 assignA rfl ?_
     refine nil ?_
     exact hK18 _ (n18, x28, y26_id3_3, y27_id4_5) Weak.toA hE (Nat.lt_succ_self _)
    refine AWp.exit ?_
    exact hK7 _ (y20_id3_3, y21_id4_5) Weak.toA hE
 rintro ⟨y8_id3_3, y9_id4_5⟩ hE
 try dsimp only at hE
 unfold Z46_j7 at hE
 refine seqK fun K10 hK10 => ?_
 refine AWp.draw rfl ?_
 obtain ⟨x11, gx11, hE⟩ := bindO_some hE
 refine DOps.sH (callH rfl rfl (Z41_walk gx11 _ hpG hpG)) rfl ?_
 refine DOps.heq (h' := ((H.set tk4_6 (some (.tok 1 y9_id4_5.Fbuf.l.length (some 5)))).set id4_5 (some (.tcells 53 (Strings_Builder.cg id4_5 (some tk4_6) y9_id4_5))))) (by first | rfl | (rw [Heap.set_set]; rfl) | (funext n_; simp only [Heap.set]; (repeat' split) <;> first | rfl | (exfalso; simp_all; done) | (simp_all; done))) ?_
 refine DOps.s0 (fieldVA (TK rfl) rfl rfl (TK rfl) rfl rfl) rfl ?_
 refine DOps.s0 (loadV (TK rfl) rfl rfl rfl) rfl ?_
 obtain ⟨x12, gx12, hE⟩ := bindO_some hE
 refine DOps.s0 (catM rfl rfl gx12) rfl ?_
 obtain ⟨x13, gx13, hE⟩ := bindO_some hE
 refine DOps.sH (callH rfl rfl (Z41_walk gx13 _ hpG hpG)) rfl ?_
 refine DOps.heq (h' := H) (by first | rfl | (rw [Heap.set_set]; rfl) | (funext n_; simp only [Heap.set]; (repeat' split) <;> first | rfl | (exfalso; simp_all; done) | (simp_all; done))) ?_
 obtain ⟨x14, gx14, hE⟩ := bindO_some hE
 refine DOps.s0 (catM rfl rfl gx14) rfl ?_
 refine DOps.s0 assignA rfl ?_
 refine DOps.nil (by decide +kernel) ?_
 refine hK10 _ ?_
 clear hK10 K10
 refine AWp.ret ?_
 repeat (first | refine xBlock_ret ?_ | refine xThen_ret ?_)
 obtain rfl := Option.some.inj hE
 refine retQ.retF H rfl ⟨rfl, rfl⟩ ?_
 exact (fun _ _ h => h)
def Z37_j8   : Option Bool := some true
def Z37_l12 (a0 : (Sl Int)) (a1 : (Sl Int))  : Nat → Nat → Option Bool
 | 0, _ => none
 | n12 + 1, s13_13 => bif (decide (((s13_13 : Nat) : Int) < ((a0.l.length : Nat) : Int))) then ((a0.l[s13_13]?).bind fun x20 => (a1.l[s13_13]?).bind fun x21 => bif (!decide (x20 = x21)) then (some false) else ((Z37_l12 a0 a1 n12) (s13_13 + 1))) else (Z37_j8   )
def Z37 (a0 : (Sl Int)) (a1 : (Sl Int)) : Option Bool := bif (!decide (((a0.l.length : Nat) : Int) = ((a1.l.length : Nat) : Int))) then (some false) else (Z37_l12 a0 a1 (a0.l.length + 1) 0)
theorem Z37_walk {a0 : (Sl Int)} {a1 : (Sl Int)} {w0 : Option Nat} {w1 : Option Nat}  {r : Bool} (hE : Z37 a0 a1 = some r) (H : Heap)  : ACalls Tryz.prog 108 [.d (Sl.d 1 (intE .i64) w0 a0), .d (Sl.d 1 (intE .i64) w1 a1)] H fun v h' => v = .a (.d (.bool r)) ∧ h' = H := by
 unfold Z37 at hE
 refine ACalls.of_wp (fn := Tryz.f108) (c := _) Tryz.tab_ok (fun _ _ => Tryz.call108 _ _) Tryz.func108 rfl (n := 26) rfl (rs := [.tmp 4]) rfl rfl ?_
 refine seqK fun K1 hK1 => ?_
 refine region ?_
 refine s0 assignA rfl ?_
 refine nil ?_
 refine hK1 _ ?_
 clear hK1 K1
 refine seqK fun K2 hK2 => ?_
 refine seqK fun K3 hK3 => ?_
 refine region ?_
 refine s0 moveA rfl ?_
 refine sLen (f := (intE .i64)) (s := a0) (TK rfl) rfl rfl rfl rfl fun hL4 => ?_
 refine s0 moveA rfl ?_
 refine sLen (f := (intE .i64)) (s := a1) (TK rfl) rfl rfl rfl rfl fun hL5 => ?_
 refine s0 (binI rfl rfl rfl) rfl ?_
 refine nil ?_
 refine hK3 _ ?_
 clear hK3 K3
 refine condE hE rfl (fun hc6 hE => ?_) (fun hc6 hE => ?_)
 ·refine seqK fun K7 hK7 => ?_
  refine region ?_
  refine s0 assignA rfl ?_
  refine nil ?_
  refine hK7 _ ?_
  clear hK7 K7
  refine AWp.ret ?_
  repeat (first | refine xBlock_ret ?_ | refine xThen_ret ?_)
  obtain rfl := Option.some.inj hE
  refine retQ.retF H rfl ⟨rfl, rfl⟩ ?_
  exact (fun _ _ h => h)
 refine AWp.skip ?_
 refine hK2 _ ?_
 clear hK2 K2
 refine seqJH KeepsT.nil (fun (z : Unit) => []) (fun z => H) (fun z => Z37_j8  = some r) ?_ ?_
 ·intro K8 hK8
  refine seqK fun K10 hK10 => ?_
  refine region ?_
  refine s0 moveA rfl ?_
  refine sLen (f := (intE .i64)) (s := a0) (TK rfl) rfl rfl rfl rfl fun hL11 => ?_
  refine s0 moveA rfl ?_
  refine nil ?_
  refine hK10 _ ?_
  clear hK10 K10
  refine block ?_
  refine loopH (KeepsT.A (k := 0) (KeepsT.A (k := 1) (KeepsT.A (k := 12) KeepsT.nil))) (fun (z : Nat × Nat) => [(13, .a (.d (.int .i64 ((z.2 : Nat) : Int))))]) (fun z => H) (fun z => z.1) (fun z => Z37_l12 a0 a1 z.1 z.2 = some r) ((a0.l.length + 1), 0) hE Weak.toA ?_
  rintro ⟨n12, s13_13⟩ hE K12 hK12
  try dsimp only at hE
  cases n12 with
  | zero => cases hE
  | succ n12 =>
    rw [Z37_l12] at hE
    refine seqK fun K14 hK14 => ?_
    refine region ?_
    refine s0 (binI rfl rfl rfl) rfl ?_
    refine nil ?_
    refine hK14 _ ?_
    clear hK14 K14
    refine seqK fun K15 hK15 => ?_
    refine condE hE rfl (fun hc16 hE => ?_) (fun hc16 hE => ?_)
    ·try dsimp only at hc16
     have hf16 := of_decide_eq_true hc16
     refine AWp.skip ?_
     refine hK15 _ ?_
     clear hK15 K15
     refine seqK fun K17 hK17 => ?_
     refine block ?_
     refine seqK fun K18 hK18 => ?_
     refine region ?_
     refine s0 moveA rfl ?_
     refine s0 assignA rfl ?_
     refine nil ?_
     refine hK18 _ ?_
     clear hK18 K18
     refine seqK fun K19 hK19 => ?_
     refine AWp.draw rfl ?_
     refine DOps.s0 moveA rfl ?_
     refine DOps.s0 moveA rfl ?_
     obtain ⟨x20, gx20, hE⟩ := bindO_some hE
     refine DOps.s0 (idxMn (f := (intE .i64)) (n := s13_13) (TK rfl) rfl (TK rfl) rfl rfl rfl gx20) rfl ?_
     refine DOps.s0 (loadV (TK rfl) rfl rfl rfl) rfl ?_
     refine DOps.s0 moveA rfl ?_
     refine DOps.s0 moveA rfl ?_
     obtain ⟨x21, gx21, hE⟩ := bindO_some hE
     refine DOps.s0 (idxMn (f := (intE .i64)) (n := s13_13) (TK rfl) rfl (TK rfl) rfl rfl rfl gx21) rfl ?_
     refine DOps.s0 (loadV (TK rfl) rfl rfl rfl) rfl ?_
     refine DOps.s0 (binI rfl rfl rfl) rfl ?_
     refine DOps.nil (by decide +kernel) ?_
     refine hK19 _ ?_
     clear hK19 K19
     refine condE hE rfl (fun hc22 hE => ?_) (fun hc22 hE => ?_)
     ·refine seqK fun K23 hK23 => ?_
      refine region ?_
      refine s0 assignA rfl ?_
      refine nil ?_
      refine hK23 _ ?_
      clear hK23 K23
      refine AWp.ret ?_
      repeat (first | refine xBlock_ret ?_ | refine xThen_ret ?_)
      obtain rfl := Option.some.inj hE
      refine retQ.retF H rfl ⟨rfl, rfl⟩ ?_
      exact (fun _ _ h => h)
     refine AWp.skip ?_
     refine hK17 _ ?_
     clear hK17 K17
     refine region ?_
     refine s0 (addI rfl rfl (by first | omega | (dsimp only; omega) | (simp at *; omega)) (by first | omega | (dsimp only; omega) | (simp at *; omega))) rfl ?_
     refine s0 moveA rfl ?_
     refine nil ?_
     exact hK12 _ (n12, (s13_13 + 1)) Weak.toA hE (Nat.lt_succ_self _)
    refine AWp.exit ?_
    exact hK8 _ () Weak.toA hE
 rintro _ hE
 try dsimp only at hE
 unfold Z37_j8 at hE
 refine seqK fun K9 hK9 => ?_
 refine region ?_
 refine s0 assignA rfl ?_
 refine nil ?_
 refine hK9 _ ?_
 clear hK9 K9
 refine AWp.ret ?_
 repeat (first | refine xBlock_ret ?_ | refine xThen_ret ?_)
 obtain rfl := Option.some.inj hE
 refine retQ.retF H rfl ⟨rfl, rfl⟩ ?_
 exact (fun _ _ h => h)
def Z47 (a0 : TRef) (a1 : TRef) : Option Bool := guardO (((a0.FName == a1.FName))) (Z37 a0.FWraps a1.FWraps) false fun x3 => some (((a0.FName == a1.FName)) && x3)
theorem Z47_walk {a0 : TRef} {a1 : TRef}   {r : Bool} (hE : Z47 a0 a1 = some r) (H : Heap)  : ACalls Tryz.prog 88 [.agg (TRef.c a0), .agg (TRef.c a1)] H fun v h' => v = .a (.d (.bool r)) ∧ h' = H := by
 unfold Z47 at hE
 refine ACalls.of_wp (fn := Tryz.f88) (c := _) Tryz.tab_ok (fun _ _ => Tryz.call88 _ _) Tryz.func88 rfl (n := 17) rfl (rs := [.tmp 4]) rfl rfl ?_
 refine seqK fun K1 hK1 => ?_
 refine region ?_
 refine s0 (boxV rfl) rfl ?_
 refine s0 (boxV rfl) rfl ?_
 refine s0 assignA rfl ?_
 refine nil ?_
 refine hK1 _ ?_
 clear hK1 K1
 refine seqK fun K2 hK2 => ?_
 refine region ?_
 refine s0 (fieldVA (TK rfl) rfl rfl (TK rfl) rfl rfl) rfl ?_
 refine s0 (loadV (TK rfl) rfl rfl rfl) rfl ?_
 refine s0 (fieldVA (TK rfl) rfl rfl (TK rfl) rfl rfl) rfl ?_
 refine s0 (loadV (TK rfl) rfl rfl rfl) rfl ?_
 refine s0 (binS rfl rfl rfl) rfl ?_
 refine s0 moveA rfl ?_
 refine gC rfl rfl (fun hC => fieldVA (TK rfl) rfl rfl (TK rfl) rfl rfl) rfl ?_
 refine gC rfl rfl (fun hC => ungdA (k := 11) rfl (loadV (TK rfl) rfl rfl rfl)) rfl ?_
 refine gC rfl rfl (fun hC => fieldVA (TK rfl) rfl rfl (TK rfl) rfl rfl) rfl ?_
 refine gC rfl rfl (fun hC => ungdA (k := 13) rfl (loadV (TK rfl) rfl rfl rfl)) rfl ?_
 obtain ⟨x3, gx3, hE⟩ := guardO_some hE
 refine gC rfl rfl (fun hC => ungdA (k := 12) rfl (ungdA (k := 14) rfl (callP rfl rfl (fun H => Z37_walk (gx3 hC) H)))) rfl ?_
 refine s0 (pickAndA rfl rfl rfl) rfl ?_
 refine s0 assignA rfl ?_
 refine nil ?_
 refine hK2 _ ?_
 clear hK2 K2
 refine AWp.ret ?_
 repeat (first | refine xBlock_ret ?_ | refine xThen_ret ?_)
 obtain rfl := Option.some.inj hE
 refine retQ.retF H rfl ⟨rfl, rfl⟩ ?_
 exact (fun _ _ h => h)
def Z33 (a0 : TValue) : Option Bs := none
theorem Z33_walk {a0 : TValue}   {r : Bs} (hE : Z33 a0 = some r) (H : Heap)  : ACalls Tryz.prog 111 [.agg (TValue.c a0)] H fun v h' => v = .a (.d (.str r)) ∧ h' = H := by cases hE
def Z2 (a0 : TInput) : Option Bs := bif (!a0.FHas) then (some ([] : Bs)) else ((Z33 a0.FDefault).bind fun x7 => some x7)
theorem Z2_walk {a0 : TInput}   {r : Bs} (hE : Z2 a0 = some r) (H : Heap)  : ACalls Tryz.prog 95 [.agg (TInput.c a0)] H fun v h' => v = .a (.d (.str r)) ∧ h' = H := by
 unfold Z2 at hE
 refine ACalls.of_wp (fn := Tryz.f95) (c := _) Tryz.tab_ok (fun _ _ => Tryz.call95 _ _) Tryz.func95 rfl (n := 9) rfl (rs := [.tmp 2]) rfl rfl ?_
 refine seqK fun K1 hK1 => ?_
 refine region ?_
 refine s0 (boxV rfl) rfl ?_
 refine s0 assignA rfl ?_
 refine nil ?_
 refine hK1 _ ?_
 clear hK1 K1
 refine seqK fun K2 hK2 => ?_
 refine seqK fun K3 hK3 => ?_
 refine region ?_
 refine s0 (fieldVA (TK rfl) rfl rfl (TK rfl) rfl rfl) rfl ?_
 refine s0 (loadV (TK rfl) rfl rfl rfl) rfl ?_
 refine s0 (notB rfl) rfl ?_
 refine nil ?_
 refine hK3 _ ?_
 clear hK3 K3
 refine condE hE rfl (fun hc4 hE => ?_) (fun hc4 hE => ?_)
 ·refine seqK fun K5 hK5 => ?_
  refine region ?_
  refine s0 assignA rfl ?_
  refine nil ?_
  refine hK5 _ ?_
  clear hK5 K5
  refine AWp.ret ?_
  repeat (first | refine xBlock_ret ?_ | refine xThen_ret ?_)
  obtain rfl := Option.some.inj hE
  refine retQ.retF H rfl ⟨rfl, rfl⟩ ?_
  exact (fun _ _ h => h)
 refine AWp.skip ?_
 refine hK2 _ ?_
 clear hK2 K2
 refine seqK fun K6 hK6 => ?_
 refine region ?_
 refine s0 (fieldVA (TK rfl) rfl rfl (TK rfl) rfl rfl) rfl ?_
 refine s0 (loadV (TK rfl) rfl rfl rfl) rfl ?_
 obtain ⟨x7, gx7, hE⟩ := bindO_some hE
 refine s0 (callP rfl rfl (fun H => Z33_walk gx7 H)) rfl ?_
 refine s0 assignA rfl ?_
 refine nil ?_
 refine hK6 _ ?_
 clear hK6 K6
 refine AWp.ret ?_
 repeat (first | refine xBlock_ret ?_ | refine xThen_ret ?_)
 obtain rfl := Option.some.inj hE
 refine retQ.retF H rfl ⟨rfl, rfl⟩ ?_
 exact (fun _ _ h => h)
def Z9 (a0 : TInput) : Option Bs := bif (!a0.FHas) then ((Z46 a0.FType).bind fun x6 => some x6) else ((Z46 a0.FType).bind fun x8 => (catC x8 ([32, 61, 32] : Bs)).bind fun x9 => (Z2 a0).bind fun x10 => (catC x9 x10).bind fun x11 => some x11)
theorem Z9_walk {a0 : TInput}   {r : Bs} (hE : Z9 a0 = some r) (H : Heap)  : ACalls Tryz.prog 93 [.agg (TInput.c a0)] H fun v h' => v = .a (.d (.str r)) ∧ h' = H := by
 unfold Z9 at hE
 refine ACalls.of_wp (fn := Tryz.f93) (c := _) Tryz.tab_ok (fun _ _ => Tryz.call93 _ _) Tryz.func93 rfl (n := 16) rfl (rs := [.tmp 2]) rfl rfl ?_
 refine seqK fun K1 hK1 => ?_
 refine region ?_
 refine s0 (boxV rfl) rfl ?_
 refine s0 assignA rfl ?_
 refine nil ?_
 refine hK1 _ ?_
 clear hK1 K1
 refine seqK fun K2 hK2 => ?_
 refine seqK fun K3 hK3 => ?_
 refine region ?_
 refine s0 (fieldVA (TK rfl) rfl rfl (TK rfl) rfl rfl) rfl ?_
 refine s0 (loadV (TK rfl) rfl rfl rfl) rfl ?_
 refine s0 (notB rfl) rfl ?_
 refine nil ?_
 refine hK3 _ ?_
 clear hK3 K3
 refine condE hE rfl (fun hc4 hE => ?_) (fun hc4 hE => ?_)
 ·refine seqK fun K5 hK5 => ?_
  refine region ?_
  refine s0 (fieldVA (TK rfl) rfl rfl (TK rfl) rfl rfl) rfl ?_
  refine s0 (loadV (TK rfl) rfl rfl rfl) rfl ?_
  obtain ⟨x6, gx6, hE⟩ := bindO_some hE
  refine s0 (callP rfl rfl (fun H => Z46_walk gx6 H)) rfl ?_
  refine s0 assignA rfl ?_
  refine nil ?_
  refine hK5 _ ?_
  clear hK5 K5
  refine AWp.ret ?_
  repeat (first | refine xBlock_ret ?_ | refine xThen_ret ?_)
  obtain rfl := Option.some.inj hE
  refine retQ.retF H rfl ⟨rfl, rfl⟩ ?_
  exact (fun _ _ h => h)
 refine AWp.skip ?_
 refine hK2 _ ?_
 clear hK2 K2
 refine seqK fun K7 hK7 => ?_
 refine AWp.draw rfl ?_
 refine DOps.s0 (fieldVA (TK rfl) rfl rfl (TK rfl) rfl rfl) rfl ?_
 refine DOps.s0 (loadV (TK rfl) rfl rfl rfl) rfl ?_
 obtain ⟨x8, gx8, hE⟩ := bindO_some hE
 refine DOps.s0 (callP rfl rfl (fun H => Z46_walk gx8 H)) rfl ?_
 obtain ⟨x9, gx9, hE⟩ := bindO_some hE
 refine DOps.s0 (catM rfl rfl gx9) rfl ?_
 refine DOps.s0 (loadV (TK rfl) rfl rfl rfl) rfl ?_
 obtain ⟨x10, gx10, hE⟩ := bindO_some hE
 refine DOps.s0 (callP rfl rfl (fun H => Z2_walk gx10 H)) rfl ?_
 obtain ⟨x11, gx11, hE⟩ := bindO_some hE
 refine DOps.s0 (catM rfl rfl gx11) rfl ?_
 refine DOps.s0 assignA rfl ?_
 refine DOps.nil (by decide +kernel) ?_
 refine hK7 _ ?_
 clear hK7 K7
 refine AWp.ret ?_
 repeat (first | refine xBlock_ret ?_ | refine xThen_ret ?_)
 obtain rfl := Option.some.inj hE
 refine retQ.retF H rfl ⟨rfl, rfl⟩ ?_
 exact (fun _ _ h => h)
def Z48 (a0 : TValue) (a1 : TValue) : Option Bool := none
theorem Z48_walk {a0 : TValue} {a1 : TValue}   {r : Bool} (hE : Z48 a0 a1 = some r) (H : Heap)  : ACalls Tryz.prog 94 [.agg (TValue.c a0), .agg (TValue.c a1)] H fun v h' => v = .a (.d (.bool r)) ∧ h' = H := by cases hE
end Go.Proofs

namespace Go.Proofs
open Go Go.Ab
open AOps Cert AWp
variable {lou : Lou}
def Z8_j12 (s100_7 : Nat) (k_next_6 : Nat → Changes_differ → Option Changes_differ) (y13_c0 : Changes_differ) : Option Changes_differ := k_next_6 (s100_7 + 1) y13_c0
def Z8_l6 (a1 : (Sl TInput)) (a2 : (Sl TInput)) (a3 : Changes_kinds) (a4 : (Bs → Option (Bs × Bs)))  : Nat → Nat → Changes_differ → Option Changes_differ
 | 0, _, _ => none
 | n6 + 1, s100_7, y8_c0 => bif (decide (((s100_7 : Nat) : Int) < ((a2.l.length : Nat) : Int))) then ((a2.l[s100_7]?).bind fun x15 => (Z32 a1 x15.FName).bind fun x17 => bif (!x17.2) then ((a4 x15.FName).bind fun x21 => (Z9 x15).bind fun x22 => (Z3 y8_c0 a3.Fadd x21.1 x21.2 ([] : Bs) x22).bind fun x23 => Z8_j12 s100_7 ((Z8_l6 a1 a2 a3 a4 n6)) x23) else (Z8_j12 s100_7 ((Z8_l6 a1 a2 a3 a4 n6)) y8_c0)) else (some y8_c0)
def Z8_j2 (a1 : (Sl TInput)) (a2 : (Sl TInput)) (a3 : Changes_kinds) (a4 : (Bs → Option (Bs × Bs)))  (y3_c0 : Changes_differ) : Option Changes_differ := Z8_l6 a1 a2 a3 a4 (a2.l.length + 1) 0 y3_c0
def Z8_j32 (s24_27 : Nat) (k_next_26 : Nat → Changes_differ → Option Changes_differ) (y33_c0 : Changes_differ) : Option Changes_differ := k_next_26 (s24_27 + 1) y33_c0
def Z8_j46 (a3 : Changes_kinds) (s24_27 : Nat) (x35 : TInput) (x37 : (Bs × Bs)) (x39 : (TInput × Bool)) (k_next_26 : Nat → Changes_differ → Option Changes_differ) (y47_c0 : Changes_differ) : Option Changes_differ := guardO ((!(!(x35.FHas == x39.1.FHas)) && x35.FHas)) (Z48 x35.FDefault x39.1.FDefault) false fun x49 => bif ((!(x35.FHas == x39.1.FHas)) || (x35.FHas && (!x49))) then ((Z2 x35).bind fun x51 => (Z2 x39.1).bind fun x52 => (Z3 y47_c0 a3.Fdef x37.1 x37.2 x51 x52).bind fun x53 => Z8_j32 s24_27 k_next_26 x53) else (Z8_j32 s24_27 k_next_26 y47_c0)
def Z8_l26 (a1 : (Sl TInput)) (a2 : (Sl TInput)) (a3 : Changes_kinds) (a4 : (Bs → Option (Bs × Bs)))  : Nat → Nat → Changes_differ → Option Changes_differ
 | 0, _, _ => none
 | n26 + 1, s24_27, y28_c0 => bif (decide (((s24_27 : Nat) : Int) < ((a1.l.length : Nat) : Int))) then ((a1.l[s24_27]?).bind fun x35 => (a4 x35.FName).bind fun x37 => (Z32 a2 x35.FName).bind fun x39 => bif (!x39.2) then ((Z9 x35).bind fun x44 => (Z3 y28_c0 a3.Fgone x37.1 x37.2 x44 ([] : Bs)).bind fun x45 => Z8_j32 s24_27 ((Z8_l26 a1 a2 a3 a4 n26)) x45) else ((Z47 x35.FType x39.1.FType).bind fun x55 => bif (!x55) then ((Z46 x35.FType).bind fun x57 => (Z46 x39.1.FType).bind fun x58 => (Z3 y28_c0 a3.Ftyp x37.1 x37.2 x57 x58).bind fun x59 => Z8_j46 a3 s24_27 x35 x37 x39 ((Z8_l26 a1 a2 a3 a4 n26)) x59) else (Z8_j46 a3 s24_27 x35 x37 x39 ((Z8_l26 a1 a2 a3 a4 n26)) y28_c0))) else (Z8_j2 a1 a2 a3 a4  y28_c0)
def Z8 (a0 : Changes_differ) (a1 : (Sl TInput)) (a2 : (Sl TInput)) (a3 : Changes_kinds) (a4 : (Bs → Option (Bs × Bs))) : Option Changes_differ := Z8_l26 a1 a2 a3 a4 (a1.l.length + 1) 0 a0
theorem Z8_walk {a0 : Changes_differ} {a1 : (Sl TInput)} {a2 : (Sl TInput)} {a3 : Changes_kinds} {a4 : (Bs → Option (Bs × Bs))} {w1 : Option Nat} {w2 : Option Nat} {cl4 : List D} {c0 : Nat} {c0_1 : Nat} {k4 : Nat} {r : Changes_differ} (hE : Z8 a0 a1 a2 a3 a4 = some r) (H : Heap) (hc0 : H c0 = some (.cells (Changes_differ.cg (some c0_1) a0))) (ht0_1 : H c0_1 = some (.tok 6 a0.Fout.l.length)) (hf4 : ∀ x0 r, a4 x0 = some r → ∀ H, ACalls Tryz.prog k4 ([.d (.str x0)] ++ cl4.map A.d) H fun v h' => v = .tup [.d (.str r.1), .d (.str r.2)] ∧ h' = H) : ACalls Tryz.prog 63 [.d (.ptr c0 0), .d (Sl.d 10 TInput.c w1 a1), .d (Sl.d 10 TInput.c w2 a2), .agg (Changes_kinds.c a3), .d (.func k4 cl4)] H fun v h' => v = .tup [] ∧ h' = ((H.set c0_1 (some (.tok 6 r.Fout.l.length))).set c0 (some (.cells (Changes_differ.cg (some c0_1) r)))) := by
 unfold Z8 at hE
 refine ACalls.of_wp (fn := Tryz.f63) (c := _) Tryz.tab_ok (fun _ _ => Tryz.call63 _ _) Tryz.func63 rfl (n := 129) rfl (rs := []) rfl rfl ?_
 have ne_c0_c0_1 : c0 ≠ c0_1 := fun e_ => by subst e_; simp_all
 refine AWp.heqA (h' := ((H.set c0_1 (some (.tok 6 a0.Fout.l.length))).set c0 (some (.cells (Changes_differ.cg (some c0_1) a0))))) (by funext n_; simp only [Heap.set]; (repeat' split) <;> simp_all) ?_
 refine seqK fun K1 hK1 => ?_
 refine region ?_
 refine s0 (boxV rfl) rfl ?_
 refine nil ?_
 refine hK1 _ ?_
 clear hK1 K1
 refine seqJH (KeepsT.A (k := 0) (KeepsT.A (k := 1) (KeepsT.A (k := 2) (KeepsT.A (k := 4) (KeepsT.A (k := 8) KeepsT.nil))))) (fun (z : Changes_differ) => []) (fun z => ((H.set c0_1 (some (.tok 6 z.Fout.l.length))).set c0 (some (.cells (Changes_differ.cg (some c0_1) z))))) (fun z => Z8_j2 a1 a2 a3 a4 z = some r) ?_ ?_
 ·intro K2 hK2
  refine seqK fun K24 hK24 => ?_
  refine region ?_
  refine s0 moveA rfl ?_
  refine sLen (f := TInput.c) (s := a1) (TK rfl) rfl rfl rfl rfl fun hL25 => ?_
  refine s0 moveA rfl ?_
  refine nil ?_
  refine hK24 _ ?_
  clear hK24 K24
  refine block ?_
  refine loopH (KeepsT.A (k := 0) (KeepsT.A (k := 1) (KeepsT.A (k := 2) (KeepsT.A (k := 4) (KeepsT.A (k := 8) (KeepsT.A (k := 22) (KeepsT.A (k := 23) KeepsT.nil))))))) (fun (z : Nat × Nat × Changes_differ) => [(24, .a (.d (.int .i64 ((z.2.1 : Nat) : Int))))]) (fun z => ((H.set c0_1 (some (.tok 6 z.2.2.Fout.l.length))).set c0 (some (.cells (Changes_differ.cg (some c0_1) z.2.2))))) (fun z => z.1) (fun z => Z8_l26 a1 a2 a3 a4 z.1 z.2.1 z.2.2 = some r) ((a1.l.length + 1), 0, a0) hE Weak.toA ?_
  rintro ⟨n26, s24_27, y28_c0⟩ hE K26 hK26
  try dsimp only at hE
  cases n26 with
  | zero => cases hE
  | succ n26 =>
    rw [Z8_l26] at hE
    refine seqK fun K29 hK29 => ?_
    refine region ?_
    refine s0 (binI rfl rfl rfl) rfl ?_
    refine nil ?_
    refine hK29 _ ?_
    clear hK29 K29
    refine seqK fun K30 hK30 => ?_
    refine condE hE rfl (fun hc31 hE => ?_) (fun hc31 hE => ?_)
    ·try dsimp only at hc31
     have hf31 := of_decide_eq_true hc31
     refine AWp.skip ?_
     refine hK30 _ ?_
     clear hK30 K30
     refine seqJH (KeepsT.A (k := 0) (KeepsT.A (k := 1) (KeepsT.A (k := 2) (KeepsT.A (k := 4) (KeepsT.A (k := 8) (KeepsT.A (k := 22) (KeepsT.A (k := 23) (KeepsT.A (k := 24) KeepsT.nil)))))))) (fun (z : Changes_differ) => []) (fun z => ((H.set c0_1 (some (.tok 6 z.Fout.l.length))).set c0 (some (.cells (Changes_differ.cg (some c0_1) z))))) (fun z => Z8_j32 s24_27 ((Z8_l26 a1 a2 a3 a4 n26)) z = some r) ?_ ?_
     ·intro K32 hK32
      refine block ?_
      refine seqK fun K34 hK34 => ?_
      refine region ?_
      obtain ⟨x35, gx35, hE⟩ := bindO_some hE
      refine s0 (idxMn (f := TInput.c) (n := s24_27) (TK rfl) rfl (TK rfl) rfl rfl rfl gx35) rfl ?_
      refine s0 (loadV (TK rfl) rfl rfl rfl) rfl ?_
      refine sL (allocLA (TK rfl) rfl) rfl ?_
      refine sLn (storeLFA (TK rfl) rfl rfl rfl rfl rfl) ?_
      refine nil ?_
      refine hK34 _ ?_
      clear hK34 K34
      refine freezeA 11 _ rfl (Keeps.c (k := 0) (by conv => lhs; whnf) (by rfl) (Keeps.c (k := 1) (by conv => lhs; whnf) (by rfl) (Keeps.c (k := 2) (by conv => lhs; whnf) (by rfl) (Keeps.c (k := 4) (by conv => lhs; whnf) (by rfl) (Keeps.c (k := 8) (by conv => lhs; whnf) (by rfl) (Keeps.c (k := 22) (by conv => lhs; whnf) (by rfl) (Keeps.c (k := 23) (by conv => lhs; whnf) (by rfl) (Keeps.c (k := 24) (by conv => lhs; whnf) (by rfl) Keeps.nil)))))))) ?_
      refine seqK fun K36 hK36 => ?_
      refine region ?_
      refine s0 moveA rfl ?_
      refine s0 (fieldVA (TK rfl) rfl rfl (TK rfl) rfl rfl) rfl ?_
      refine s0 (loadV (TK rfl) rfl rfl rfl) rfl ?_
      obtain ⟨x37, gx37, hE⟩ := bindO_some hE
      refine s0 (callP rfl rfl (hf4 _ _ gx37)) rfl ?_
      refine s0 moveA rfl ?_
      refine s0 (extract rfl rfl) rfl ?_
      refine s0 (extract rfl rfl) rfl ?_
      refine s0 assignA rfl ?_
      refine s0 assignA rfl ?_
      refine nil ?_
      refine hK36 _ ?_
      clear hK36 K36
      refine seqK fun K38 hK38 => ?_
      refine region ?_
      refine s0 moveA rfl ?_
      refine s0 (fieldVA (TK rfl) rfl rfl (TK rfl) rfl rfl) rfl ?_
      refine s0 (loadV (TK rfl) rfl rfl rfl) rfl ?_
      obtain ⟨x39, gx39, hE⟩ := bindO_some hE
      refine s0 (callP rfl rfl (fun H => Z32_walk gx39 H)) rfl ?_
      refine s0 moveA rfl ?_
      refine s0 (extract rfl rfl) rfl ?_
      refine s0 (extract rfl rfl) rfl ?_
      refine sL (allocLA (TK rfl) rfl) rfl ?_
      refine sLn (storeLFA (TK rfl) rfl rfl rfl rfl rfl) ?_
      refine s0 assignA rfl ?_
      refine nil ?_
      refine hK38 _ ?_
      clear hK38 K38
      refine freezeA 14 _ rfl (Keeps.c (k := 0) (by conv => lhs; whnf) (by rfl) (Keeps.c (k := 1) (by conv => lhs; whnf) (by rfl) (Keeps.c (k := 2) (by conv => lhs; whnf) (by rfl) (Keeps.c (k := 4) (by conv => lhs; whnf) (by rfl) (Keeps.c (k := 8) (by conv => lhs; whnf) (by rfl) (Keeps.c (k := 11) (by conv => lhs; whnf) (by rfl) (Keeps.c (k := 12) (by conv => lhs; whnf) (by rfl) (Keeps.c (k := 13) (by conv => lhs; whnf) (by rfl) (Keeps.c (k := 15) (by conv => lhs; whnf) (by rfl) (Keeps.c (k := 22) (by conv => lhs; whnf) (by rfl) (Keeps.c (k := 23) (by conv => lhs; whnf) (by rfl) (Keeps.c (k := 24) (by conv => lhs; whnf) (by rfl) Keeps.nil)))))))))))) ?_
      refine seqK fun K40 hK40 => ?_
      refine seqK fun K41 hK41 => ?_
      refine region ?_
      refine s0 moveA rfl ?_
      refine s0 (notB rfl) rfl ?_
      refine nil ?_
      refine hK41 _ ?_
      clear hK41 K41
      refine condE hE rfl (fun hc42 hE => ?_) (fun hc42 hE => ?_)
      ·refine seqK fun K43 hK43 => ?_
       refine AWp.draw rfl ?_
       refine DOps.s0 moveA rfl ?_
       refine DOps.s0 (fieldVA (TK rfl) rfl rfl (TK rfl) rfl rfl) rfl ?_
       refine DOps.s0 (loadV (TK rfl) rfl rfl rfl) rfl ?_
       refine DOps.s0 moveA rfl ?_
       refine DOps.s0 moveA rfl ?_
       refine DOps.s0 (loadV (TK rfl) rfl rfl rfl) rfl ?_
       obtain ⟨x44, gx44, hE⟩ := bindO_some hE
       refine DOps.s0 (callP rfl rfl (fun H => Z9_walk gx44 H)) rfl ?_
       obtain ⟨x45, gx45, hE⟩ := bindO_some hE
       refine DOps.sH (callH rfl rfl (Z3_walk gx45 _ hpG hpG)) rfl ?_
       refine DOps.heq (h' := ((H.set c0_1 (some (.tok 6 x45.Fout.l.length))).set c0 (some (.cells (Changes_differ.cg (some c0_1) x45))))) (by first | rfl | (rw [Heap.set_set]; rfl) | (funext n_; simp only [Heap.set]; (repeat' split) <;> first | rfl | (exfalso; simp_all; done) | (simp_all; done))) ?_
       refine DOps.nil (by decide +kernel) ?_
       refine hK43 _ ?_
       clear hK43 K43
       refine AWp.exit ?_
       exact hK32 _ x45 Weak.toA hE
      refine AWp.skip ?_
      refine hK40 _ ?_
      clear hK40 K40
      refine seqJH (KeepsT.A (k := 0) (KeepsT.A (k := 1) (KeepsT.A (k := 2) (KeepsT.A (k := 4) (KeepsT.A (k := 8) (KeepsT.A (k := 11) (KeepsT.A (k := 12) (KeepsT.A (k := 13) (KeepsT.A (k := 14) (KeepsT.A (k := 22) (KeepsT.A (k := 23) (KeepsT.A (k := 24) KeepsT.nil)))))))))))) (fun (z : Changes_differ) => []) (fun z => ((H.set c0_1 (some (.tok 6 z.Fout.l.length))).set c0 (some (.cells (Changes_differ.cg (some c0_1) z))))) (fun z => Z8_j46 a3 s24_27 x35 x37 x39 ((Z8_l26 a1 a2 a3 a4 n26)) z = some r) ?_ ?_
      ·intro K46 hK46
       refine seqK fun K54 hK54 => ?_
       refine region ?_
       refine s0 (fieldVA (TK rfl) rfl rfl (TK rfl) rfl rfl) rfl ?_
       refine s0 (loadV (TK rfl) rfl rfl rfl) rfl ?_
       refine s0 (fieldVA (TK rfl) rfl rfl (TK rfl) rfl rfl) rfl ?_
       refine s0 (loadV (TK rfl) rfl rfl rfl) rfl ?_
       obtain ⟨x55, gx55, hE⟩ := bindO_some hE
       refine s0 (callP rfl rfl (fun H => Z47_walk gx55 H)) rfl ?_
       refine s0 (notB rfl) rfl ?_
       refine nil ?_
       refine hK54 _ ?_
       clear hK54 K54
       refine condE hE rfl (fun hc56 hE => ?_) (fun hc56 hE => ?_)
       ·refine AWp.draw rfl ?_
        refine DOps.s0 moveA rfl ?_
        refine DOps.s0 (fieldVA (TK rfl) rfl rfl (TK rfl) rfl rfl) rfl ?_
        refine DOps.s0 (loadV (TK rfl) rfl rfl rfl) rfl ?_
        refine DOps.s0 moveA rfl ?_
        refine DOps.s0 moveA rfl ?_
        refine DOps.s0 (fieldVA (TK rfl) rfl rfl (TK rfl) rfl rfl) rfl ?_
        refine DOps.s0 (loadV (TK rfl) rfl rfl rfl) rfl ?_
        obtain ⟨x57, gx57, hE⟩ := bindO_some hE
        refine DOps.s0 (callP rfl rfl (fun H => Z46_walk gx57 H)) rfl ?_
        refine DOps.s0 (fieldVA (TK rfl) rfl rfl (TK rfl) rfl rfl) rfl ?_
        refine DOps.s0 (loadV (TK rfl) rfl rfl rfl) rfl ?_
        obtain ⟨x58, gx58, hE⟩ := bindO_some hE
        refine DOps.s0 (callP rfl rfl (fun H => Z46_walk gx58 H)) rfl ?_
        obtain ⟨x59, gx59, hE⟩ := bindO_some hE
        refine DOps.sH (callH rfl rfl (Z3_walk gx59 _ hpG hpG)) rfl ?_
        refine DOps.heq (h' := ((H.set c0_1 (some (.tok 6 x59.Fout.l.length))).set c0 (some (.cells (Changes_differ.cg (some c0_1) x59))))) (by first | rfl | (rw [Heap.set_set]; rfl) | (funext n_; simp only [Heap.set]; (repeat' split) <;> first | rfl | (exfalso; simp_all; done) | (simp_all; done))) ?_
        refine DOps.nil (by decide +kernel) ?_
        exact hK46 _ x59 Weak.toA hE
       refine AWp.skip ?_
       exact hK46 _ y28_c0 Weak.toA hE
      rintro y47_c0 hE
      try dsimp only at hE
      unfold Z8_j46 at hE
      refine seqK fun K48 hK48 => ?_
      refine region ?_
      refine s0 (fieldVA (TK rfl) rfl rfl (TK rfl) rfl rfl) rfl ?_
      refine s0 (loadV (TK rfl) rfl rfl rfl) rfl ?_
      refine s0 (fieldVA (TK rfl) rfl rfl (TK rfl) rfl rfl) rfl ?_
      refine s0 (loadV (TK rfl) rfl rfl rfl) rfl ?_
      refine s0 (neB (TK rfl) rfl rfl rfl) rfl ?_
      refine s0 moveA rfl ?_
      refine gC rfl rfl (fun hC => fieldVA (TK rfl) rfl rfl (TK rfl) rfl rfl) rfl ?_
      refine gC rfl rfl (fun hC => ungdA (k := 76) rfl (loadV (TK rfl) rfl rfl rfl)) rfl ?_
      refine gC rfl rfl (fun hC => ungdA (k := 77) rfl moveA) rfl ?_
      refine gC rfl rfl (fun hC => fieldVA (TK rfl) rfl rfl (TK rfl) rfl rfl) rfl ?_
      refine gC rfl rfl (fun hC => ungdA (k := 79) rfl (loadV (TK rfl) rfl rfl rfl)) rfl ?_
      refine gC rfl rfl (fun hC => fieldVA (TK rfl) rfl rfl (TK rfl) rfl rfl) rfl ?_
      refine gC rfl rfl (fun hC => ungdA (k := 81) rfl (loadV (TK rfl) rfl rfl rfl)) rfl ?_
      obtain ⟨x49, gx49, hE⟩ := guardO_some hE
      refine gC rfl rfl (fun hC => ungdA (k := 80) rfl (ungdA (k := 82) rfl (callP rfl rfl (fun H => Z48_walk (gx49 hC) H)))) rfl ?_
      refine gC rfl rfl (fun hC => ungdA (k := 83) rfl (notB rfl)) rfl ?_
      refine gC rfl rfl (fun hC => ungdA (k := 78) rfl (pickAndA rfl rfl rfl)) rfl ?_
      refine s0 (pickOrA rfl rfl rfl) rfl ?_
      refine nil ?_
      refine hK48 _ ?_
      clear hK48 K48
      refine condE hE rfl (fun hc50 hE => ?_) (fun hc50 hE => ?_)
      ·refine AWp.draw rfl ?_
       refine DOps.s0 moveA rfl ?_
       refine DOps.s0 (fieldVA (TK rfl) rfl rfl (TK rfl) rfl rfl) rfl ?_
       refine DOps.s0 (loadV (TK rfl) rfl rfl rfl) rfl ?_
       refine DOps.s0 moveA rfl ?_
       refine DOps.s0 moveA rfl ?_
       refine DOps.s0 (loadV (TK rfl) rfl rfl rfl) rfl ?_
       obtain ⟨x51, gx51, hE⟩ := bindO_some hE
       refine DOps.s0 (callP rfl rfl (fun H => Z2_walk gx51 H)) rfl ?_
       refine DOps.s0 (loadV (TK rfl) rfl rfl rfl) rfl ?_
       obtain ⟨x52, gx52, hE⟩ := bindO_some hE
       refine DOps.s0 (callP rfl rfl (fun H => Z2_walk gx52 H)) rfl ?_
       obtain ⟨x53, gx53, hE⟩ := bindO_some hE
       refine DOps.sH (callH rfl rfl (Z3_walk gx53 _ hpG hpG)) rfl ?_
       refine DOps.heq (h' := ((H.set c0_1 (some (.tok 6 x53.Fout.l.length))).set c0 (some (.cells (Changes_differ.cg (some c0_1) x53))))) (by first | rfl | (rw [Heap.set_set]; rfl) | (funext n_; simp only [Heap.set]; (repeat' split) <;> first | rfl | (exfalso; simp_all; done) | (simp_all; done))) ?_
       refine DOps.nil (by decide +kernel) ?_
       exact hK32 _ x53 Weak.toA hE
      refine AWp.skip ?_
      exact hK32 _ y47_c0 Weak.toA hE
     rintro y33_c0 hE
     try dsimp only at hE
     unfold Z8_j32 at hE
     refine region ?_
     refine s0 (addI rfl rfl (by first | omega | (dsimp only; omega) | (simp at *; omega)) (by first | omega | (dsimp only; omega) | (simp at *; omega))) rfl ?_
     refine s0 moveA rfl ?_
     refine nil ?_
     exact hK26 _ (n26, (s24_27 + 1), y33_c0) Weak.toA hE (Nat.lt_succ_self _)
    refine AWp.exit ?_
    exact hK2 _ y28_c0 Weak.toA hE
 rintro y3_c0 hE
 try dsimp only at hE
 unfold Z8_j2 at hE
 refine seqK fun K4 hK4 => ?_
 refine region ?_
 refine s0 moveA rfl ?_
 refine sLen (f := TInput.c) (s := a2) (TK rfl) rfl rfl rfl rfl fun hL5 => ?_
 refine s0 moveA rfl ?_
 refine nil ?_
 refine hK4 _ ?_
 clear hK4 K4
 refine block ?_
 refine loopH (KeepsT.A (k := 0) (KeepsT.A (k := 1) (KeepsT.A (k := 4) (KeepsT.A (k := 8) (KeepsT.A (k := 98) (KeepsT.A (k := 99) KeepsT.nil)))))) (fun (z : Nat × Nat × Changes_differ) => [(100, .a (.d (.int .i64 ((z.2.1 : Nat) : Int))))]) (fun z => ((H.set c0_1 (some (.tok 6 z.2.2.Fout.l.length))).set c0 (some (.cells (Changes_differ.cg (some c0_1) z.2.2))))) (fun z => z.1) (fun z => Z8_l6 a1 a2 a3 a4 z.1 z.2.1 z.2.2 = some r) ((a2.l.length + 1), 0, y3_c0) hE Weak.toA ?_
 rintro ⟨n6, s100_7, y8_c0⟩ hE K6 hK6
 try dsimp only at hE
 cases n6 with
 | zero => cases hE
 | succ n6 =>
   rw [Z8_l6] at hE
   refine seqK fun K9 hK9 => ?_
   refine region ?_
   refine s0 (binI rfl rfl rfl) rfl ?_
   refine nil ?_
   refine hK9 _ ?_
   clear hK9 K9
   refine seqK fun K10 hK10 => ?_
   refine condE hE rfl (fun hc11 hE => ?_) (fun hc11 hE => ?_)
   ·try dsimp only at hc11
    have hf11 := of_decide_eq_true hc11
    refine AWp.skip ?_
    refine hK10 _ ?_
    clear hK10 K10
    refine seqJH (KeepsT.A (k := 0) (KeepsT.A (k := 1) (KeepsT.A (k := 4) (KeepsT.A (k := 8) (KeepsT.A (k := 98) (KeepsT.A (k := 99) (KeepsT.A (k := 100) KeepsT.nil))))))) (fun (z : Changes_differ) => []) (fun z => ((H.set c0_1 (some (.tok 6 z.Fout.l.length))).set c0 (some (.cells (Changes_differ.cg (some c0_1) z))))) (fun z => Z8_j12 s100_7 ((Z8_l6 a1 a2 a3 a4 n6)) z = some r) ?_ ?_
    ·intro K12 hK12
     refine block ?_
     refine seqK fun K14 hK14 => ?_
     refine region ?_
     obtain ⟨x15, gx15, hE⟩ := bindO_some hE
     refine s0 (idxMn (f := TInput.c) (n := s100_7) (TK rfl) rfl (TK rfl) rfl rfl rfl gx15) rfl ?_
     refine s0 (loadV (TK rfl) rfl rfl rfl) rfl ?_
     refine sL (allocLA (TK rfl) rfl) rfl ?_
     refine sLn (storeLFA (TK rfl) rfl rfl rfl rfl rfl) ?_
     refine nil ?_
     refine hK14 _ ?_
     clear hK14 K14
     refine freezeA 17 _ rfl (Keeps.c (k := 0) (by conv => lhs; whnf) (by rfl) (Keeps.c (k := 1) (by conv => lhs; whnf) (by rfl) (Keeps.c (k := 4) (by conv => lhs; whnf) (by rfl) (Keeps.c (k := 8) (by conv => lhs; whnf) (by rfl) (Keeps.c (k := 98) (by conv => lhs; whnf) (by rfl) (Keeps.c (k := 99) (by conv => lhs; whnf) (by rfl) (Keeps.c (k := 100) (by conv => lhs; whnf) (by rfl) Keeps.nil))))))) ?_
     refine seqK fun K16 hK16 => ?_
     refine region ?_
     refine s0 moveA rfl ?_
     refine s0 (fieldVA (TK rfl) rfl rfl (TK rfl) rfl rfl) rfl ?_
     refine s0 (loadV (TK rfl) rfl rfl rfl) rfl ?_
     obtain ⟨x17, gx17, hE⟩ := bindO_some hE
     refine s0 (callP rfl rfl (fun H => Z32_walk gx17 H)) rfl ?_
     refine s0 moveA rfl ?_
     refine s0 (extract rfl rfl) rfl ?_
     refine s0 (extract rfl rfl) rfl ?_
     refine sL (allocLA (TK rfl) rfl) rfl ?_
     refine sLn (storeLFA (TK rfl) rfl rfl rfl rfl rfl) ?_
     refine s0 assignA rfl ?_
     refine nil ?_
     refine hK16 _ ?_
     clear hK16 K16
     refine freezeA 18 _ rfl (Keeps.c (k := 0) (by conv => lhs; whnf) (by rfl) (Keeps.c (k := 1) (by conv => lhs; whnf) (by rfl) (Keeps.c (k := 4) (by conv => lhs; whnf) (by rfl) (Keeps.c (k := 8) (by conv => lhs; whnf) (by rfl) (Keeps.c (k := 17) (by conv => lhs; whnf) (by rfl) (Keeps.c (k := 19) (by conv => lhs; whnf) (by rfl) (Keeps.c (k := 98) (by conv => lhs; whnf) (by rfl) (Keeps.c (k := 99) (by conv => lhs; whnf) (by rfl) (Keeps.c (k := 100) (by conv => lhs; whnf) (by rfl) Keeps.nil))))))))) ?_
     refine seqK fun K18 hK18 => ?_
     refine region ?_
     refine s0 moveA rfl ?_
     refine s0 (notB rfl) rfl ?_
     refine nil ?_
     refine hK18 _ ?_
     clear hK18 K18
     refine condE hE rfl (fun hc19 hE => ?_) (fun hc19 hE => ?_)
     ·refine seqK fun K20 hK20 => ?_
      refine region ?_
      refine s0 moveA rfl ?_
      refine s0 (fieldVA (TK rfl) rfl rfl (TK rfl) rfl rfl) rfl ?_
      refine s0 (loadV (TK rfl) rfl rfl rfl) rfl ?_
      obtain ⟨x21, gx21, hE⟩ := bindO_some hE
      refine s0 (callP rfl rfl (hf4 _ _ gx21)) rfl ?_
      refine s0 moveA rfl ?_
      refine s0 (extract rfl rfl) rfl ?_
      refine s0 (extract rfl rfl) rfl ?_
      refine s0 assignA rfl ?_
      refine s0 assignA rfl ?_
      refine nil ?_
      refine hK20 _ ?_
      clear hK20 K20
      refine AWp.draw rfl ?_
      refine DOps.s0 moveA rfl ?_
      refine DOps.s0 (fieldVA (TK rfl) rfl rfl (TK rfl) rfl rfl) rfl ?_
      refine DOps.s0 (loadV (TK rfl) rfl rfl rfl) rfl ?_
      refine DOps.s0 moveA rfl ?_
      refine DOps.s0 moveA rfl ?_
      refine DOps.s0 (loadV (TK rfl) rfl rfl rfl) rfl ?_
      obtain ⟨x22, gx22, hE⟩ := bindO_some hE
      refine DOps.s0 (callP rfl rfl (fun H => Z9_walk gx22 H)) rfl ?_
      obtain ⟨x23, gx23, hE⟩ := bindO_some hE
      refine DOps.sH (callH rfl rfl (Z3_walk gx23 _ hpG hpG)) rfl ?_
      refine DOps.heq (h' := ((H.set c0_1 (some (.tok 6 x23.Fout.l.length))).set c0 (some (.cells (Changes_differ.cg (some c0_1) x23))))) (by first | rfl | (rw [Heap.set_set]; rfl) | (funext n_; simp only [Heap.set]; (repeat' split) <;> first | rfl | (exfalso; simp_all; done) | (simp_all; done))) ?_
      refine DOps.nil (by decide +kernel) ?_
      exact hK12 _ x23 Weak.toA hE
     refine AWp.skip ?_
     exact hK12 _ y8_c0 Weak.toA hE
    rintro y13_c0 hE
    try dsimp only at hE
    unfold Z8_j12 at hE
    refine region ?_
    refine s0 (addI rfl rfl (by first | omega | (dsimp only; omega) | (simp at *; omega)) (by first | omega | (dsimp only; omega) | (simp at *; omega))) rfl ?_
    refine s0 moveA rfl ?_
    refine nil ?_
    exact hK6 _ (n6, (s100_7 + 1), y13_c0) Weak.toA hE (Nat.lt_succ_self _)
   refine AWp.exit ?_
   repeat (first | refine xBlock_normal ?_ | refine xThen_exit ?_ | refine xBlock_exit ?_)
   obtain rfl := Option.some.inj hE
   refine retQ.normalF ((H.set c0_1 (some (.tok 6 y8_c0.Fout.l.length))).set c0 (some (.cells (Changes_differ.cg (some c0_1) y8_c0)))) (xs := []) rfl ⟨rfl, rfl⟩ ?_
   exact (fun _ _ h => h)
def Z7 (a0 : Bs) (a1 : TField) : Option (Bs × Bs) := some (a1.FName, a0)
theorem Z7_walk {a0 : Bs} {a1 : TField}   {r : (Bs × Bs)} (hE : Z7 a0 a1 = some r) (H : Heap)  : ACalls Tryz.prog 89 [.d (.str a0), .d (.view (TField.c a1))] H fun v h' => v = .tup [.d (.str r.1), .d (.str r.2)] ∧ h' = H := by
 unfold Z7 at hE
 refine ACalls.of_wp (fn := Tryz.f89) (c := _) Tryz.tab_ok (fun _ _ => Tryz.call89 _ _) Tryz.func89 rfl (n := 8) rfl (rs := [.tmp 3, .tmp 4]) rfl rfl ?_
 refine seqK fun K1 hK1 => ?_
 refine region ?_
 refine s0 assignA rfl ?_
 refine s0 assignA rfl ?_
 refine nil ?_
 refine hK1 _ ?_
 clear hK1 K1
 refine seqK fun K2 hK2 => ?_
 refine region ?_
 refine s0 (fieldVA (TK rfl) rfl rfl (TK rfl) rfl rfl) rfl ?_
 refine s0 (loadV (TK rfl) rfl rfl rfl) rfl ?_
 refine s0 moveA rfl ?_
 refine s0 assignA rfl ?_
 refine s0 assignA rfl ?_
 refine nil ?_
 refine hK2 _ ?_
 clear hK2 K2
 refine AWp.ret ?_
 repeat (first | refine xBlock_ret ?_ | refine xThen_ret ?_)
 obtain rfl := Option.some.inj hE
 refine retQ.retF H rfl ⟨rfl, rfl⟩ ?_
 exact (fun _ _ h => h)
def Z6_j12 (s65_7 : Nat) (k_next_6 : Nat → Changes_differ → Option Changes_differ) (y13_c0 : Changes_differ) : Option Changes_differ := k_next_6 (s65_7 + 1) y13_c0
def Z6_l6 (a1 : TDef) (a2 : TDef)  : Nat → Nat → Changes_differ → Option Changes_differ
 | 0, _, _ => none
 | n6 + 1, s65_7, y8_c0 => bif (decide (((s65_7 : Nat) : Int) < ((a2.FFields.l.length : Nat) : Int))) then ((a2.FFields.l[s65_7]?).bind fun x15 => (Z30 a1 x15.FName).bind fun x17 => bif (!x17.2) then ((Z46 x15.FType).bind fun x20 => (Z3 y8_c0 (5 : Int) x15.FName ([] : Bs) ([] : Bs) x20).bind fun x21 => Z6_j12 s65_7 ((Z6_l6 a1 a2 n6)) x21) else (Z6_j12 s65_7 ((Z6_l6 a1 a2 n6)) y8_c0)) else (some y8_c0)
def Z6_j2 (a1 : TDef) (a2 : TDef)  (y3_c0 : Changes_differ) : Option Changes_differ := Z6_l6 a1 a2 (a2.FFields.l.length + 1) 0 y3_c0
def Z6_j30 (s17_25 : Nat) (k_next_24 : Nat → Changes_differ → Option Changes_differ) (y31_c0 : Changes_differ) : Option Changes_differ := k_next_24 (s17_25 + 1) y31_c0
def Z6_j42 (s17_25 : Nat) (x33 : TField) (x35 : (TField × Bool)) (k_next_24 : Nat → Changes_differ → Option Changes_differ) (y43_c0 : Changes_differ) : Option Changes_differ := (Z8 y43_c0 x33.FArgs x35.1.FArgs (Changes_kinds.mk (7 : Int) (8 : Int) (9 : Int) (10 : Int)) (fun y0 => Z7 y0 x33)).bind fun x44 => Z6_j30 s17_25 k_next_24 x44
def Z6_l24 (a1 : TDef) (a2 : TDef)  : Nat → Nat → Changes_differ → Option Changes_differ
 | 0, _, _ => none
 | n24 + 1, s17_25, y26_c0 => bif (decide (((s17_25 : Nat) : Int) < ((a1.FFields.l.length : Nat) : Int))) then ((a1.FFields.l[s17_25]?).bind fun x33 => (Z30 a2 x33.FName).bind fun x35 => bif (!x35.2) then ((Z46 x33.FType).bind fun x40 => (Z3 y26_c0 (4 : Int) x33.FName ([] : Bs) x40 ([] : Bs)).bind fun x41 => Z6_j30 s17_25 ((Z6_l24 a1 a2 n24)) x41) else ((Z47 x33.FType x35.1.FType).bind fun x46 => bif (!x46) then ((Z46 x33.FType).bind fun x48 => (Z46 x35.1.FType).bind fun x49 => (Z3 y26_c0 (6 : Int) x33.FName ([] : Bs) x48 x49).bind fun x50 => Z6_j42 s17_25 x33 x35 ((Z6_l24 a1 a2 n24)) x50) else (Z6_j42 s17_25 x33 x35 ((Z6_l24 a1 a2 n24)) y26_c0))) else (Z6_j2 a1 a2  y26_c0)
def Z6 (a0 : Changes_differ) (a1 : TDef) (a2 : TDef) : Option Changes_differ := Z6_l24 a1 a2 (a1.FFields.l.length + 1) 0 a0
theorem Z6_walk {a0 : Changes_differ} {a1 : TDef} {a2 : TDef}  {c0 : Nat} {c0_1 : Nat} {r : Changes_differ} (hE : Z6 a0 a1 a2 = some r) (H : Heap) (hc0 : H c0 = some (.cells (Changes_differ.cg (some c0_1) a0))) (ht0_1 : H c0_1 = some (.tok 6 a0.Fout.l.length)) : ACalls Tryz.prog 60 [.d (.ptr c0 0), .agg (TDef.c a1), .agg (TDef.c a2)] H fun v h' => v = .tup [] ∧ h' = ((H.set c0_1 (some (.tok 6 r.Fout.l.length))).set c0 (some (.cells (Changes_differ.cg (some c0_1) r)))) := by
 unfold Z6 at hE
 refine ACalls.of_wp (fn := Tryz.f60) (c := _) Tryz.tab_ok (fun _ _ => Tryz.call60 _ _) Tryz.func60 rfl (n := 86) rfl (rs := []) rfl rfl ?_
 have ne_c0_c0_1 : c0 ≠ c0_1 := fun e_ => by subst e_; simp_all
 refine AWp.heqA (h' := ((H.set c0_1 (some (.tok 6 a0.Fout.l.length))).set c0 (some (.cells (Changes_differ.cg (some c0_1) a0))))) (by funext n_; simp only [Heap.set]; (repeat' split) <;> simp_all) ?_
 refine seqK fun K1 hK1 => ?_
 refine region ?_
 refine s0 (boxV rfl) rfl ?_
 refine s0 (boxV rfl) rfl ?_
 refine nil ?_
 refine hK1 _ ?_
 clear hK1 K1
 refine seqJH (KeepsT.A (k := 0) (KeepsT.A (k := 4) (KeepsT.A (k := 5) KeepsT.nil))) (fun (z : Changes_differ) => []) (fun z => ((H.set c0_1 (some (.tok 6 z.Fout.l.length))).set c0 (some (.cells (Changes_differ.cg (some c0_1) z))))) (fun z => Z6_j2 a1 a2 z = some r) ?_ ?_
 ·intro K2 hK2
  refine seqK fun K22 hK22 => ?_
  refine region ?_
  refine s0 (fieldVA (TK rfl) rfl rfl (TK rfl) rfl rfl) rfl ?_
  refine s0 (loadV (TK rfl) rfl rfl rfl) rfl ?_
  refine sLen (f := TField.c) (s := a1.FFields) (TK rfl) rfl rfl rfl rfl fun hL23 => ?_
  refine s0 moveA rfl ?_
  refine nil ?_
  refine hK22 _ ?_
  clear hK22 K22
  refine block ?_
  refine loopH (KeepsT.A (k := 0) (KeepsT.A (k := 4) (KeepsT.A (k := 5) (KeepsT.A (k := 15) (KeepsT.A (k := 16) KeepsT.nil))))) (fun (z : Nat × Nat × Changes_differ) => [(17, .a (.d (.int .i64 ((z.2.1 : Nat) : Int))))]) (fun z => ((H.set c0_1 (some (.tok 6 z.2.2.Fout.l.length))).set c0 (some (.cells (Changes_differ.cg (some c0_1) z.2.2))))) (fun z => z.1) (fun z => Z6_l24 a1 a2 z.1 z.2.1 z.2.2 = some r) ((a1.FFields.l.length + 1), 0, a0) hE Weak.toA ?_
  rintro ⟨n24, s17_25, y26_c0⟩ hE K24 hK24
  try dsimp only at hE
  cases n24 with
  | zero => cases hE
  | succ n24 =>
    rw [Z6_l24] at hE
    refine seqK fun K27 hK27 => ?_
    refine region ?_
    refine s0 (binI rfl rfl rfl) rfl ?_
    refine nil ?_
    refine hK27 _ ?_
    clear hK27 K27
    refine seqK fun K28 hK28 => ?_
    refine condE hE rfl (fun hc29 hE => ?_) (fun hc29 hE => ?_)
    ·try dsimp only at hc29
     have hf29 := of_decide_eq_true hc29
     refine AWp.skip ?_
     refine hK28 _ ?_
     clear hK28 K28
     refine seqJH (KeepsT.A (k := 0) (KeepsT.A (k := 4) (KeepsT.A (k := 5) (KeepsT.A (k := 15) (KeepsT.A (k := 16) (KeepsT.A (k := 17) KeepsT.nil)))))) (fun (z : Changes_differ) => []) (fun z => ((H.set c0_1 (some (.tok 6 z.Fout.l.length))).set c0 (some (.cells (Changes_differ.cg (some c0_1) z))))) (fun z => Z6_j30 s17_25 ((Z6_l24 a1 a2 n24)) z = some r) ?_ ?_
     ·intro K30 hK30
      refine block ?_
      refine seqK fun K32 hK32 => ?_
      refine region ?_
      obtain ⟨x33, gx33, hE⟩ := bindO_some hE
      refine s0 (idxMn (f := TField.c) (n := s17_25) (TK rfl) rfl (TK rfl) rfl rfl rfl gx33) rfl ?_
      refine s0 (loadV (TK rfl) rfl rfl rfl) rfl ?_
      refine sL (allocLA (TK rfl) rfl) rfl ?_
      refine sLn (storeLFA (TK rfl) rfl rfl rfl rfl rfl) ?_
      refine nil ?_
      refine hK32 _ ?_
      clear hK32 K32
      refine freezeA 7 _ rfl (Keeps.c (k := 0) (by conv => lhs; whnf) (by rfl) (Keeps.c (k := 4) (by conv => lhs; whnf) (by rfl) (Keeps.c (k := 5) (by conv => lhs; whnf) (by rfl) (Keeps.c (k := 15) (by conv => lhs; whnf) (by rfl) (Keeps.c (k := 16) (by conv => lhs; whnf) (by rfl) (Keeps.c (k := 17) (by conv => lhs; whnf) (by rfl) Keeps.nil)))))) ?_
      refine seqK fun K34 hK34 => ?_
      refine region ?_
      refine s0 (loadV (TK rfl) rfl rfl rfl) rfl ?_
      refine s0 (fieldVA (TK rfl) rfl rfl (TK rfl) rfl rfl) rfl ?_
      refine s0 (loadV (TK rfl) rfl rfl rfl) rfl ?_
      obtain ⟨x35, gx35, hE⟩ := bindO_some hE
      refine s0 (callP rfl rfl (fun H => Z30_walk gx35 H)) rfl ?_
      refine s0 moveA rfl ?_
      refine s0 (extract rfl rfl) rfl ?_
      refine s0 (extract rfl rfl) rfl ?_
      refine sL (allocLA (TK rfl) rfl) rfl ?_
      refine sLn (storeLFA (TK rfl) rfl rfl rfl rfl rfl) ?_
      refine s0 assignA rfl ?_
      refine nil ?_
      refine hK34 _ ?_
      clear hK34 K34
      refine freezeA 8 _ rfl (Keeps.c (k := 0) (by conv => lhs; whnf) (by rfl) (Keeps.c (k := 4) (by conv => lhs; whnf) (by rfl) (Keeps.c (k := 5) (by conv => lhs; whnf) (by rfl) (Keeps.c (k := 7) (by conv => lhs; whnf) (by rfl) (Keeps.c (k := 9) (by conv => lhs; whnf) (by rfl) (Keeps.c (k := 15) (by conv => lhs; whnf) (by rfl) (Keeps.c (k := 16) (by conv => lhs; whnf) (by rfl) (Keeps.c (k := 17) (by conv => lhs; whnf) (by rfl) Keeps.nil)))))))) ?_
      refine seqK fun K36 hK36 => ?_
      refine seqK fun K37 hK37 => ?_
      refine region ?_
      refine s0 moveA rfl ?_
      refine s0 (notB rfl) rfl ?_
      refine nil ?_
      refine hK37 _ ?_
      clear hK37 K37
      refine condE hE rfl (fun hc38 hE => ?_) (fun hc38 hE => ?_)
      ·refine seqK fun K39 hK39 => ?_
       refine AWp.draw rfl ?_
       refine DOps.s0 moveA rfl ?_
       refine DOps.s0 (fieldVA (TK rfl) rfl rfl (TK rfl) rfl rfl) rfl ?_
       refine DOps.s0 (loadV (TK rfl) rfl rfl rfl) rfl ?_
       refine DOps.s0 (fieldVA (TK rfl) rfl rfl (TK rfl) rfl rfl) rfl ?_
       refine DOps.s0 (loadV (TK rfl) rfl rfl rfl) rfl ?_
       obtain ⟨x40, gx40, hE⟩ := bindO_some hE
       refine DOps.s0 (callP rfl rfl (fun H => Z46_walk gx40 H)) rfl ?_
       obtain ⟨x41, gx41, hE⟩ := bindO_some hE
       refine DOps.sH (callH rfl rfl (Z3_walk gx41 _ hpG hpG)) rfl ?_
       refine DOps.heq (h' := ((H.set c0_1 (some (.tok 6 x41.Fout.l.length))).set c0 (some (.cells (Changes_differ.cg (some c0_1) x41))))) (by first | rfl | (rw [Heap.set_set]; rfl) | (funext n_; simp only [Heap.set]; (repeat' split) <;> first | rfl | (exfalso; simp_all; done) | (simp_all; done))) ?_
       refine DOps.nil (by decide +kernel) ?_
       refine hK39 _ ?_
       clear hK39 K39
       refine AWp.exit ?_
       exact hK30 _ x41 Weak.toA hE
      refine AWp.skip ?_
      refine hK36 _ ?_
      clear hK36 K36
      refine seqJH (KeepsT.A (k := 0) (KeepsT.A (k := 4) (KeepsT.A (k := 5) (KeepsT.A (k := 7) (KeepsT.A (k := 8) (KeepsT.A (k := 15) (KeepsT.A (k := 16) (KeepsT.A (k := 17) KeepsT.nil)))))))) (fun (z : Changes_differ) => []) (fun z => ((H.set c0_1 (some (.tok 6 z.Fout.l.length))).set c0 (some (.cells (Changes_differ.cg (some c0_1) z))))) (fun z => Z6_j42 s17_25 x33 x35 ((Z6_l24 a1 a2 n24)) z = some r) ?_ ?_
      ·intro K42 hK42
       refine seqK fun K45 hK45 => ?_
       refine region ?_
       refine s0 (fieldVA (TK rfl) rfl rfl (TK rfl) rfl rfl) rfl ?_
       refine s0 (loadV (TK rfl) rfl rfl rfl) rfl ?_
       refine s0 (fieldVA (TK rfl) rfl rfl (TK rfl) rfl rfl) rfl ?_
       refine s0 (loadV (TK rfl) rfl rfl rfl) rfl ?_
       obtain ⟨x46, gx46, hE⟩ := bindO_some hE
       refine s0 (callP rfl rfl (fun H => Z47_walk gx46 H)) rfl ?_
       refine s0 (notB rfl) rfl ?_
       refine nil ?_
       refine hK45 _ ?_
       clear hK45 K45
       refine condE hE rfl (fun hc47 hE => ?_) (fun hc47 hE => ?_)
       ·refine AWp.draw rfl ?_
        refine DOps.s0 moveA rfl ?_
        refine DOps.s0 (fieldVA (TK rfl) rfl rfl (TK rfl) rfl rfl) rfl ?_
        refine DOps.s0 (loadV (TK rfl) rfl rfl rfl) rfl ?_
        refine DOps.s0 (fieldVA (TK rfl) rfl rfl (TK rfl) rfl rfl) rfl ?_
        refine DOps.s0 (loadV (TK rfl) rfl rfl rfl) rfl ?_
        obtain ⟨x48, gx48, hE⟩ := bindO_some hE
        refine DOps.s0 (callP rfl rfl (fun H => Z46_walk gx48 H)) rfl ?_
        refine DOps.s0 (fieldVA (TK rfl) rfl rfl (TK rfl) rfl rfl) rfl ?_
        refine DOps.s0 (loadV (TK rfl) rfl rfl rfl) rfl ?_
        obtain ⟨x49, gx49, hE⟩ := bindO_some hE
        refine DOps.s0 (callP rfl rfl (fun H => Z46_walk gx49 H)) rfl ?_
        obtain ⟨x50, gx50, hE⟩ := bindO_some hE
        refine DOps.sH (callH rfl rfl (Z3_walk gx50 _ hpG hpG)) rfl ?_
        refine DOps.heq (h' := ((H.set c0_1 (some (.tok 6 x50.Fout.l.length))).set c0 (some (.cells (Changes_differ.cg (some c0_1) x50))))) (by first | rfl | (rw [Heap.set_set]; rfl) | (funext n_; simp only [Heap.set]; (repeat' split) <;> first | rfl | (exfalso; simp_all; done) | (simp_all; done))) ?_
        refine DOps.nil (by decide +kernel) ?_
        exact hK42 _ x50 Weak.toA hE
       refine AWp.skip ?_
       exact hK42 _ y26_c0 Weak.toA hE
      rintro y43_c0 hE
      try dsimp only at hE
      unfold Z6_j42 at hE
      refine region ?_
      refine s0 moveA rfl ?_
      refine s0 (fieldVA (TK rfl) rfl rfl (TK rfl) rfl rfl) rfl ?_
      refine s0 (loadV (TK rfl) rfl rfl rfl) rfl ?_
      refine s0 (fieldVA (TK rfl) rfl rfl (TK rfl) rfl rfl) rfl ?_
      refine s0 (loadV (TK rfl) rfl rfl rfl) rfl ?_
      refine s0 (build Tryz.tab_ok rfl rfl rfl rfl rfl rfl) rfl ?_
      refine s0 (makeFunc rfl) rfl ?_
      obtain ⟨x44, gx44, hE⟩ := bindO_some hE
      refine sH (callH rfl rfl (Z8_walk gx44 _ hpG hpG (fun _ _ hx => Z7_walk hx))) rfl ?_
      refine AOps.heq (h' := ((H.set c0_1 (some (.tok 6 x44.Fout.l.length))).set c0 (some (.cells (Changes_differ.cg (some c0_1) x44))))) (by first | rfl | (rw [Heap.set_set]; rfl) | (funext n_; simp only [Heap.set]; (repeat' split) <;> first | rfl | (exfalso; simp_all; done) | (simp_all; done))) ?_
      refine nil ?_
      exact hK30 _ x44 Weak.toA hE
     rintro y31_c0 hE
     try dsimp only at hE
     unfold Z6_j30 at hE
     refine region ?_
     refine s0 (addI rfl rfl (by first | omega | (dsimp only; omega) | (simp at *; omega)) (by first | omega | (dsimp only; omega) | (simp at *; omega))) rfl ?_
     refine s0 moveA rfl ?_
     refine nil ?_
     exact hK24 _ (n24, (s17_25 + 1), y31_c0) Weak.toA hE (Nat.lt_succ_self _)
    refine AWp.exit ?_
    exact hK2 _ y26_c0 Weak.toA hE
 rintro y3_c0 hE
 try dsimp only at hE
 unfold Z6_j2 at hE
 refine seqK fun K4 hK4 => ?_
 refine region ?_
 refine s0 (fieldVA (TK rfl) rfl rfl (TK rfl) rfl rfl) rfl ?_
 refine s0 (loadV (TK rfl) rfl rfl rfl) rfl ?_
 refine sLen (f := TField.c) (s := a2.FFields) (TK rfl) rfl rfl rfl rfl fun hL5 => ?_
 refine s0 moveA rfl ?_
 refine nil ?_
 refine hK4 _ ?_
 clear hK4 K4
 refine block ?_
 refine loopH (KeepsT.A (k := 0) (KeepsT.A (k := 4) (KeepsT.A (k := 63) (KeepsT.A (k := 64) KeepsT.nil)))) (fun (z : Nat × Nat × Changes_differ) => [(65, .a (.d (.int .i64 ((z.2.1 : Nat) : Int))))]) (fun z => ((H.set c0_1 (some (.tok 6 z.2.2.Fout.l.length))).set c0 (some (.cells (Changes_differ.cg (some c0_1) z.2.2))))) (fun z => z.1) (fun z => Z6_l6 a1 a2 z.1 z.2.1 z.2.2 = some r) ((a2.FFields.l.length + 1), 0, y3_c0) hE Weak.toA ?_
 rintro ⟨n6, s65_7, y8_c0⟩ hE K6 hK6
 try dsimp only at hE
 cases n6 with
 | zero => cases hE
 | succ n6 =>
   rw [Z6_l6] at hE
   refine seqK fun K9 hK9 => ?_
   refine region ?_
   refine s0 (binI rfl rfl rfl) rfl ?_
   refine nil ?_
   refine hK9 _ ?_
   clear hK9 K9
   refine seqK fun K10 hK10 => ?_
   refine condE hE rfl (fun hc11 hE => ?_) (fun hc11 hE => ?_)
   ·try dsimp only at hc11
    have hf11 := of_decide_eq_true hc11
    refine AWp.skip ?_
    refine hK10 _ ?_
    clear hK10 K10
    refine seqJH (KeepsT.A (k := 0) (KeepsT.A (k := 4) (KeepsT.A (k := 63) (KeepsT.A (k := 64) (KeepsT.A (k := 65) KeepsT.nil))))) (fun (z : Changes_differ) => []) (fun z => ((H.set c0_1 (some (.tok 6 z.Fout.l.length))).set c0 (some (.cells (Changes_differ.cg (some c0_1) z))))) (fun z => Z6_j12 s65_7 ((Z6_l6 a1 a2 n6)) z = some r) ?_ ?_
    ·intro K12 hK12
     refine block ?_
     refine seqK fun K14 hK14 => ?_
     refine region ?_
     obtain ⟨x15, gx15, hE⟩ := bindO_some hE
     refine s0 (idxMn (f := TField.c) (n := s65_7) (TK rfl) rfl (TK rfl) rfl rfl rfl gx15) rfl ?_
     refine s0 (loadV (TK rfl) rfl rfl rfl) rfl ?_
     refine sL (allocLA (TK rfl) rfl) rfl ?_
     refine sLn (storeLFA (TK rfl) rfl rfl rfl rfl rfl) ?_
     refine nil ?_
     refine hK14 _ ?_
     clear hK14 K14
     refine freezeA 11 _ rfl (Keeps.c (k := 0) (by conv => lhs; whnf) (by rfl) (Keeps.c (k := 4) (by conv => lhs; whnf) (by rfl) (Keeps.c (k := 63) (by conv => lhs; whnf) (by rfl) (Keeps.c (k := 64) (by conv => lhs; whnf) (by rfl) (Keeps.c (k := 65) (by conv => lhs; whnf) (by rfl) Keeps.nil))))) ?_
     refine seqK fun K16 hK16 => ?_
     refine region ?_
     refine s0 (loadV (TK rfl) rfl rfl rfl) rfl ?_
     refine s0 (fieldVA (TK rfl) rfl rfl (TK rfl) rfl rfl) rfl ?_
     refine s0 (loadV (TK rfl) rfl rfl rfl) rfl ?_
     obtain ⟨x17, gx17, hE⟩ := bindO_some hE
     refine s0 (callP rfl rfl (fun H => Z30_walk gx17 H)) rfl ?_
     refine s0 moveA rfl ?_
     refine s0 (extract rfl rfl) rfl ?_
     refine s0 (extract rfl rfl) rfl ?_
     refine sL (allocLA (TK rfl) rfl) rfl ?_
     refine sLn (storeLFA (TK rfl) rfl rfl rfl rfl rfl) ?_
     refine s0 assignA rfl ?_
     refine nil ?_
     refine hK16 _ ?_
     clear hK16 K16
     refine freezeA 12 _ rfl (Keeps.c (k := 0) (by conv => lhs; whnf) (by rfl) (Keeps.c (k := 4) (by conv => lhs; whnf) (by rfl) (Keeps.c (k := 11) (by conv => lhs; whnf) (by rfl) (Keeps.c (k := 13) (by conv => lhs; whnf) (by rfl) (Keeps.c (k := 63) (by conv => lhs; whnf) (by rfl) (Keeps.c (k := 64) (by conv => lhs; whnf) (by rfl) (Keeps.c (k := 65) (by conv => lhs; whnf) (by rfl) Keeps.nil))))))) ?_
     refine seqK fun K18 hK18 => ?_
     refine region ?_
     refine s0 moveA rfl ?_
     refine s0 (notB rfl) rfl ?_
     refine nil ?_
     refine hK18 _ ?_
     clear hK18 K18
     refine condE hE rfl (fun hc19 hE => ?_) (fun hc19 hE => ?_)
     ·refine AWp.draw rfl ?_
      refine DOps.s0 moveA rfl ?_
      refine DOps.s0 (fieldVA (TK rfl) rfl rfl (TK rfl) rfl rfl) rfl ?_
      refine DOps.s0 (loadV (TK rfl) rfl rfl rfl) rfl ?_
      refine DOps.s0 (fieldVA (TK rfl) rfl rfl (TK rfl) rfl rfl) rfl ?_
      refine DOps.s0 (loadV (TK rfl) rfl rfl rfl) rfl ?_
      obtain ⟨x20, gx20, hE⟩ := bindO_some hE
      refine DOps.s0 (callP rfl rfl (fun H => Z46_walk gx20 H)) rfl ?_
      obtain ⟨x21, gx21, hE⟩ := bindO_some hE
      refine DOps.sH (callH rfl rfl (Z3_walk gx21 _ hpG hpG)) rfl ?_
      refine DOps.heq (h' := ((H.set c0_1 (some (.tok 6 x21.Fout.l.length))).set c0 (some (.cells (Changes_differ.cg (some c0_1) x21))))) (by first | rfl | (rw [Heap.set_set]; rfl) | (funext n_; simp only [Heap.set]; (repeat' split) <;> first | rfl | (exfalso; simp_all; done) | (simp_all; done))) ?_
      refine DOps.nil (by decide +kernel) ?_
      exact hK12 _ x21 Weak.toA hE
     refine AWp.skip ?_
     exact hK12 _ y8_c0 Weak.toA hE
    rintro y13_c0 hE
    try dsimp only at hE
    unfold Z6_j12 at hE
    refine region ?_
    refine s0 (addI rfl rfl (by first | omega | (dsimp only; omega) | (simp at *; omega)) (by first | omega | (dsimp only; omega) | (simp at *; omega))) rfl ?_
    refine s0 moveA rfl ?_
    refine nil ?_
    exact hK6 _ (n6, (s65_7 + 1), y13_c0) Weak.toA hE (Nat.lt_succ_self _)
   refine AWp.exit ?_
   repeat (first | refine xBlock_normal ?_ | refine xThen_exit ?_ | refine xBlock_exit ?_)
   obtain rfl := Option.some.inj hE
   refine retQ.normalF ((H.set c0_1 (some (.tok 6 y8_c0.Fout.l.length))).set c0 (some (.cells (Changes_differ.cg (some c0_1) y8_c0)))) (xs := []) rfl ⟨rfl, rfl⟩ ?_
   exact (fun _ _ h => h)
def Z13_j3  (s3_4 : (Sl Bs)) : Option (Sl Bs) := some s3_4
def Z13_l8 (a0 : (Sl TMember))  : Nat → (Sl Bs) → Nat → Option (Sl Bs)
 | 0, _, _ => none
 | n8 + 1, s3_9, s8_10 => bif (decide (((s8_10 : Nat) : Int) < ((a0.l.length : Nat) : Int))) then ((a0.l[s8_10]?).bind fun x16 => (appC 16 s3_9 (⟨false, [x16.FName]⟩ : Sl Bs)).bind fun x17 => (Z13_l8 a0 n8) x17 (s8_10 + 1)) else (Z13_j3   s3_9)
def Z13 (a0 : (Sl TMember)) : Option (Sl Bs) := Z13_l8 a0 (a0.l.length + 1) (Sl.nil : Sl Bs) 0
theorem Z13_walk {a0 : (Sl TMember)} {w0 : Option Nat}  {r : (Sl Bs)} (hE : Z13 a0 = some r) (H : Heap)  : ACalls Tryz.prog 61 [.d (Sl.d 2 TMember.c w0 a0)] H fun v h' => v = .a (.d (Sl.d 1 strE none r)) ∧ h' = H := by
 unfold Z13 at hE
 refine ACalls.of_wp (fn := Tryz.f61) (c := _) Tryz.tab_ok (fun _ _ => Tryz.call61 _ _) Tryz.func61 rfl (n := 19) rfl (rs := [.tmp 2]) rfl rfl ?_
 refine AWp.tok 1 fun tk1 htk1 => ?_
 refine seqK fun K1 hK1 => ?_
 refine region ?_
 refine s0 (assignNil (k' := 1) rfl) rfl ?_
 refine nil ?_
 refine hK1 _ ?_
 clear hK1 K1
 refine seqK fun K2 hK2 => ?_
 refine region ?_
 refine s0 assignA rfl ?_
 refine nil ?_
 refine hK2 _ ?_
 clear hK2 K2
 refine AWp.nilTok 3 1 tk1 rfl hpG ?_
 refine seqJH KeepsT.nil (fun (z : (Sl Bs)) => [(3, .a (.d (Sl.d 1 strE (some tk1) z)))]) (fun z => (H.set tk1 (some (.tok 1 z.l.length)))) (fun z => Z13_j3 z = some r) ?_ ?_
 ·intro K3 hK3
  refine seqK fun K6 hK6 => ?_
  refine region ?_
  refine s0 moveA rfl ?_
  refine sLen (f := TMember.c) (s := a0) (TK rfl) rfl rfl rfl rfl fun hL7 => ?_
  refine s0 moveA rfl ?_
  refine nil ?_
  refine hK6 _ ?_
  clear hK6 K6
  refine block ?_
  refine loopH (KeepsT.A (k := 6) (KeepsT.A (k := 7) KeepsT.nil)) (fun (z : Nat × (Sl Bs) × Nat) => [(3, .a (.d (Sl.d 1 strE (some tk1) z.2.1))), (8, .a (.d (.int .i64 ((z.2.2 : Nat) : Int))))]) (fun z => (H.set tk1 (some (.tok 1 z.2.1.l.length)))) (fun z => z.1) (fun z => Z13_l8 a0 z.1 z.2.1 z.2.2 = some r) ((a0.l.length + 1), (Sl.nil : Sl Bs), 0) hE Weak.toA ?_
  rintro ⟨n8, s3_9, s8_10⟩ hE K8 hK8
  try dsimp only at hE
  cases n8 with
  | zero => cases hE
  | succ n8 =>
    rw [Z13_l8] at hE
    refine seqK fun K11 hK11 => ?_
    refine region ?_
    refine s0 (binI rfl rfl rfl) rfl ?_
    refine nil ?_
    refine hK11 _ ?_
    clear hK11 K11
    refine seqK fun K12 hK12 => ?_
    refine condE hE rfl (fun hc13 hE => ?_) (fun hc13 hE => ?_)
    ·try dsimp only at hc13
     have hf13 := of_decide_eq_true hc13
     refine AWp.skip ?_
     refine hK12 _ ?_
     clear hK12 K12
     refine seqK fun K14 hK14 => ?_
     refine block ?_
     refine seqK fun K15 hK15 => ?_
     refine region ?_
     obtain ⟨x16, gx16, hE⟩ := bindO_some hE
     refine s0 (idxMn (f := TMember.c) (n := s8_10) (TK rfl) rfl (TK rfl) rfl rfl rfl gx16) rfl ?_
     refine s0 (loadV (TK rfl) rfl rfl rfl) rfl ?_
     refine sL (allocLA (TK rfl) rfl) rfl ?_
     refine sLn (storeLFA (TK rfl) rfl rfl rfl rfl rfl) ?_
     refine nil ?_
     refine hK15 _ ?_
     clear hK15 K15
     refine freezeA 5 _ rfl (Keeps.c (k := 3) (by conv => lhs; whnf) (by rfl) (Keeps.c (k := 6) (by conv => lhs; whnf) (by rfl) (Keeps.c (k := 7) (by conv => lhs; whnf) (by rfl) (Keeps.c (k := 8) (by conv => lhs; whnf) (by rfl) Keeps.nil)))) ?_
     refine region ?_
     refine s0 moveA rfl ?_
     refine s0 (fieldVA (TK rfl) rfl rfl (TK rfl) rfl rfl) rfl ?_
     refine s0 (loadV (TK rfl) rfl rfl rfl) rfl ?_
     refine s0 (buildSlice (TK rfl) rfl (TK rfl) rfl rfl rfl rfl rfl rfl) rfl ?_
     obtain ⟨x17, gx17, hE⟩ := bindO_some hE
     refine sH (appM (f := strE) (TK rfl) rfl (TK rfl) (TK rfl) ⟨_, rfl⟩ rfl rfl (by decide) rfl rfl rfl rfl hpG rfl gx17) rfl ?_
     refine AOps.heq (h' := (H.set tk1 (some (.tok 1 x17.l.length)))) (by first | rfl | (rw [Heap.set_set]; rfl) | (funext n_; simp only [Heap.set]; (repeat' split) <;> first | rfl | (exfalso; simp_all; done) | (simp_all; done))) ?_
     refine s0 assignA rfl ?_
     refine nil ?_
     refine hK14 _ ?_
     clear hK14 K14
     refine region ?_
     refine s0 (addI rfl rfl (by first | omega | (dsimp only; omega) | (simp at *; omega)) (by first | omega | (dsimp only; omega) | (simp at *; omega))) rfl ?_
     refine s0 moveA rfl ?_
     refine nil ?_
     exact hK8 _ (n8, x17, (s8_10 + 1)) Weak.toA hE (Nat.lt_succ_self _)
    refine AWp.exit ?_
    exact hK3 _ s3_9 Weak.toA hE
 rintro s3_4 hE
 try dsimp only at hE
 unfold Z13_j3 at hE
 refine seqK fun K5 hK5 => ?_
 refine region ?_
 refine s0 moveA rfl ?_
 refine s0 assignA rfl ?_
 refine nil ?_
 refine hK5 _ ?_
 clear hK5 K5
 refine AWp.dropTok 2 rfl ?_
 refine AWp.ret ?_
 repeat (first | refine xBlock_ret ?_ | refine xThen_ret ?_)
 obtain rfl := Option.some.inj hE
 refine retQ.retF H rfl ⟨rfl, rfl⟩ ?_
 first | exact Heap.sub_set htk1 | (simp only [Heap.set_set]; exact Heap.sub_set htk1)
def Z38_j2   : Option Int := some (-1 : Int)
def Z38_l6 (a0 : (Sl Bs)) (a1 : (Bs → Option Bool))  : Nat → Nat → Option Int
 | 0, _ => none
 | n6 + 1, s8_7 => bif (decide (((s8_7 : Nat) : Int) < ((a0.l.length : Nat) : Int))) then ((a0.l[s8_7]?).bind fun x14 => (a1 x14).bind fun x15 => bif x15 then (some ((s8_7 : Nat) : Int)) else ((Z38_l6 a0 a1 n6) (s8_7 + 1))) else (Z38_j2   )
def Z38 (a0 : (Sl Bs)) (a1 : (Bs → Option Bool)) : Option Int := Z38_l6 a0 a1 (a0.l.length + 1) 0
theorem Z38_walk {a0 : (Sl Bs)} {a1 : (Bs → Option Bool)} {w0 : Option Nat} {cl1 : List D} {k1 : Nat} {r : Int} (hE : Z38 a0 a1 = some r) (H : Heap) (hf1 : ∀ x0 r, a1 x0 = some r → ∀ H, ACalls Tryz.prog k1 ([.d (.str x0)] ++ cl1.map A.d) H fun v h' => v = .a (.d (.bool r)) ∧ h' = H) : ACalls Tryz.prog 109 [.d (Sl.d 1 strE w0 a0), .d (.func k1 cl1)] H fun v h' => v = .a (.d (.int .i64 r)) ∧ h' = H := by
 unfold Z38 at hE
 refine ACalls.of_wp (fn := Tryz.f109) (c := _) Tryz.tab_ok (fun _ _ => Tryz.call109 _ _) Tryz.func109 rfl (n := 19) rfl (rs := [.tmp 4]) rfl rfl ?_
 refine seqK fun K1 hK1 => ?_
 refine region ?_
 refine s0 assignA rfl ?_
 refine nil ?_
 refine hK1 _ ?_
 clear hK1 K1
 refine seqJH KeepsT.nil (fun (z : Unit) => []) (fun z => H) (fun z => Z38_j2  = some r) ?_ ?_
 ·intro K2 hK2
  refine seqK fun K4 hK4 => ?_
  refine region ?_
  refine s0 moveA rfl ?_
  refine sLen (f := strE) (s := a0) (TK rfl) rfl rfl rfl rfl fun hL5 => ?_
  refine s0 moveA rfl ?_
  refine nil ?_
  refine hK4 _ ?_
  clear hK4 K4
  refine block ?_
  refine loopH (KeepsT.A (k := 0) (KeepsT.A (k := 1) (KeepsT.A (k := 7) KeepsT.nil))) (fun (z : Nat × Nat) => [(8, .a (.d (.int .i64 ((z.2 : Nat) : Int))))]) (fun z => H) (fun z => z.1) (fun z => Z38_l6 a0 a1 z.1 z.2 = some r) ((a0.l.length + 1), 0) hE Weak.toA ?_
  rintro ⟨n6, s8_7⟩ hE K6 hK6
  try dsimp only at hE
  cases n6 with
  | zero => cases hE
  | succ n6 =>
    rw [Z38_l6] at hE
    refine seqK fun K8 hK8 => ?_
    refine region ?_
    refine s0 (binI rfl rfl rfl) rfl ?_
    refine nil ?_
    refine hK8 _ ?_
    clear hK8 K8
    refine seqK fun K9 hK9 => ?_
    refine condE hE rfl (fun hc10 hE => ?_) (fun hc10 hE => ?_)
    ·try dsimp only at hc10
     have hf10 := of_decide_eq_true hc10
     refine AWp.skip ?_
     refine hK9 _ ?_
     clear hK9 K9
     refine seqK fun K11 hK11 => ?_
     refine block ?_
     refine seqK fun K12 hK12 => ?_
     refine region ?_
     refine s0 moveA rfl ?_
     refine s0 assignA rfl ?_
     refine nil ?_
     refine hK12 _ ?_
     clear hK12 K12
     refine seqK fun K13 hK13 => ?_
     refine region ?_
     refine s0 moveA rfl ?_
     refine s0 moveA rfl ?_
     refine s0 moveA rfl ?_
     obtain ⟨x14, gx14, hE⟩ := bindO_some hE
     refine s0 (idxMn (f := strE) (n := s8_7) (TK rfl) rfl (TK rfl) rfl rfl rfl gx14) rfl ?_
     refine s0 (loadV (TK rfl) rfl rfl rfl) rfl ?_
     obtain ⟨x15, gx15, hE⟩ := bindO_some hE
     refine s0 (callP rfl rfl (hf1 _ _ gx15)) rfl ?_
     refine nil ?_
     refine hK13 _ ?_
     clear hK13 K13
     refine condE hE rfl (fun hc16 hE => ?_) (fun hc16 hE => ?_)
     ·refine seqK fun K17 hK17 => ?_
      refine region ?_
      refine s0 moveA rfl ?_
      refine s0 assignA rfl ?_
      refine nil ?_
      refine hK17 _ ?_
      clear hK17 K17
      refine AWp.ret ?_
      repeat (first | refine xBlock_ret ?_ | refine xThen_ret ?_)
      obtain rfl := Option.some.inj hE
      refine retQ.retF H rfl ⟨rfl, rfl⟩ ?_
      exact (fun _ _ h => h)
     refine AWp.skip ?_
     refine hK11 _ ?_
     clear hK11 K11
     refine region ?_
     refine s0 (addI rfl rfl (by first | omega | (dsimp only; omega) | (simp at *; omega)) (by first | omega | (dsimp only; omega) | (simp at *; omega))) rfl ?_
     refine s0 moveA rfl ?_
     refine nil ?_
     exact hK6 _ (n6, (s8_7 + 1)) Weak.toA hE (Nat.lt_succ_self _)
    refine AWp.exit ?_
    exact hK2 _ () Weak.toA hE
 rintro _ hE
 try dsimp only at hE
 unfold Z38_j2 at hE
 refine seqK fun K3 hK3 => ?_
 refine region ?_
 refine s0 assignA rfl ?_
 refine nil ?_
 refine hK3 _ ?_
 clear hK3 K3
 refine AWp.ret ?_
 repeat (first | refine xBlock_ret ?_ | refine xThen_ret ?_)
 obtain rfl := Option.some.inj hE
 refine retQ.retF H rfl ⟨rfl, rfl⟩ ?_
 exact (fun _ _ h => h)
end Go.Proofs

namespace Go.Proofs
open Go Go.Ab
open AOps Cert AWp
variable {lou : Lou}
def Z36_j8 (a0 : (Sl Bs))  (s5_9 : Int) : Option (Sl Bs) := (partC a0 (some s5_9) none).bind fun x11 => none
def Z36_j21 (s6_16 : Int) (k_next_14 : Int → Int → Option (Sl Bs)) (s5_22 : Int) : Option (Sl Bs) := (addC s6_16 (1 : Int)).bind fun x23 => k_next_14 s5_22 x23
def Z36_l14 (a0 : (Sl Bs)) (a1 : (Bs → Option Bool))  : Nat → Int → Int → Option (Sl Bs)
 | 0, _, _ => none
 | n14 + 1, s5_15, s6_16 => bif (decide (s6_16 < ((a0.l.length : Nat) : Int))) then ((idxC a0.l s6_16).bind fun x25 => (a1 x25).bind fun x27 => bif (!x27) then ((idxC a0.l s5_15).bind fun x30 => none) else (Z36_j21 s6_16 ((Z36_l14 a0 a1 n14)) s5_15)) else (Z36_j8 a0  s5_15)
def Z36 (a0 : (Sl Bs)) (a1 : (Bs → Option Bool)) : Option (Sl Bs) := (Z38 a0 a1).bind fun x3 => bif (decide (x3 = (-1 : Int))) then (some a0) else ((addC x3 (1 : Int)).bind fun x13 => Z36_l14 a0 a1 F0 x3 x13)
theorem Z36_walk {a0 : (Sl Bs)} {a1 : (Bs → Option Bool)} {w0 : Option Nat} {cl1 : List D} {k1 : Nat} {r : (Sl Bs)} (hE : Z36 a0 a1 = some r) (H : Heap) (hf1 : ∀ x0 r, a1 x0 = some r → ∀ H, ACalls Tryz.prog k1 ([.d (.str x0)] ++ cl1.map A.d) H fun v h' => v = .a (.d (.bool r)) ∧ h' = H) : ACalls Tryz.prog 90 [.d (Sl.d 1 strE w0 a0), .d (.func k1 cl1)] H fun v h' => v = .a (.d (Sl.d 1 strE none r)) ∧ h' = H := by
 unfold Z36 at hE
 refine ACalls.of_wp (fn := Tryz.f90) (c := _) Tryz.tab_ok (fun _ _ => Tryz.call90 _ _) Tryz.func90 rfl (n := 42) rfl (rs := [.tmp 4]) rfl rfl ?_
 refine seqK fun K1 hK1 => ?_
 refine region ?_
 refine s0 (assignNil (k' := 1) rfl) rfl ?_
 refine nil ?_
 refine hK1 _ ?_
 clear hK1 K1
 refine seqK fun K2 hK2 => ?_
 refine region ?_
 refine s0 moveA rfl ?_
 refine s0 moveA rfl ?_
 obtain ⟨x3, gx3, hE⟩ := bindO_some hE
 refine s0 (callP rfl rfl (fun H => Z38_walk gx3 H hf1)) rfl ?_
 refine s0 assignA rfl ?_
 refine nil ?_
 refine hK2 _ ?_
 clear hK2 K2
 refine seqK fun K4 hK4 => ?_
 refine seqK fun K5 hK5 => ?_
 refine region ?_
 refine s0 moveA rfl ?_
 refine s0 (binI rfl rfl rfl) rfl ?_
 refine nil ?_
 refine hK5 _ ?_
 clear hK5 K5
 refine condE hE rfl (fun hc6 hE => ?_) (fun hc6 hE => ?_)
 ·refine seqK fun K7 hK7 => ?_
  refine region ?_
  refine s0 moveA rfl ?_
  refine s0 assignA rfl ?_
  refine nil ?_
  refine hK7 _ ?_
  clear hK7 K7
  refine AWp.dropTok 4 rfl ?_
  refine AWp.ret ?_
  repeat (first | refine xBlock_ret ?_ | refine xThen_ret ?_)
  obtain rfl := Option.some.inj hE
  refine retQ.retF H rfl ⟨rfl, rfl⟩ ?_
  exact (fun _ _ h => h)
 refine AWp.skip ?_
 refine hK4 _ ?_
 clear hK4 K4
 refine seqJH (KeepsT.A (k := 0) KeepsT.nil) (fun (z : Int) => [(5, .a (.d (.int .i64 z)))]) (fun z => H) (fun z => Z36_j8 a0 z = some r) ?_ ?_
 ·intro K8 hK8
  refine seqK fun K12 hK12 => ?_
  refine region ?_
  refine s0 moveA rfl ?_
  obtain ⟨x13, gx13, hE⟩ := bindO_some hE
  refine s0 (addM rfl rfl gx13) rfl ?_
  refine s0 assignA rfl ?_
  refine nil ?_
  refine hK12 _ ?_
  clear hK12 K12
  refine block ?_
  refine loopH (KeepsT.A (k := 0) (KeepsT.A (k := 1) KeepsT.nil)) (fun (z : Nat × Int × Int) => [(5, .a (.d (.int .i64 z.2.1))), (6, .a (.d (.int .i64 z.2.2)))]) (fun z => H) (fun z => z.1) (fun z => Z36_l14 a0 a1 z.1 z.2.1 z.2.2 = some r) (F0, x3, x13) hE Weak.toA ?_
  rintro ⟨n14, s5_15, s6_16⟩ hE K14 hK14
  try dsimp only at hE
  cases n14 with
  | zero => cases hE
  | succ n14 =>
    rw [Z36_l14] at hE
    refine seqK fun K17 hK17 => ?_
    refine seqK fun K18 hK18 => ?_
    refine region ?_
    refine s0 moveA rfl ?_
    refine s0 moveA rfl ?_
    refine sLen (f := strE) (s := a0) (TK rfl) rfl rfl rfl rfl fun hL19 => ?_
    refine s0 (binI rfl rfl rfl) rfl ?_
    refine nil ?_
    refine hK18 _ ?_
    clear hK18 K18
    refine condE hE rfl (fun hc20 hE => ?_) (fun hc20 hE => ?_)
    ·refine AWp.skip ?_
     refine hK17 _ ?_
     clear hK17 K17
     refine seqJH (KeepsT.A (k := 0) (KeepsT.A (k := 1) (KeepsT.A (k := 6) KeepsT.nil))) (fun (z : Int) => [(5, .a (.d (.int .i64 z)))]) (fun z => H) (fun z => Z36_j21 s6_16 ((Z36_l14 a0 a1 n14)) z = some r) ?_ ?_
     ·intro K21 hK21
      refine block ?_
      refine seqK fun K24 hK24 => ?_
      refine region ?_
      refine s0 moveA rfl ?_
      refine s0 moveA rfl ?_
      obtain ⟨x25, gx25, hE⟩ := bindO_some hE
      refine s0 (idxM (f := strE) (TK rfl) rfl (TK rfl) rfl rfl rfl gx25) rfl ?_
      refine s0 (loadV (TK rfl) rfl rfl rfl) rfl ?_
      refine s0 assignA rfl ?_
      refine nil ?_
      refine hK24 _ ?_
      clear hK24 K24
      refine seqK fun K26 hK26 => ?_
      refine region ?_
      refine s0 moveA rfl ?_
      refine s0 moveA rfl ?_
      obtain ⟨x27, gx27, hE⟩ := bindO_some hE
      refine s0 (callP rfl rfl (hf1 _ _ gx27)) rfl ?_
      refine s0 (notB rfl) rfl ?_
      refine nil ?_
      refine hK26 _ ?_
      clear hK26 K26
      refine condE hE rfl (fun hc28 hE => ?_) (fun hc28 hE => ?_)
      ·refine seqK fun K29 hK29 => ?_
       refine region ?_
       refine s0 moveA rfl ?_
       refine s0 moveA rfl ?_
       refine s0 moveA rfl ?_
       obtain ⟨x30, gx30, hE⟩ := bindO_some hE
       refine s0 (idxM (f := strE) (TK rfl) rfl (TK rfl) rfl rfl rfl gx30) rfl ?_
       cases hE
      refine AWp.skip ?_
      exact hK21 _ s5_15 Weak.toA hE
     rintro s5_22 hE
     try dsimp only at hE
     unfold Z36_j21 at hE
     refine region ?_
     refine s0 moveA rfl ?_
     obtain ⟨x23, gx23, hE⟩ := bindO_some hE
     refine s0 (addM rfl rfl gx23) rfl ?_
     refine s0 assignA rfl ?_
     refine nil ?_
     exact hK14 _ (n14, s5_22, x23) Weak.toA hE (Nat.lt_succ_self _)
    refine AWp.exit ?_
    exact hK8 _ s5_15 Weak.toA hE
 rintro s5_9 hE
 try dsimp only at hE
 unfold Z36_j8 at hE
 refine seqK fun K10 hK10 => ?_
 refine region ?_
 refine s0 moveA rfl ?_
 refine s0 moveA rfl ?_
 obtain ⟨x11, gx11, hE⟩ := bindO_some hE
 refine s0 (partM (f := strE) (l := (some s5_9)) (r := none) (TK rfl) rfl (TK rfl) rfl rfl rfl trivial gx11) rfl ?_
 cases hE
def Z34 (a0 : (Sl Bs)) : Option (Sl Bs) := bif a0.nl then (some (Sl.nil : Sl Bs)) else ((appC 16 (⟨false, []⟩ : Sl Bs) a0).bind fun x7 => some x7)
theorem Z34_walk {a0 : (Sl Bs)} {w0 : Option Nat}  {r : (Sl Bs)} (hE : Z34 a0 = some r) (H : Heap)  : ACalls Tryz.prog 91 [.d (Sl.d 1 strE w0 a0)] H fun v h' => v = .a (.d (Sl.d 1 strE none r)) ∧ h' = H := by
 unfold Z34 at hE
 refine ACalls.of_wp (fn := Tryz.f91) (c := _) Tryz.tab_ok (fun _ _ => Tryz.call91 _ _) Tryz.func91 rfl (n := 8) rfl (rs := [.tmp 2]) rfl rfl ?_
 refine seqK fun K1 hK1 => ?_
 refine region ?_
 refine s0 (assignNil (k' := 1) rfl) rfl ?_
 refine nil ?_
 refine hK1 _ ?_
 clear hK1 K1
 refine seqK fun K2 hK2 => ?_
 refine seqK fun K3 hK3 => ?_
 refine region ?_
 refine s0 moveA rfl ?_
 refine s0 (eqNil (TK rfl) rfl rfl) rfl ?_
 refine nil ?_
 refine hK3 _ ?_
 clear hK3 K3
 refine condE hE rfl (fun hc4 hE => ?_) (fun hc4 hE => ?_)
 ·refine seqK fun K5 hK5 => ?_
  refine region ?_
  refine s0 (assignNil (k' := 1) rfl) rfl ?_
  refine nil ?_
  refine hK5 _ ?_
  clear hK5 K5
  refine AWp.ret ?_
  repeat (first | refine xBlock_ret ?_ | refine xThen_ret ?_)
  obtain rfl := Option.some.inj hE
  refine retQ.retF H rfl ⟨rfl, rfl⟩ ?_
  exact (fun _ _ h => h)
 refine AWp.skip ?_
 refine hK2 _ ?_
 clear hK2 K2
 refine seqK fun K6 hK6 => ?_
 refine region ?_
 refine s0 (buildSliceF (TK rfl) rfl (TK rfl) rfl rfl rfl rfl rfl rfl) rfl ?_
 refine s0 moveA rfl ?_
 obtain ⟨x7, gx7, hE⟩ := bindO_some hE
 refine s0 (appFM (f := strE) (TK rfl) rfl (TK rfl) (TK rfl) ⟨_, rfl⟩ rfl rfl (by decide) rfl rfl rfl (by intro q h; cases h <;> decide) rfl rfl gx7) rfl ?_
 refine s0 assignA rfl ?_
 refine nil ?_
 refine hK6 _ ?_
 clear hK6 K6
 refine AWp.ret ?_
 repeat (first | refine xBlock_ret ?_ | refine xThen_ret ?_)
 obtain rfl := Option.some.inj hE
 refine retQ.retF H rfl ⟨rfl, rfl⟩ ?_
 exact (fun _ _ h => h)
def Z39_j2   : Option Int := some (-1 : Int)
def Z39_l6 (a0 : (Sl Bs)) (a1 : Bs)  : Nat → Nat → Option Int
 | 0, _ => none
 | n6 + 1, s8_7 => bif (decide (((s8_7 : Nat) : Int) < ((a0.l.length : Nat) : Int))) then ((a0.l[s8_7]?).bind fun x14 => bif ((a1 == x14)) then (some ((s8_7 : Nat) : Int)) else ((Z39_l6 a0 a1 n6) (s8_7 + 1))) else (Z39_j2   )
def Z39 (a0 : (Sl Bs)) (a1 : Bs) : Option Int := Z39_l6 a0 a1 (a0.l.length + 1) 0
theorem Z39_walk {a0 : (Sl Bs)} {a1 : Bs} {w0 : Option Nat}  {r : Int} (hE : Z39 a0 a1 = some r) (H : Heap)  : ACalls Tryz.prog 106 [.d (Sl.d 1 strE w0 a0), .d (.str a1)] H fun v h' => v = .a (.d (.int .i64 r)) ∧ h' = H := by
 unfold Z39 at hE
 refine ACalls.of_wp (fn := Tryz.f106) (c := _) Tryz.tab_ok (fun _ _ => Tryz.call106 _ _) Tryz.func106 rfl (n := 19) rfl (rs := [.tmp 4]) rfl rfl ?_
 refine seqK fun K1 hK1 => ?_
 refine region ?_
 refine s0 assignA rfl ?_
 refine nil ?_
 refine hK1 _ ?_
 clear hK1 K1
 refine seqJH KeepsT.nil (fun (z : Unit) => []) (fun z => H) (fun z => Z39_j2  = some r) ?_ ?_
 ·intro K2 hK2
  refine seqK fun K4 hK4 => ?_
  refine region ?_
  refine s0 moveA rfl ?_
  refine sLen (f := strE) (s := a0) (TK rfl) rfl rfl rfl rfl fun hL5 => ?_
  refine s0 moveA rfl ?_
  refine nil ?_
  refine hK4 _ ?_
  clear hK4 K4
  refine block ?_
  refine loopH (KeepsT.A (k := 0) (KeepsT.A (k := 1) (KeepsT.A (k := 7) KeepsT.nil))) (fun (z : Nat × Nat) => [(8, .a (.d (.int .i64 ((z.2 : Nat) : Int))))]) (fun z => H) (fun z => z.1) (fun z => Z39_l6 a0 a1 z.1 z.2 = some r) ((a0.l.length + 1), 0) hE Weak.toA ?_
  rintro ⟨n6, s8_7⟩ hE K6 hK6
  try dsimp only at hE
  cases n6 with
  | zero => cases hE
  | succ n6 =>
    rw [Z39_l6] at hE
    refine seqK fun K8 hK8 => ?_
    refine region ?_
    refine s0 (binI rfl rfl rfl) rfl ?_
    refine nil ?_
    refine hK8 _ ?_
    clear hK8 K8
    refine seqK fun K9 hK9 => ?_
    refine condE hE rfl (fun hc10 hE => ?_) (fun hc10 hE => ?_)
    ·try dsimp only at hc10
     have hf10 := of_decide_eq_true hc10
     refine AWp.skip ?_
     refine hK9 _ ?_
     clear hK9 K9
     refine seqK fun K11 hK11 => ?_
     refine block ?_
     refine seqK fun K12 hK12 => ?_
     refine region ?_
     refine s0 moveA rfl ?_
     refine s0 assignA rfl ?_
     refine nil ?_
     refine hK12 _ ?_
     clear hK12 K12
     refine seqK fun K13 hK13 => ?_
     refine region ?_
     refine s0 moveA rfl ?_
     refine s0 moveA rfl ?_
     refine s0 moveA rfl ?_
     obtain ⟨x14, gx14, hE⟩ := bindO_some hE
     refine s0 (idxMn (f := strE) (n := s8_7) (TK rfl) rfl (TK rfl) rfl rfl rfl gx14) rfl ?_
     refine s0 (loadV (TK rfl) rfl rfl rfl) rfl ?_
     refine s0 (binS rfl rfl rfl) rfl ?_
     refine nil ?_
     refine hK13 _ ?_
     clear hK13 K13
     refine condE hE rfl (fun hc15 hE => ?_) (fun hc15 hE => ?_)
     ·refine seqK fun K16 hK16 => ?_
      refine region ?_
      refine s0 moveA rfl ?_
      refine s0 assignA rfl ?_
      refine nil ?_
      refine hK16 _ ?_
      clear hK16 K16
      refine AWp.ret ?_
      repeat (first | refine xBlock_ret ?_ | refine xThen_ret ?_)
      obtain rfl := Option.some.inj hE
      refine retQ.retF H rfl ⟨rfl, rfl⟩ ?_
      exact (fun _ _ h => h)
     refine AWp.skip ?_
     refine hK11 _ ?_
     clear hK11 K11
     refine region ?_
     refine s0 (addI rfl rfl (by first | omega | (dsimp only; omega) | (simp at *; omega)) (by first | omega | (dsimp only; omega) | (simp at *; omega))) rfl ?_
     refine s0 moveA rfl ?_
     refine nil ?_
     exact hK6 _ (n6, (s8_7 + 1)) Weak.toA hE (Nat.lt_succ_self _)
    refine AWp.exit ?_
    exact hK2 _ () Weak.toA hE
 rintro _ hE
 try dsimp only at hE
 unfold Z39_j2 at hE
 refine seqK fun K3 hK3 => ?_
 refine region ?_
 refine s0 assignA rfl ?_
 refine nil ?_
 refine hK3 _ ?_
 clear hK3 K3
 refine AWp.ret ?_
 repeat (first | refine xBlock_ret ?_ | refine xThen_ret ?_)
 obtain rfl := Option.some.inj hE
 refine retQ.retF H rfl ⟨rfl, rfl⟩ ?_
 exact (fun _ _ h => h)
def Z35 (a0 : (Sl Bs)) (a1 : Bs) : Option Bool := (Z39 a0 a1).bind fun x3 => some (decide ((0 : Int) ≤ x3))
theorem Z35_walk {a0 : (Sl Bs)} {a1 : Bs} {w0 : Option Nat}  {r : Bool} (hE : Z35 a0 a1 = some r) (H : Heap)  : ACalls Tryz.prog 86 [.d (Sl.d 1 strE w0 a0), .d (.str a1)] H fun v h' => v = .a (.d (.bool r)) ∧ h' = H := by
 unfold Z35 at hE
 refine ACalls.of_wp (fn := Tryz.f86) (c := _) Tryz.tab_ok (fun _ _ => Tryz.call86 _ _) Tryz.func86 rfl (n := 9) rfl (rs := [.tmp 4]) rfl rfl ?_
 refine seqK fun K1 hK1 => ?_
 refine region ?_
 refine s0 assignA rfl ?_
 refine nil ?_
 refine hK1 _ ?_
 clear hK1 K1
 refine seqK fun K2 hK2 => ?_
 refine region ?_
 refine s0 moveA rfl ?_
 refine s0 moveA rfl ?_
 obtain ⟨x3, gx3, hE⟩ := bindO_some hE
 refine s0 (callP rfl rfl (fun H => Z39_walk gx3 H)) rfl ?_
 refine s0 (binI rfl rfl rfl) rfl ?_
 refine s0 assignA rfl ?_
 refine nil ?_
 refine hK2 _ ?_
 clear hK2 K2
 refine AWp.ret ?_
 repeat (first | refine xBlock_ret ?_ | refine xThen_ret ?_)
 obtain rfl := Option.some.inj hE
 refine retQ.retF H rfl ⟨rfl, rfl⟩ ?_
 exact (fun _ _ h => h)
def Z12 (a0 : Bs) (a1 : (Sl Bs)) : Option Bool := (Z35 a1 a0).bind fun x3 => some x3
theorem Z12_walk {a0 : Bs} {a1 : (Sl Bs)}   {r : Bool} (hE : Z12 a0 a1 = some r) (H : Heap)  : ACalls Tryz.prog 92 [.d (.str a0), .d (.view ((fun s => [Sl.d 1 strE none s]) a1))] H fun v h' => v = .a (.d (.bool r)) ∧ h' = H := by
 unfold Z12 at hE
 refine ACalls.of_wp (fn := Tryz.f92) (c := _) Tryz.tab_ok (fun _ _ => Tryz.call92 _ _) Tryz.func92 rfl (n := 7) rfl (rs := [.tmp 3]) rfl rfl ?_
 refine seqK fun K1 hK1 => ?_
 refine region ?_
 refine s0 assignA rfl ?_
 refine nil ?_
 refine hK1 _ ?_
 clear hK1 K1
 refine seqK fun K2 hK2 => ?_
 refine region ?_
 refine s0 (loadV (TK rfl) rfl rfl rfl) rfl ?_
 refine s0 moveA rfl ?_
 obtain ⟨x3, gx3, hE⟩ := bindO_some hE
 refine s0 (callP rfl rfl (fun H => Z35_walk gx3 H)) rfl ?_
 refine s0 assignA rfl ?_
 refine nil ?_
 refine hK2 _ ?_
 clear hK2 K2
 refine AWp.ret ?_
 repeat (first | refine xBlock_ret ?_ | refine xThen_ret ?_)
 obtain rfl := Option.some.inj hE
 refine retQ.retF H rfl ⟨rfl, rfl⟩ ?_
 exact (fun _ _ h => h)
def Z11 (a0 : (Sl Bs)) (a1 : (Sl Bs)) : Option (Sl Bs) := (Z34 a0).bind fun x3 => (Z36 x3 (fun y0 => Z12 y0 a1)).bind fun x4 => some x4
theorem Z11_walk {a0 : (Sl Bs)} {a1 : (Sl Bs)} {w0 : Option Nat} {w1 : Option Nat}  {r : (Sl Bs)} (hE : Z11 a0 a1 = some r) (H : Heap)  : ACalls Tryz.prog 62 [.d (Sl.d 1 strE w0 a0), .d (Sl.d 1 strE w1 a1)] H fun v h' => v = .a (.d (Sl.d 1 strE none r)) ∧ h' = H := by
 unfold Z11 at hE
 refine ACalls.of_wp (fn := Tryz.f62) (c := _) Tryz.tab_ok (fun _ _ => Tryz.call62 _ _) Tryz.func62 rfl (n := 9) rfl (rs := [.tmp 4]) rfl rfl ?_
 refine seqK fun K1 hK1 => ?_
 refine region ?_
 refine AOps.dropTok 1 rfl ?_
 refine s0 (boxV rfl) rfl ?_
 refine s0 (assignNil (k' := 1) rfl) rfl ?_
 refine nil ?_
 refine hK1 _ ?_
 clear hK1 K1
 refine seqK fun K2 hK2 => ?_
 refine region ?_
 refine s0 moveA rfl ?_
 obtain ⟨x3, gx3, hE⟩ := bindO_some hE
 refine s0 (callP rfl rfl (fun H => Z34_walk gx3 H)) rfl ?_
 refine s0 (makeFunc rfl) rfl ?_
 obtain ⟨x4, gx4, hE⟩ := bindO_some hE
 refine s0 (callP rfl rfl (fun H => Z36_walk gx4 H (fun _ _ hx => Z12_walk hx))) rfl ?_
 refine s0 assignA rfl ?_
 refine nil ?_
 refine hK2 _ ?_
 clear hK2 K2
 refine AWp.ret ?_
 repeat (first | refine xBlock_ret ?_ | refine xThen_ret ?_)
 obtain rfl := Option.some.inj hE
 refine retQ.retF H rfl ⟨rfl, rfl⟩ ?_
 exact (fun _ _ h => h)
def Z5 (a0 : Bs) : Option (Bs × Bs) := some (a0, ([] : Bs))
theorem Z5_walk {a0 : Bs}   {r : (Bs × Bs)} (hE : Z5 a0 = some r) (H : Heap)  : ACalls Tryz.prog 64 [.d (.str a0)] H fun v h' => v = .tup [.d (.str r.1), .d (.str r.2)] ∧ h' = H := by
 unfold Z5 at hE
 refine ACalls.of_wp (fn := Tryz.f64) (c := _) Tryz.tab_ok (fun _ _ => Tryz.call64 _ _) Tryz.func64 rfl (n := 5) rfl (rs := [.tmp 2, .tmp 3]) rfl rfl ?_
 refine seqK fun K1 hK1 => ?_
 refine region ?_
 refine s0 assignA rfl ?_
 refine s0 assignA rfl ?_
 refine nil ?_
 refine hK1 _ ?_
 clear hK1 K1
 refine seqK fun K2 hK2 => ?_
 refine region ?_
 refine s0 moveA rfl ?_
 refine s0 assignA rfl ?_
 refine s0 assignA rfl ?_
 refine nil ?_
 refine hK2 _ ?_
 clear hK2 K2
 refine AWp.ret ?_
 repeat (first | refine xBlock_ret ?_ | refine xThen_ret ?_)
 obtain rfl := Option.some.inj hE
 refine retQ.retF H rfl ⟨rfl, rfl⟩ ?_
 exact (fun _ _ h => h)
def Z4_l18 (x16 : (Sl Bs))  : Nat → Nat → Changes_differ → Option Changes_differ
 | 0, _, _ => none
 | n18 + 1, s77_19, y20_c0 => bif (decide (((s77_19 : Nat) : Int) < ((x16.l.length : Nat) : Int))) then ((x16.l[s77_19]?).bind fun x26 => (Z3 y20_c0 (18 : Int) ([] : Bs) ([] : Bs) ([] : Bs) x26).bind fun x27 => (Z4_l18 x16 n18) (s77_19 + 1) x27) else (some y20_c0)
def Z4_j13 (a1 : TDef) (a2 : TDef)  (y14_c0 : Changes_differ) : Option Changes_differ := (Z11 a2.FImplements a1.FImplements).bind fun x16 => Z4_l18 x16 (x16.l.length + 1) 0 y14_c0
def Z4_l31 (a1 : TDef) (a2 : TDef) (x29 : (Sl Bs))  : Nat → Nat → Changes_differ → Option Changes_differ
 | 0, _, _ => none
 | n31 + 1, s63_32, y33_c0 => bif (decide (((s63_32 : Nat) : Int) < ((x29.l.length : Nat) : Int))) then ((x29.l[s63_32]?).bind fun x39 => (Z3 y33_c0 (17 : Int) ([] : Bs) ([] : Bs) x39 ([] : Bs)).bind fun x40 => (Z4_l31 a1 a2 x29 n31) (s63_32 + 1) x40) else (Z4_j13 a1 a2  y33_c0)
def Z4_j9 (a1 : TDef) (a2 : TDef)  (y10_c0 : Changes_differ) : Option Changes_differ := (Z8 y10_c0 a1.FInputs a2.FInputs (Changes_kinds.mk (13 : Int) (14 : Int) (15 : Int) (16 : Int)) Z5).bind fun x12 => (Z11 a1.FImplements a2.FImplements).bind fun x29 => Z4_l31 a1 a2 x29 (x29.l.length + 1) 0 x12
def Z4_l44 (a1 : TDef) (a2 : TDef) (x42 : (Sl Bs))  : Nat → Nat → Changes_differ → Option Changes_differ
 | 0, _, _ => none
 | n44 + 1, s42_45, y46_c0 => bif (decide (((s42_45 : Nat) : Int) < ((x42.l.length : Nat) : Int))) then ((x42.l[s42_45]?).bind fun x52 => (Z3 y46_c0 (12 : Int) x52 ([] : Bs) ([] : Bs) ([] : Bs)).bind fun x53 => (Z4_l44 a1 a2 x42 n44) (s42_45 + 1) x53) else (Z4_j9 a1 a2  y46_c0)
def Z4_j7 (a1 : TDef) (a2 : TDef) (x5 : (Sl Bs)) (x6 : (Sl Bs))  (y8_c0 : Changes_differ) : Option Changes_differ := (Z11 x6 x5).bind fun x42 => Z4_l44 a1 a2 x42 (x42.l.length + 1) 0 y8_c0
def Z4_l57 (a1 : TDef) (a2 : TDef) (x5 : (Sl Bs)) (x6 : (Sl Bs)) (x55 : (Sl Bs))  : Nat → Nat → Changes_differ → Option Changes_differ
 | 0, _, _ => none
 | n57 + 1, s30_58, y59_c0 => bif (decide (((s30_58 : Nat) : Int) < ((x55.l.length : Nat) : Int))) then ((x55.l[s30_58]?).bind fun x65 => (Z3 y59_c0 (11 : Int) x65 ([] : Bs) ([] : Bs) ([] : Bs)).bind fun x66 => (Z4_l57 a1 a2 x5 x6 x55 n57) (s30_58 + 1) x66) else (Z4_j7 a1 a2 x5 x6  y59_c0)
def Z4 (a0 : Changes_differ) (a1 : TDef) (a2 : TDef) : Option Changes_differ := (Z6 a0 a1 a2).bind fun x3 => (Z13 a1.FMembers).bind fun x5 => (Z13 a2.FMembers).bind fun x6 => (Z11 x5 x6).bind fun x55 => Z4_l57 a1 a2 x5 x6 x55 (x55.l.length + 1) 0 x3
theorem Z4_walk {a0 : Changes_differ} {a1 : TDef} {a2 : TDef}  {c0 : Nat} {c0_1 : Nat} {r : Changes_differ} (hE : Z4 a0 a1 a2 = some r) (H : Heap) (hc0 : H c0 = some (.cells (Changes_differ.cg (some c0_1) a0))) (ht0_1 : H c0_1 = some (.tok 6 a0.Fout.l.length)) : ACalls Tryz.prog 39 [.d (.ptr c0 0), .agg (TDef.c a1), .agg (TDef.c a2)] H fun v h' => v = .tup [] ∧ h' = ((H.set c0_1 (some (.tok 6 r.Fout.l.length))).set c0 (some (.cells (Changes_differ.cg (some c0_1) r)))) := by
 unfold Z4 at hE
 refine ACalls.of_wp (fn := Tryz.f39) (c := _) Tryz.tab_ok (fun _ _ => Tryz.call39 _ _) Tryz.func39 rfl (n := 85) rfl (rs := []) rfl rfl ?_
 have ne_c0_c0_1 : c0 ≠ c0_1 := fun e_ => by subst e_; simp_all
 refine AWp.heqA (h' := ((H.set c0_1 (some (.tok 6 a0.Fout.l.length))).set c0 (some (.cells (Changes_differ.cg (some c0_1) a0))))) (by funext n_; simp only [Heap.set]; (repeat' split) <;> simp_all) ?_
 refine seqK fun K1 hK1 => ?_
 refine region ?_
 refine s0 (boxV rfl) rfl ?_
 refine s0 (boxV rfl) rfl ?_
 refine nil ?_
 refine hK1 _ ?_
 clear hK1 K1
 refine seqK fun K2 hK2 => ?_
 refine region ?_
 refine s0 moveA rfl ?_
 refine s0 (loadV (TK rfl) rfl rfl rfl) rfl ?_
 refine s0 (loadV (TK rfl) rfl rfl rfl) rfl ?_
 obtain ⟨x3, gx3, hE⟩ := bindO_some hE
 refine sH (callH rfl rfl (Z6_walk gx3 _ hpG hpG)) rfl ?_
 refine AOps.heq (h' := ((H.set c0_1 (some (.tok 6 x3.Fout.l.length))).set c0 (some (.cells (Changes_differ.cg (some c0_1) x3))))) (by first | rfl | (rw [Heap.set_set]; rfl) | (funext n_; simp only [Heap.set]; (repeat' split) <;> first | rfl | (exfalso; simp_all; done) | (simp_all; done))) ?_
 refine nil ?_
 refine hK2 _ ?_
 clear hK2 K2
 refine seqK fun K4 hK4 => ?_
 refine AWp.draw rfl ?_
 refine DOps.s0 (fieldVA (TK rfl) rfl rfl (TK rfl) rfl rfl) rfl ?_
 refine DOps.s0 (loadV (TK rfl) rfl rfl rfl) rfl ?_
 obtain ⟨x5, gx5, hE⟩ := bindO_some hE
 refine DOps.s0 (callP rfl rfl (fun H => Z13_walk gx5 H)) rfl ?_
 refine DOps.s0 (fieldVA (TK rfl) rfl rfl (TK rfl) rfl rfl) rfl ?_
 refine DOps.s0 (loadV (TK rfl) rfl rfl rfl) rfl ?_
 obtain ⟨x6, gx6, hE⟩ := bindO_some hE
 refine DOps.s0 (callP rfl rfl (fun H => Z13_walk gx6 H)) rfl ?_
 refine DOps.s0 assignA rfl ?_
 refine DOps.s0 assignA rfl ?_
 refine DOps.nil (by decide +kernel) ?_
 refine hK4 _ ?_
 clear hK4 K4
 refine seqJH (KeepsT.A (k := 0) (KeepsT.A (k := 4) (KeepsT.A (k := 5) (KeepsT.A (k := 6) (KeepsT.A (k := 7) KeepsT.nil))))) (fun (z : Changes_differ) => []) (fun z => ((H.set c0_1 (some (.tok 6 z.Fout.l.length))).set c0 (some (.cells (Changes_differ.cg (some c0_1) z))))) (fun z => Z4_j7 a1 a2 x5 x6 z = some r) ?_ ?_
 ·intro K7 hK7
  refine seqK fun K54 hK54 => ?_
  refine region ?_
  refine s0 moveA rfl ?_
  refine s0 moveA rfl ?_
  obtain ⟨x55, gx55, hE⟩ := bindO_some hE
  refine s0 (callP rfl rfl (fun H => Z11_walk gx55 H)) rfl ?_
  refine sLen (f := strE) (s := x55) (TK rfl) rfl rfl rfl rfl fun hL56 => ?_
  refine s0 moveA rfl ?_
  refine nil ?_
  refine hK54 _ ?_
  clear hK54 K54
  refine block ?_
  refine loopH (KeepsT.A (k := 0) (KeepsT.A (k := 4) (KeepsT.A (k := 5) (KeepsT.A (k := 6) (KeepsT.A (k := 7) (KeepsT.A (k := 28) (KeepsT.A (k := 29) KeepsT.nil))))))) (fun (z : Nat × Nat × Changes_differ) => [(30, .a (.d (.int .i64 ((z.2.1 : Nat) : Int))))]) (fun z => ((H.set c0_1 (some (.tok 6 z.2.2.Fout.l.length))).set c0 (some (.cells (Changes_differ.cg (some c0_1) z.2.2))))) (fun z => z.1) (fun z => Z4_l57 a1 a2 x5 x6 x55 z.1 z.2.1 z.2.2 = some r) ((x55.l.length + 1), 0, x3) hE Weak.toA ?_
  rintro ⟨n57, s30_58, y59_c0⟩ hE K57 hK57
  try dsimp only at hE
  cases n57 with
  | zero => cases hE
  | succ n57 =>
    rw [Z4_l57] at hE
    refine seqK fun K60 hK60 => ?_
    refine region ?_
    refine s0 (binI rfl rfl rfl) rfl ?_
    refine nil ?_
    refine hK60 _ ?_
    clear hK60 K60
    refine seqK fun K61 hK61 => ?_
    refine condE hE rfl (fun hc62 hE => ?_) (fun hc62 hE => ?_)
    ·try dsimp only at hc62
     have hf62 := of_decide_eq_true hc62
     refine AWp.skip ?_
     refine hK61 _ ?_
     clear hK61 K61
     refine seqK fun K63 hK63 => ?_
     refine block ?_
     refine seqK fun K64 hK64 => ?_
     refine region ?_
     obtain ⟨x65, gx65, hE⟩ := bindO_some hE
     refine s0 (idxMn (f := strE) (n := s30_58) (TK rfl) rfl (TK rfl) rfl rfl rfl gx65) rfl ?_
     refine s0 (loadV (TK rfl) rfl rfl rfl) rfl ?_
     refine s0 assignA rfl ?_
     refine nil ?_
     refine hK64 _ ?_
     clear hK64 K64
     refine region ?_
     refine s0 moveA rfl ?_
     refine s0 moveA rfl ?_
     obtain ⟨x66, gx66, hE⟩ := bindO_some hE
     refine sH (callH rfl rfl (Z3_walk gx66 _ hpG hpG)) rfl ?_
     refine AOps.heq (h' := ((H.set c0_1 (some (.tok 6 x66.Fout.l.length))).set c0 (some (.cells (Changes_differ.cg (some c0_1) x66))))) (by first | rfl | (rw [Heap.set_set]; rfl) | (funext n_; simp only [Heap.set]; (repeat' split) <;> first | rfl | (exfalso; simp_all; done) | (simp_all; done))) ?_
     refine nil ?_
     refine hK63 _ ?_
     clear hK63 K63
     refine region ?_
     refine s0 (addI rfl rfl (by first | omega | (dsimp only; omega) | (simp at *; omega)) (by first | omega | (dsimp only; omega) | (simp at *; omega))) rfl ?_
     refine s0 moveA rfl ?_
     refine nil ?_
     exact hK57 _ (n57, (s30_58 + 1), x66) Weak.toA hE (Nat.lt_succ_self _)
    refine AWp.exit ?_
    exact hK7 _ y59_c0 Weak.toA hE
 rintro y8_c0 hE
 try dsimp only at hE
 unfold Z4_j7 at hE
 refine seqJH (KeepsT.A (k := 0) (KeepsT.A (k := 4) (KeepsT.A (k := 5) KeepsT.nil))) (fun (z : Changes_differ) => []) (fun z => ((H.set c0_1 (some (.tok 6 z.Fout.l.length))).set c0 (some (.cells (Changes_differ.cg (some c0_1) z))))) (fun z => Z4_j9 a1 a2 z = some r) ?_ ?_
 ·intro K9 hK9
  refine seqK fun K41 hK41 => ?_
  refine region ?_
  refine s0 moveA rfl ?_
  refine s0 moveA rfl ?_
  obtain ⟨x42, gx42, hE⟩ := bindO_some hE
  refine s0 (callP rfl rfl (fun H => Z11_walk gx42 H)) rfl ?_
  refine sLen (f := strE) (s := x42) (TK rfl) rfl rfl rfl rfl fun hL43 => ?_
  refine s0 moveA rfl ?_
  refine nil ?_
  refine hK41 _ ?_
  clear hK41 K41
  refine block ?_
  refine loopH (KeepsT.A (k := 0) (KeepsT.A (k := 4) (KeepsT.A (k := 5) (KeepsT.A (k := 40) (KeepsT.A (k := 41) KeepsT.nil))))) (fun (z : Nat × Nat × Changes_differ) => [(42, .a (.d (.int .i64 ((z.2.1 : Nat) : Int))))]) (fun z => ((H.set c0_1 (some (.tok 6 z.2.2.Fout.l.length))).set c0 (some (.cells (Changes_differ.cg (some c0_1) z.2.2))))) (fun z => z.1) (fun z => Z4_l44 a1 a2 x42 z.1 z.2.1 z.2.2 = some r) ((x42.l.length + 1), 0, y8_c0) hE Weak.toA ?_
  rintro ⟨n44, s42_45, y46_c0⟩ hE K44 hK44
  try dsimp only at hE
  cases n44 with
  | zero => cases hE
  | succ n44 =>
    rw [Z4_l44] at hE
    refine seqK fun K47 hK47 => ?_
    refine region ?_
    refine s0 (binI rfl rfl rfl) rfl ?_
    refine nil ?_
    refine hK47 _ ?_
    clear hK47 K47
    refine seqK fun K48 hK48 => ?_
    refine condE hE rfl (fun hc49 hE => ?_) (fun hc49 hE => ?_)
    ·try dsimp only at hc49
     have hf49 := of_decide_eq_true hc49
     refine AWp.skip ?_
     refine hK48 _ ?_
     clear hK48 K48
     refine seqK fun K50 hK50 => ?_
     refine block ?_
     refine seqK fun K51 hK51 => ?_
     refine region ?_
     obtain ⟨x52, gx52, hE⟩ := bindO_some hE
     refine s0 (idxMn (f := strE) (n := s42_45) (TK rfl) rfl (TK rfl) rfl rfl rfl gx52) rfl ?_
     refine s0 (loadV (TK rfl) rfl rfl rfl) rfl ?_
     refine s0 assignA rfl ?_
     refine nil ?_
     refine hK51 _ ?_
     clear hK51 K51
     refine region ?_
     refine s0 moveA rfl ?_
     refine s0 moveA rfl ?_
     obtain ⟨x53, gx53, hE⟩ := bindO_some hE
     refine sH (callH rfl rfl (Z3_walk gx53 _ hpG hpG)) rfl ?_
     refine AOps.heq (h' := ((H.set c0_1 (some (.tok 6 x53.Fout.l.length))).set c0 (some (.cells (Changes_differ.cg (some c0_1) x53))))) (by first | rfl | (rw [Heap.set_set]; rfl) | (funext n_; simp only [Heap.set]; (repeat' split) <;> first | rfl | (exfalso; simp_all; done) | (simp_all; done))) ?_
     refine nil ?_
     refine hK50 _ ?_
     clear hK50 K50
     refine region ?_
     refine s0 (addI rfl rfl (by first | omega | (dsimp only; omega) | (simp at *; omega)) (by first | omega | (dsimp only; omega) | (simp at *; omega))) rfl ?_
     refine s0 moveA rfl ?_
     refine nil ?_
     exact hK44 _ (n44, (s42_45 + 1), x53) Weak.toA hE (Nat.lt_succ_self _)
    refine AWp.exit ?_
    exact hK9 _ y46_c0 Weak.toA hE
 rintro y10_c0 hE
 try dsimp only at hE
 unfold Z4_j9 at hE
 refine seqK fun K11 hK11 => ?_
 refine region ?_
 refine s0 moveA rfl ?_
 refine s0 (fieldVA (TK rfl) rfl rfl (TK rfl) rfl rfl) rfl ?_
 refine s0 (loadV (TK rfl) rfl rfl rfl) rfl ?_
 refine s0 (fieldVA (TK rfl) rfl rfl (TK rfl) rfl rfl) rfl ?_
 refine s0 (loadV (TK rfl) rfl rfl rfl) rfl ?_
 refine s0 (build Tryz.tab_ok rfl rfl rfl rfl rfl rfl) rfl ?_
 obtain ⟨x12, gx12, hE⟩ := bindO_some hE
 refine sH (callH rfl rfl (Z8_walk gx12 _ hpG hpG (fun _ _ hx => Z5_walk hx))) rfl ?_
 refine AOps.heq (h' := ((H.set c0_1 (some (.tok 6 x12.Fout.l.length))).set c0 (some (.cells (Changes_differ.cg (some c0_1) x12))))) (by first | rfl | (rw [Heap.set_set]; rfl) | (funext n_; simp only [Heap.set]; (repeat' split) <;> first | rfl | (exfalso; simp_all; done) | (simp_all; done))) ?_
 refine nil ?_
 refine hK11 _ ?_
 clear hK11 K11
 refine seqJH (KeepsT.A (k := 0) (KeepsT.A (k := 4) (KeepsT.A (k := 5) KeepsT.nil))) (fun (z : Changes_differ) => []) (fun z => ((H.set c0_1 (some (.tok 6 z.Fout.l.length))).set c0 (some (.cells (Changes_differ.cg (some c0_1) z))))) (fun z => Z4_j13 a1 a2 z = some r) ?_ ?_
 ·intro K13 hK13
  refine seqK fun K28 hK28 => ?_
  refine region ?_
  refine s0 (fieldVA (TK rfl) rfl rfl (TK rfl) rfl rfl) rfl ?_
  refine s0 (loadV (TK rfl) rfl rfl rfl) rfl ?_
  refine s0 (fieldVA (TK rfl) rfl rfl (TK rfl) rfl rfl) rfl ?_
  refine s0 (loadV (TK rfl) rfl rfl rfl) rfl ?_
  obtain ⟨x29, gx29, hE⟩ := bindO_some hE
  refine s0 (callP rfl rfl (fun H => Z11_walk gx29 H)) rfl ?_
  refine sLen (f := strE) (s := x29) (TK rfl) rfl rfl rfl rfl fun hL30 => ?_
  refine s0 moveA rfl ?_
  refine nil ?_
  refine hK28 _ ?_
  clear hK28 K28
  refine block ?_
  refine loopH (KeepsT.A (k := 0) (KeepsT.A (k := 4) (KeepsT.A (k := 5) (KeepsT.A (k := 61) (KeepsT.A (k := 62) KeepsT.nil))))) (fun (z : Nat × Nat × Changes_differ) => [(63, .a (.d (.int .i64 ((z.2.1 : Nat) : Int))))]) (fun z => ((H.set c0_1 (some (.tok 6 z.2.2.Fout.l.length))).set c0 (some (.cells (Changes_differ.cg (some c0_1) z.2.2))))) (fun z => z.1) (fun z => Z4_l31 a1 a2 x29 z.1 z.2.1 z.2.2 = some r) ((x29.l.length + 1), 0, x12) hE Weak.toA ?_
  rintro ⟨n31, s63_32, y33_c0⟩ hE K31 hK31
  try dsimp only at hE
  cases n31 with
  | zero => cases hE
  | succ n31 =>
    rw [Z4_l31] at hE
    refine seqK fun K34 hK34 => ?_
    refine region ?_
    refine s0 (binI rfl rfl rfl) rfl ?_
    refine nil ?_
    refine hK34 _ ?_
    clear hK34 K34
    refine seqK fun K35 hK35 => ?_
    refine condE hE rfl (fun hc36 hE => ?_) (fun hc36 hE => ?_)
    ·try dsimp only at hc36
     have hf36 := of_decide_eq_true hc36
     refine AWp.skip ?_
     refine hK35 _ ?_
     clear hK35 K35
     refine seqK fun K37 hK37 => ?_
     refine block ?_
     refine seqK fun K38 hK38 => ?_
     refine region ?_
     obtain ⟨x39, gx39, hE⟩ := bindO_some hE
     refine s0 (idxMn (f := strE) (n := s63_32) (TK rfl) rfl (TK rfl) rfl rfl rfl gx39) rfl ?_
     refine s0 (loadV (TK rfl) rfl rfl rfl) rfl ?_
     refine s0 assignA rfl ?_
     refine nil ?_
     refine hK38 _ ?_
     clear hK38 K38
     refine region ?_
     refine s0 moveA rfl ?_
     refine s0 moveA rfl ?_
     obtain ⟨x40, gx40, hE⟩ := bindO_some hE
     refine sH (callH rfl rfl (Z3_walk gx40 _ hpG hpG)) rfl ?_
     refine AOps.heq (h' := ((H.set c0_1 (some (.tok 6 x40.Fout.l.length))).set c0 (some (.cells (Changes_differ.cg (some c0_1) x40))))) (by first | rfl | (rw [Heap.set_set]; rfl) | (funext n_; simp only [Heap.set]; (repeat' split) <;> first | rfl | (exfalso; simp_all; done) | (simp_all; done))) ?_
     refine nil ?_
     refine hK37 _ ?_
     clear hK37 K37
     refine region ?_
     refine s0 (addI rfl rfl (by first | omega | (dsimp only; omega) | (simp at *; omega)) (by first | omega | (dsimp only; omega) | (simp at *; omega))) rfl ?_
     refine s0 moveA rfl ?_
     refine nil ?_
     exact hK31 _ (n31, (s63_32 + 1), x40) Weak.toA hE (Nat.lt_succ_self _)
    refine AWp.exit ?_
    exact hK13 _ y33_c0 Weak.toA hE
 rintro y14_c0 hE
 try dsimp only at hE
 unfold Z4_j13 at hE
 refine seqK fun K15 hK15 => ?_
 refine region ?_
 refine s0 (fieldVA (TK rfl) rfl rfl (TK rfl) rfl rfl) rfl ?_
 refine s0 (loadV (TK rfl) rfl rfl rfl) rfl ?_
 refine s0 (fieldVA (TK rfl) rfl rfl (TK rfl) rfl rfl) rfl ?_
 refine s0 (loadV (TK rfl) rfl rfl rfl) rfl ?_
 obtain ⟨x16, gx16, hE⟩ := bindO_some hE
 refine s0 (callP rfl rfl (fun H => Z11_walk gx16 H)) rfl ?_
 refine sLen (f := strE) (s := x16) (TK rfl) rfl rfl rfl rfl fun hL17 => ?_
 refine s0 moveA rfl ?_
 refine nil ?_
 refine hK15 _ ?_
 clear hK15 K15
 refine block ?_
 refine loopH (KeepsT.A (k := 0) (KeepsT.A (k := 75) (KeepsT.A (k := 76) KeepsT.nil))) (fun (z : Nat × Nat × Changes_differ) => [(77, .a (.d (.int .i64 ((z.2.1 : Nat) : Int))))]) (fun z => ((H.set c0_1 (some (.tok 6 z.2.2.Fout.l.length))).set c0 (some (.cells (Changes_differ.cg (some c0_1) z.2.2))))) (fun z => z.1) (fun z => Z4_l18 x16 z.1 z.2.1 z.2.2 = some r) ((x16.l.length + 1), 0, y14_c0) hE Weak.toA ?_
 rintro ⟨n18, s77_19, y20_c0⟩ hE K18 hK18
 try dsimp only at hE
 cases n18 with
 | zero => cases hE
 | succ n18 =>
   rw [Z4_l18] at hE
   refine seqK fun K21 hK21 => ?_
   refine region ?_
   refine s0 (binI rfl rfl rfl) rfl ?_
   refine nil ?_
   refine hK21 _ ?_
   clear hK21 K21
   refine seqK fun K22 hK22 => ?_
   refine condE hE rfl (fun hc23 hE => ?_) (fun hc23 hE => ?_)
   ·try dsimp only at hc23
    have hf23 := of_decide_eq_true hc23
    refine AWp.skip ?_
    refine hK22 _ ?_
    clear hK22 K22
    refine seqK fun K24 hK24 => ?_
    refine block ?_
    refine seqK fun K25 hK25 => ?_
    refine region ?_
    obtain ⟨x26, gx26, hE⟩ := bindO_some hE
    refine s0 (idxMn (f := strE) (n := s77_19) (TK rfl) rfl (TK rfl) rfl rfl rfl gx26) rfl ?_
    refine s0 (loadV (TK rfl) rfl rfl rfl) rfl ?_
    refine s0 assignA rfl ?_
    refine nil ?_
    refine hK25 _ ?_
    clear hK25 K25
    refine region ?_
    refine s0 moveA rfl ?_
    refine s0 moveA rfl ?_
    obtain ⟨x27, gx27, hE⟩ := bindO_some hE
    refine sH (callH rfl rfl (Z3_walk gx27 _ hpG hpG)) rfl ?_
    refine AOps.heq (h' := ((H.set c0_1 (some (.tok 6 x27.Fout.l.length))).set c0 (some (.cells (Changes_differ.cg (some c0_1) x27))))) (by first | rfl | (rw [Heap.set_set]; rfl) | (funext n_; simp only [Heap.set]; (repeat' split) <;> first | rfl | (exfalso; simp_all; done) | (simp_all; done))) ?_
    refine nil ?_
    refine hK24 _ ?_
    clear hK24 K24
    refine region ?_
    refine s0 (addI rfl rfl (by first | omega | (dsimp only; omega) | (simp at *; omega)) (by first | omega | (dsimp only; omega) | (simp at *; omega))) rfl ?_
    refine s0 moveA rfl ?_
    refine nil ?_
    exact hK18 _ (n18, (s77_19 + 1), x27) Weak.toA hE (Nat.lt_succ_self _)
   refine AWp.exit ?_
   repeat (first | refine xBlock_normal ?_ | refine xThen_exit ?_ | refine xBlock_exit ?_)
   obtain rfl := Option.some.inj hE
   refine retQ.normalF ((H.set c0_1 (some (.tok 6 y20_c0.Fout.l.length))).set c0 (some (.cells (Changes_differ.cg (some c0_1) y20_c0)))) (xs := []) rfl ⟨rfl, rfl⟩ ?_
   exact (fun _ _ h => h)
end Go.Proofs
