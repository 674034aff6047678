import Derived.Test.YtnbbdamkdkhjkaaE3
import Derived.Test.YtnbbdamkdkhjkaaTab
set_option maxRecDepth 100000
set_option maxHeartbeats 2000000
set_option linter.unusedVariables false
set_option linter.unusedSimpArgs false
namespace Go.Proofs
open Go Go.Ab
structure TUse where
 FType : Bs
 FField : Bs
 FArg : Bs
 FCount : Int
def TUse.c (x : TUse) : List D := [.str x.FType, .str x.FField, .str x.FArg, .int .i64 x.FCount]
def TUse.zero : TUse := ⟨([] : Bs), ([] : Bs), ([] : Bs), (0 : Int)⟩
inductive TValue where
 | mk (FKind : Int) (FInt : Int) (FText : Bs) (FItems_nl : Bool) (FItems_l : List TValue) (FKeys : (Sl Bs))
def TValue.FKind : TValue → Int | .mk x _ _ _ _ _ => x
def TValue.FInt : TValue → Int | .mk _ x _ _ _ _ => x
def TValue.FText : TValue → Bs | .mk _ _ x _ _ _ => x
def TValue.FItems : TValue → (Sl TValue) | .mk _ _ _ nl l _ => ⟨nl, l⟩
def TValue.FKeys : TValue → (Sl Bs) | .mk _ _ _ _ _ x => x
noncomputable def TValue.FItemsD : TValue → D := @TValue.rec (fun _ => D) (fun _ => List (List D)) (fun _ _ _ nl _ _ ih => .slice 5 none nl ih) [] (fun v _ ih ihl => ((intE .i64) v.FKind ++ (intE .i64) v.FInt ++ strE v.FText ++ [ih] ++ (fun s => [Sl.d 1 strE none s]) v.FKeys) :: ihl)
noncomputable def TValue.c (v : TValue) : List D := (intE .i64) v.FKind ++ (intE .i64) v.FInt ++ strE v.FText ++ [v.FItemsD] ++ (fun s => [Sl.d 1 strE none s]) v.FKeys
theorem TValue.FItemsD_eq (v : TValue) : v.FItemsD = Sl.d 5 TValue.c none v.FItems := by
 cases v with
 | mk y_Kind y_Int y_Text nl l y_Keys =>
  show D.slice 5 none nl _ = D.slice 5 none nl (l.map TValue.c)
  congr 1
  induction l with
  | nil => rfl
  | cons a r ih => exact congrArg (TValue.c a :: ·) ih
def TValue.zero : TValue := .mk (0 : Int) (0 : Int) ([] : Bs) true [] (Sl.nil : Sl Bs)
structure TArg where
 FName : Bs
 FValue : TValue
noncomputable def TArg.c (x : TArg) : List D := strE x.FName ++ TValue.c x.FValue
def TArg.zero : TArg := ⟨([] : Bs), TValue.zero⟩
structure TDir where
 FName : Bs
 FArgs : (Sl TArg)
noncomputable def TDir.c (x : TDir) : List D := [.str x.FName, Sl.d 6 TArg.c none x.FArgs]
def TDir.zero : TDir := ⟨([] : Bs), (Sl.nil : Sl TArg)⟩
structure TRef where
 FName : Bs
 FWraps : (Sl Int)
noncomputable def TRef.c (x : TRef) : List D := [.str x.FName, Sl.d 1 (intE .i64) none x.FWraps]
def TRef.zero : TRef := ⟨([] : Bs), (Sl.nil : Sl Int)⟩
structure TInput where
 FName : Bs
 FType : TRef
 FHas : Bool
 FDefault : TValue
 FDirs : (Sl TDir)
noncomputable def TInput.c (x : TInput) : List D := strE x.FName ++ TRef.c x.FType ++ boolE x.FHas ++ TValue.c x.FDefault ++ (fun s => [Sl.d 2 TDir.c none s]) x.FDirs
def TInput.zero : TInput := ⟨([] : Bs), TRef.zero, false, TValue.zero, (Sl.nil : Sl TDir)⟩
structure TField where
 FName : Bs
 FArgs : (Sl TInput)
 FType : TRef
 FDirs : (Sl TDir)
noncomputable def TField.c (x : TField) : List D := strE x.FName ++ (fun s => [Sl.d 10 TInput.c none s]) x.FArgs ++ TRef.c x.FType ++ (fun s => [Sl.d 2 TDir.c none s]) x.FDirs
def TField.zero : TField := ⟨([] : Bs), (Sl.nil : Sl TInput), TRef.zero, (Sl.nil : Sl TDir)⟩
structure TMember where
 FName : Bs
 FDirs : (Sl TDir)
noncomputable def TMember.c (x : TMember) : List D := [.str x.FName, Sl.d 2 TDir.c none x.FDirs]
def TMember.zero : TMember := ⟨([] : Bs), (Sl.nil : Sl TDir)⟩
structure TDef where
 FKind : Int
 FName : Bs
 FImplements : (Sl Bs)
 FDirs : (Sl TDir)
 FFields : (Sl TField)
 FMembers : (Sl TMember)
 FInputs : (Sl TInput)
noncomputable def TDef.c (x : TDef) : List D := [.int .i64 x.FKind, .str x.FName, Sl.d 1 strE none x.FImplements, Sl.d 2 TDir.c none x.FDirs, Sl.d 5 TField.c none x.FFields, Sl.d 2 TMember.c none x.FMembers, Sl.d 10 TInput.c none x.FInputs]
def TDef.zero : TDef := ⟨(0 : Int), ([] : Bs), (Sl.nil : Sl Bs), (Sl.nil : Sl TDir), (Sl.nil : Sl TField), (Sl.nil : Sl TMember), (Sl.nil : Sl TInput)⟩
structure TDoc where
 FDefs : (Sl TDef)
noncomputable def TDoc.c (x : TDoc) : List D := [Sl.d 7 TDef.c none x.FDefs]
def TDoc.zero : TDoc := ⟨(Sl.nil : Sl TDef)⟩
structure TVar where
 FName : Bs
 FType : TRef
 FHas : Bool
 FDefault : TValue
noncomputable def TVar.c (x : TVar) : List D := strE x.FName ++ TRef.c x.FType ++ boolE x.FHas ++ TValue.c x.FDefault
def TVar.zero : TVar := ⟨([] : Bs), TRef.zero, false, TValue.zero⟩
inductive TSel where
 | mk (FKind : Int) (FAlias : Bs) (FName : Bs) (FOn : Bs) (FArgs : (Sl TArg)) (FDirs : (Sl TDir)) (FSels_nl : Bool) (FSels_l : List TSel)
def TSel.FKind : TSel → Int | .mk x _ _ _ _ _ _ _ => x
def TSel.FAlias : TSel → Bs | .mk _ x _ _ _ _ _ _ => x
def TSel.FName : TSel → Bs | .mk _ _ x _ _ _ _ _ => x
def TSel.FOn : TSel → Bs | .mk _ _ _ x _ _ _ _ => x
def TSel.FArgs : TSel → (Sl TArg) | .mk _ _ _ _ x _ _ _ => x
def TSel.FDirs : TSel → (Sl TDir) | .mk _ _ _ _ _ x _ _ => x
def TSel.FSels : TSel → (Sl TSel) | .mk _ _ _ _ _ _ nl l => ⟨nl, l⟩
noncomputable def TSel.FSelsD : TSel → D := @TSel.rec (fun _ => D) (fun _ => List (List D)) (fun _ _ _ _ _ _ nl _ ih => .slice 7 none nl ih) [] (fun v _ ih ihl => ((intE .i64) v.FKind ++ strE v.FAlias ++ strE v.FName ++ strE v.FOn ++ (fun s => [Sl.d 6 TArg.c none s]) v.FArgs ++ (fun s => [Sl.d 2 TDir.c none s]) v.FDirs ++ [ih]) :: ihl)
noncomputable def TSel.c (v : TSel) : List D := (intE .i64) v.FKind ++ strE v.FAlias ++ strE v.FName ++ strE v.FOn ++ (fun s => [Sl.d 6 TArg.c none s]) v.FArgs ++ (fun s => [Sl.d 2 TDir.c none s]) v.FDirs ++ [v.FSelsD]
theorem TSel.FSelsD_eq (v : TSel) : v.FSelsD = Sl.d 7 TSel.c none v.FSels := by
 cases v with
 | mk y_Kind y_Alias y_Name y_On y_Args y_Dirs nl l =>
  show D.slice 7 none nl _ = D.slice 7 none nl (l.map TSel.c)
  congr 1
  induction l with
  | nil => rfl
  | cons a r ih => exact congrArg (TSel.c a :: ·) ih
def TSel.zero : TSel := .mk (0 : Int) ([] : Bs) ([] : Bs) ([] : Bs) (Sl.nil : Sl TArg) (Sl.nil : Sl TDir) true []
structure TOp where
 FKind : Int
 FName : Bs
 FVars : (Sl TVar)
 FSels : (Sl TSel)
noncomputable def TOp.c (x : TOp) : List D := [.int .i64 x.FKind, .str x.FName, Sl.d 9 TVar.c none x.FVars, Sl.d 7 TSel.c none x.FSels]
def TOp.zero : TOp := ⟨(0 : Int), ([] : Bs), (Sl.nil : Sl TVar), (Sl.nil : Sl TSel)⟩
structure TFrag where
 FName : Bs
 FOn : Bs
 FSels : (Sl TSel)
noncomputable def TFrag.c (x : TFrag) : List D := [.str x.FName, .str x.FOn, Sl.d 7 TSel.c none x.FSels]
def TFrag.zero : TFrag := ⟨([] : Bs), ([] : Bs), (Sl.nil : Sl TSel)⟩
structure TQuery where
 FOps : (Sl TOp)
 FFrags : (Sl TFrag)
noncomputable def TQuery.c (x : TQuery) : List D := [Sl.d 4 TOp.c none x.FOps, Sl.d 3 TFrag.c none x.FFrags]
def TQuery.zero : TQuery := ⟨(Sl.nil : Sl TOp), (Sl.nil : Sl TFrag)⟩
structure Usage_recorder where
 Fd : TDoc
 Fq : TQuery
 Fout : (Sl TUse)
noncomputable def Usage_recorder.c (x : Usage_recorder) : List D := TDoc.c x.Fd ++ TQuery.c x.Fq ++ (fun s => [Sl.d 4 TUse.c none s]) x.Fout
def Usage_recorder.zero : Usage_recorder := ⟨TDoc.zero, TQuery.zero, (Sl.nil : Sl TUse)⟩
noncomputable def Usage_recorder.cg (t2 : Option Nat) (x : Usage_recorder) : List D := TDoc.c x.Fd ++ TQuery.c x.Fq ++ [Sl.d 4 TUse.c t2 x.Fout]
end Go.Proofs

namespace Go.Proofs
open Go Go.Ab Go.RowKit
section
variable {H : Type} {B : DataW H → Nat} (hB : Bulk B)
noncomputable def TUse.sz (x : TUse) : Nat := Bs.sz x.FType + (Bs.sz x.FField + (Bs.sz x.FArg + ((fun _ => 1) x.FCount + (0))))
def TUse.wf (x : TUse) : Prop := (fun _ => True) x.FType ∧ ((fun _ => True) x.FField ∧ ((fun _ => True) x.FArg ∧ (i64 x.FCount ∧ (True))))
include hB in
theorem rd_TUse_28 : ∀ N, RdN Try.prog B N 28 TUse.c TUse.sz TUse.wf := RdA.struct hB (Try.tab_ok 28 _ rfl) rfl (fun N_ => (RdP.cons (n := 4) (o := 0) (o' := 1) (Try.tab_ok 9 _ rfl) rfl ((RdS.str hB (Try.tab_ok 9 _ rfl) rfl) N_) (RdP.cons (n := 4) (o := 1) (o' := 2) (Try.tab_ok 9 _ rfl) rfl ((RdS.str hB (Try.tab_ok 9 _ rfl) rfl) N_) (RdP.cons (n := 4) (o := 2) (o' := 3) (Try.tab_ok 9 _ rfl) rfl ((RdS.str hB (Try.tab_ok 9 _ rfl) rfl) N_) (RdP.cons (n := 4) (o := 3) (o' := 4) (Try.tab_ok 3 _ rfl) rfl ((RdS.int hB (Try.tab_ok 3 _ rfl) rfl) N_) (RdP.nil (n := 4))))))) (fun a => (⟨a.1, a.2.1, a.2.2.1, a.2.2.2.1⟩ : TUse)) (fun _ => rfl) (fun _ => Nat.le_refl _) (fun _ h => h)
end
theorem TUse.sz_def (x : TUse) : x.sz = 0 + Bs.sz x.FType + Bs.sz x.FField + Bs.sz x.FArg + 1 := by
 unfold TUse.sz; try dsimp only
 omega
theorem TUse.pos (x : TUse) : 1 ≤ x.sz := by
 rw [TUse.sz_def]; have := Bs.sz_pos x.FType; omega
theorem TUse.FCount_wf {x : TUse} (h : x.wf) : i64 x.FCount := h.2.2.2.1
end Go.Proofs

namespace Go.Proofs
open Go Go.Ab
open AOps Cert AWp
theorem eqt_28 : eqTab Try.prog 28 = some [.str, .str, .str, .int .i64] := by kernel_rfl
def Z14_j8   : Option Bool := some true
def Z14_l11 (a0 : (Sl TUse)) (a1 : (Sl TUse))  : Nat → Nat → Option Bool
 | 0, _ => none
 | n11 + 1, s5_12 => bif (decide (((s5_12 : Nat) : Int) < ((a0.l.length : Nat) : Int))) then ((a0.l[s5_12]?).bind fun x19 => (a1.l[s5_12]?).bind fun x20 => bif (!((x19.FType == x20.FType) && ((x19.FField == x20.FField) && ((x19.FArg == x20.FArg) && (decide (x19.FCount = x20.FCount) && true))))) then (some false) else ((Z14_l11 a0 a1 n11) (s5_12 + 1))) else (Z14_j8   )
def Z14 (a0 : (Sl TUse)) (a1 : (Sl TUse)) : Option Bool := bif (!decide (((a0.l.length : Nat) : Int) = ((a1.l.length : Nat) : Int))) then (some false) else (Z14_l11 a0 a1 (a0.l.length + 1) 0)
theorem Z14_walk {a0 : (Sl TUse)} {a1 : (Sl TUse)} {w0 : Option Nat} {w1 : Option Nat}  {r : Bool} (hE : Z14 a0 a1 = some r) (H : Heap)  : ACalls Try.prog 6 [.d (Sl.d 4 TUse.c w0 a0), .d (Sl.d 4 TUse.c w1 a1)] H fun v h' => v = .a (.d (.bool r)) ∧ h' = H := by
 unfold Z14 at hE
 refine ACalls.of_wp (fn := Try.f6) (c := _) Try.tab_ok (fun _ _ => Try.call6 _ _) Try.func6 rfl (n := 26) rfl (rs := [.tmp 4]) rfl rfl ?_
 refine seqK fun K1 hK1 => ?_
 refine region ?_
 refine s0 assignA rfl ?_
 refine nil ?_
 refine hK1 _ ?_
 clear hK1 K1
 refine seqK fun K2 hK2 => ?_
 refine seqK fun K3 hK3 => ?_
 refine region ?_
 refine s0 moveA rfl ?_
 refine sLen (f := TUse.c) (s := a0) (TK rfl) rfl rfl rfl rfl fun hL4 => ?_
 refine s0 moveA rfl ?_
 refine sLen (f := TUse.c) (s := a1) (TK rfl) rfl rfl rfl rfl fun hL5 => ?_
 refine s0 (binI rfl rfl rfl) rfl ?_
 refine nil ?_
 refine hK3 _ ?_
 clear hK3 K3
 refine condE hE rfl (fun hc6 hE => ?_) (fun hc6 hE => ?_)
 ·refine seqK fun K7 hK7 => ?_
  refine region ?_
  refine s0 assignA rfl ?_
  refine nil ?_
  refine hK7 _ ?_
  clear hK7 K7
  refine AWp.ret ?_
  repeat (first | refine xBlock_ret ?_ | refine xThen_ret ?_)
  obtain rfl := Option.some.inj hE
  refine retQ.retF H rfl ⟨rfl, rfl⟩ ?_
  exact (fun _ _ h => h)
 refine AWp.skip ?_
 refine hK2 _ ?_
 clear hK2 K2
 refine seqJH KeepsT.nil (fun (z : Unit) => []) (fun z => H) (fun z => Z14_j8  = some r) ?_ ?_
 ·intro K8 hK8
  refine seqK fun K10 hK10 => ?_
  refine region ?_
  refine s0 assignA rfl ?_
  refine nil ?_
  refine hK10 _ ?_
  clear hK10 K10
  refine block ?_
  refine loopH (KeepsT.A (k := 0) (KeepsT.A (k := 1) KeepsT.nil)) (fun (z : Nat × Nat) => [(5, .a (.d (.int .i64 ((z.2 : Nat) : Int))))]) (fun z => H) (fun z => z.1) (fun z => Z14_l11 a0 a1 z.1 z.2 = some r) ((a0.l.length + 1), 0) hE Weak.toA ?_
  rintro ⟨n11, s5_12⟩ hE K11 hK11
  try dsimp only at hE
  cases n11 with
  | zero => cases hE
  | succ n11 =>
    rw [Z14_l11] at hE
    refine seqK fun K13 hK13 => ?_
    refine seqK fun K14 hK14 => ?_
    refine region ?_
    refine s0 moveA rfl ?_
    refine s0 moveA rfl ?_
    refine sLen (f := TUse.c) (s := a0) (TK rfl) rfl rfl rfl rfl fun hL15 => ?_
    refine s0 (binI rfl rfl rfl) rfl ?_
    refine nil ?_
    refine hK14 _ ?_
    clear hK14 K14
    refine condE hE rfl (fun hc16 hE => ?_) (fun hc16 hE => ?_)
    ·try dsimp only at hc16
     have hf16 := of_decide_eq_true hc16
     refine AWp.skip ?_
     refine hK13 _ ?_
     clear hK13 K13
     refine seqK fun K17 hK17 => ?_
     refine block ?_
     refine seqK fun K18 hK18 => ?_
     refine AWp.draw rfl ?_
     refine DOps.s0 moveA rfl ?_
     refine DOps.s0 moveA rfl ?_
     obtain ⟨x19, gx19, hE⟩ := bindO_some hE
     refine DOps.s0 (idxMn (f := TUse.c) (n := s5_12) (TK rfl) rfl (TK rfl) rfl rfl rfl gx19) rfl ?_
     refine DOps.s0 (loadV (TK rfl) rfl rfl rfl) rfl ?_
     refine DOps.s0 moveA rfl ?_
     refine DOps.s0 moveA rfl ?_
     obtain ⟨x20, gx20, hE⟩ := bindO_some hE
     refine DOps.s0 (idxMn (f := TUse.c) (n := s5_12) (TK rfl) rfl (TK rfl) rfl rfl rfl gx20) rfl ?_
     refine DOps.s0 (loadV (TK rfl) rfl rfl rfl) rfl ?_
     refine DOps.s0 (neStruct eqt_28 rfl rfl rfl rfl) rfl ?_
     refine DOps.nil (by decide +kernel) ?_
     refine hK18 _ ?_
     clear hK18 K18
     refine condE hE rfl (fun hc21 hE => ?_) (fun hc21 hE => ?_)
     ·refine seqK fun K22 hK22 => ?_
      refine region ?_
      refine s0 assignA rfl ?_
      refine nil ?_
      refine hK22 _ ?_
      clear hK22 K22
      refine AWp.ret ?_
      repeat (first | refine xBlock_ret ?_ | refine xThen_ret ?_)
      obtain rfl := Option.some.inj hE
      refine retQ.retF H rfl ⟨rfl, rfl⟩ ?_
      exact (fun _ _ h => h)
     refine AWp.skip ?_
     refine hK17 _ ?_
     clear hK17 K17
     refine region ?_
     refine s0 moveA rfl ?_
     refine s0 (addIA rfl rfl) rfl ?_
     refine s0 assignA rfl ?_
     refine nil ?_
     exact hK11 _ (n11, (s5_12 + 1)) Weak.toA hE (Nat.lt_succ_self _)
    refine AWp.exit ?_
    exact hK8 _ () Weak.toA hE
 rintro _ hE
 try dsimp only at hE
 unfold Z14_j8 at hE
 refine seqK fun K9 hK9 => ?_
 refine region ?_
 refine s0 assignA rfl ?_
 refine nil ?_
 refine hK9 _ ?_
 clear hK9 K9
 refine AWp.ret ?_
 repeat (first | refine xBlock_ret ?_ | refine xThen_ret ?_)
 obtain rfl := Option.some.inj hE
 refine retQ.retF H rfl ⟨rfl, rfl⟩ ?_
 exact (fun _ _ h => h)
def Z25 (a0 : (Sl TUse)) : Option (Sl TUse) := bif a0.nl then (some (Sl.nil : Sl TUse)) else ((appC 56 (⟨false, []⟩ : Sl TUse) a0).bind fun x7 => some x7)
theorem Z25_arr {a0 : (Sl TUse)} {w0 : Option Nat}  {ar0 : Nat} {r : (Sl TUse)} (hE : Z25 a0 = some r) (H : Heap) (har0 : H ar0 = some (.arr 4 []))  : ACalls Try.prog 15 [.d (Sl.d 4 TUse.c w0 a0)] H fun v h' => v = .a (.d (.arr 4 ar0 r.nl r.l.length)) ∧ h' = H.set ar0 (some (.arr 4 (r.l.map TUse.c))) := by
 unfold Z25 at hE
 refine ACalls.of_wp (fn := Try.f15) (c := _) Try.tab_ok (fun _ _ => Try.call15 _ _) Try.func15 rfl (n := 8) rfl (rs := [.tmp 2]) rfl rfl ?_
 refine AWp.heqA (h' := (H.set ar0 (some (.arr 4 [])))) (by funext n_; simp only [Heap.set]; (repeat' split) <;> simp_all) ?_
 refine seqK fun K1 hK1 => ?_
 refine region ?_
 refine s0 (assignNil (k' := 4) rfl) rfl ?_
 refine AOps.nilR 2 4 ar0 rfl hpG ?_
 refine nil ?_
 refine hK1 _ ?_
 clear hK1 K1
 refine seqK fun K2 hK2 => ?_
 refine seqK fun K3 hK3 => ?_
 refine region ?_
 refine s0 moveA rfl ?_
 refine s0 (eqNil (TK rfl) rfl rfl) rfl ?_
 refine nil ?_
 refine hK3 _ ?_
 clear hK3 K3
 refine condE hE rfl (fun hc4 hE => ?_) (fun hc4 hE => ?_)
 ·refine seqK fun K5 hK5 => ?_
  refine region ?_
  refine s0 (assignNil (k' := 4) rfl) rfl ?_
  refine AOps.nilR 2 4 ar0 rfl hpG ?_
  refine nil ?_
  refine hK5 _ ?_
  clear hK5 K5
  refine AWp.ret ?_
  repeat (first | refine xBlock_ret ?_ | refine xThen_ret ?_)
  obtain rfl := Option.some.inj hE
  refine retQ.retF (H.set ar0 (some (.arr 4 []))) rfl ⟨rfl, rfl⟩ ?_
  exact (fun _ _ h => h)
 refine AWp.skip ?_
 refine hK2 _ ?_
 clear hK2 K2
 refine seqK fun K6 hK6 => ?_
 refine region ?_
 refine s0 (buildSliceF (TK rfl) rfl (TK rfl) rfl rfl rfl rfl rfl rfl) rfl ?_
 refine AOps.fullR 5 4 ar0 rfl hpG ?_
 refine s0 moveA rfl ?_
 obtain ⟨x7, gx7, hE⟩ := bindO_some hE
 refine sH (appR (f := TUse.c) (s := (⟨false, []⟩ : Sl TUse)) (TK rfl) rfl (TK rfl) (TK rfl) ⟨_, rfl⟩ rfl rfl rfl rfl rfl rfl hpG (by first | rfl | simp [Sl.setL, Sl.nil, sortL_len]) rfl gx7) rfl ?_
 refine AOps.heq (h' := (H.set ar0 (some (.arr 4 (x7.l.map TUse.c))))) (by first | rfl | (rw [Heap.set_set]; rfl) | (funext n_; simp only [Heap.set]; (repeat' split) <;> first | rfl | (exfalso; simp_all; done) | (simp_all; done))) ?_
 refine s0 assignA rfl ?_
 refine nil ?_
 refine hK6 _ ?_
 clear hK6 K6
 refine AWp.ret ?_
 repeat (first | refine xBlock_ret ?_ | refine xThen_ret ?_)
 obtain rfl := Option.some.inj hE
 refine retQ.retF (H.set ar0 (some (.arr 4 (x7.l.map TUse.c)))) rfl ⟨rfl, rfl⟩ ?_
 exact (fun _ _ h => h)
instance : Inhabited TUse := ⟨TUse.zero⟩
def Try.lay16_ren : Go.Shelf.Ren := ⟨fun | 6 => 16 | 15 => 29 | 14 => 28 | 28 => 50 | 29 => 51 | 20 => 42 | 21 => 43 | 22 => 44 | 23 => 45 | 24 => 46 | 25 => 47 | 26 => 48 | 27 => 49 | 46 => 58 | 47 => 59 | 48 => 60 | 49 => 61 | 50 => 62 | 57 => 68 | n => n, fun | 22 => 22 | 24 => 28 | 25 => 44 | 3 => 3 | 39 => 92 | 0 => 0 | 53 => 117 | 55 => 119 | 4 => 4 | 46 => 110 | 45 => 109 | 50 => 114 | 5 => 5 | 9 => 9 | 66 => 127 | 70 => 131 | 76 => 136 | 77 => 137 | n => n, fun | n => n⟩
theorem Try.lay16 : Go.Proofs.SlLaysF0.n6 Try.prog Try.lay16_ren := {
 mixed := by kernel_rfl
 f6 := ⟨Try.f16.name, by decide, Try.func16.trans (congrArg some (by kernel_rfl))⟩
 f14 := ⟨Try.f28.name, by decide, Try.func28.trans (congrArg some (by kernel_rfl))⟩
 f15 := Try.func29.trans (congrArg some (by kernel_rfl))
 f20 := ⟨Try.f42.name, by decide, Try.func42.trans (congrArg some (by kernel_rfl))⟩
 f21 := ⟨Try.f43.name, by decide, Try.func43.trans (congrArg some (by kernel_rfl))⟩
 f22 := ⟨Try.f44.name, by decide, Try.func44.trans (congrArg some (by kernel_rfl))⟩
 f23 := ⟨Try.f45.name, by decide, Try.func45.trans (congrArg some (by kernel_rfl))⟩
 f24 := ⟨Try.f46.name, by decide, Try.func46.trans (congrArg some (by kernel_rfl))⟩
 f25 := ⟨Try.f47.name, by decide, Try.func47.trans (congrArg some (by kernel_rfl))⟩
 f26 := ⟨Try.f48.name, by decide, Try.func48.trans (congrArg some (by kernel_rfl))⟩
 f27 := ⟨Try.f49.name, by decide, Try.func49.trans (congrArg some (by kernel_rfl))⟩
 f28 := Try.func50.trans (congrArg some (by kernel_rfl))
 f29 := Try.func51.trans (congrArg some (by kernel_rfl))
 f46 := ⟨Try.f58.name, by decide, Try.func58.trans (congrArg some (by kernel_rfl))⟩
 f47 := Try.func59.trans (congrArg some (by kernel_rfl))
 f48 := Try.func60.trans (congrArg some (by kernel_rfl))
 f49 := ⟨Try.f61.name, by decide, Try.func61.trans (congrArg some (by kernel_rfl))⟩
 f50 := ⟨Try.f62.name, by decide, Try.func62.trans (congrArg some (by kernel_rfl))⟩
 f57 := ⟨Try.f68.name, by decide, Try.func68.trans (congrArg some (by kernel_rfl))⟩
 t0 := Try.underlying0
 a0 := Try.isAgg0
 z0 := Try.sizeOf0
 v0 := Try.zeroValue0
 t3 := Try.underlying3
 a3 := Try.isAgg3
 z3 := Try.sizeOf3
 v3 := Try.zeroValue3
 t4 := Try.underlying4
 a4 := Try.isAgg4
 z4 := Try.sizeOf4
 v4 := Try.zeroValue4
 t5 := Try.underlying5
 a5 := Try.isAgg5
 z5 := Try.sizeOf5
 v5 := Try.zeroValue5
 t9 := Try.underlying9
 a9 := Try.isAgg9
 z9 := Try.sizeOf9
 v9 := Try.zeroValue9
 t22 := Try.underlying22
 a22 := Try.isAgg22
 z22 := Try.sizeOf22
 v22 := Try.zeroValue22
 t25 := Try.underlying44
 a25 := Try.isAgg44
 z25 := Try.sizeOf44
 v25 := Try.zeroValue44
 t39 := Try.underlying92
 a39 := Try.isAgg92
 z39 := Try.sizeOf92
 v39 := Try.zeroValue92
 t45 := Try.underlying109
 a45 := Try.isAgg109
 z45 := Try.sizeOf109
 v45 := Try.zeroValue109
 t46 := Try.underlying110
 a46 := Try.isAgg110
 z46 := Try.sizeOf110
 v46 := Try.zeroValue110
 t50 := Try.underlying114
 a50 := Try.isAgg114
 z50 := Try.sizeOf114
 v50 := Try.zeroValue114
 t53 := Try.underlying117
 a53 := Try.isAgg117
 z53 := Try.sizeOf117
 v53 := Try.zeroValue117
 t55 := Try.underlying119
 a55 := Try.isAgg119
 z55 := Try.sizeOf119
 v55 := Try.zeroValue119
 t66 := Try.underlying127
 a66 := Try.isAgg127
 z66 := Try.sizeOf127
 v66 := Try.zeroValue127
 t70 := Try.underlying131
 a70 := Try.isAgg131
 z70 := Try.sizeOf131
 v70 := Try.zeroValue131
 t76 := Try.underlying136
 a76 := Try.isAgg136
 z76 := Try.sizeOf136
 v76 := Try.zeroValue136
 t77 := Try.underlying137
 a77 := Try.isAgg137
 z77 := Try.sizeOf137
 v77 := Try.zeroValue137 }
theorem Z31_sc : ∀ x, ∀ d, d ∈ TUse.c x → IsScal d := by
 intro x d hd
 simp only [TUse.c, strE, boolE, intE, List.mem_append, List.mem_cons, List.not_mem_nil, or_false] at hd
 rcases hd with rfl | rfl | rfl | rfl <;> first | exact .inl ⟨_, rfl⟩ | exact .inr (.inl ⟨_, _, rfl⟩) | exact .inr (.inr ⟨_, rfl⟩)
theorem Z31_walk {s : Sl TUse} {f : TUse → TUse → Option Int} {g : Nat} (ht : ∀ x y, ∃ z, f x y = some z) (hO : Go.Sort.SWO (Go.Proofs.ltOf (cmpO f))) (hw : ∀ {x y : TUse} {r : Int}, f x y = some r → ∀ H, ACalls Try.prog g [.agg (TUse.c x), .agg (TUse.c y)] H fun v h' => v = .a (.d (.int .i64 r)) ∧ h' = H)
  {H : Heap} {id m : Nat} {nl : Bool} (hH : H id = some (.arr 4 (s.l.map TUse.c))) (hm : m = s.l.length) : ACalls Try.prog 16 [.d (.arr 4 id nl m), .d (.func g [])] H fun r h' => r = .tup [] ∧ h' = H.set id (some (.arr 4 ((sortL TUse.c f s).l.map TUse.c))) :=
 sortL_calls Try.lay16 Try.isAgg28 Try.sizeOf28 (fun _ => rfl) Z31_sc (by kernel_rfl) ht hO hw hH hm rfl
def Z1_j3   : Option Int := some (0 : Int)
def Z1_l7 (a0 : (Sl Int))  : Nat → Nat → Option Int
 | 0, _ => none
 | n7 + 1, s8_8 => bif (decide (((s8_8 : Nat) : Int) < ((a0.l.length : Nat) : Int))) then ((a0.l[s8_8]?).bind fun x14 => bif (!decide (x14 = (0 : Int))) then (some x14) else ((Z1_l7 a0 n7) (s8_8 + 1))) else (Z1_j3   )
def Z1 (a0 : (Sl Int)) : Option Int := Z1_l7 a0 (a0.l.length + 1) 0
theorem Z1_walk {a0 : (Sl Int)} {w0 : Option Nat}  {r : Int} (hE : Z1 a0 = some r) (H : Heap)  : ACalls Try.prog 18 [.d (Sl.d 1 (intE .i64) w0 a0)] H fun v h' => v = .a (.d (.int .i64 r)) ∧ h' = H := by
 unfold Z1 at hE
 refine ACalls.of_wp (fn := Try.f18) (c := _) Try.tab_ok (fun _ _ => Try.call18 _ _) Try.func18 rfl (n := 18) rfl (rs := [.tmp 2]) rfl rfl ?_
 refine seqK fun K1 hK1 => ?_
 refine region ?_
 refine s0 assignA rfl ?_
 refine nil ?_
 refine hK1 _ ?_
 clear hK1 K1
 refine seqK fun K2 hK2 => ?_
 refine region ?_
 refine s0 assignA rfl ?_
 refine nil ?_
 refine hK2 _ ?_
 clear hK2 K2
 refine seqJH (KeepsT.A (k := 3) KeepsT.nil) (fun (z : Unit) => []) (fun z => H) (fun z => Z1_j3  = some r) ?_ ?_
 ·intro K3 hK3
  refine seqK fun K5 hK5 => ?_
  refine region ?_
  refine s0 moveA rfl ?_
  refine sLen (f := (intE .i64)) (s := a0) (TK rfl) rfl rfl rfl rfl fun hL6 => ?_
  refine s0 moveA rfl ?_
  refine nil ?_
  refine hK5 _ ?_
  clear hK5 K5
  refine block ?_
  refine loopH (KeepsT.A (k := 3) (KeepsT.A (k := 6) (KeepsT.A (k := 7) KeepsT.nil))) (fun (z : Nat × Nat) => [(8, .a (.d (.int .i64 ((z.2 : Nat) : Int))))]) (fun z => H) (fun z => z.1) (fun z => Z1_l7 a0 z.1 z.2 = some r) ((a0.l.length + 1), 0) hE Weak.toA ?_
  rintro ⟨n7, s8_8⟩ hE K7 hK7
  try dsimp only at hE
  cases n7 with
  | zero => cases hE
  | succ n7 =>
    rw [Z1_l7] at hE
    refine seqK fun K9 hK9 => ?_
    refine region ?_
    refine s0 (binI rfl rfl rfl) rfl ?_
    refine nil ?_
    refine hK9 _ ?_
    clear hK9 K9
    refine seqK fun K10 hK10 => ?_
    refine condE hE rfl (fun hc11 hE => ?_) (fun hc11 hE => ?_)
    ·try dsimp only at hc11
     have hf11 := of_decide_eq_true hc11
     refine AWp.skip ?_
     refine hK10 _ ?_
     clear hK10 K10
     refine seqK fun K12 hK12 => ?_
     refine block ?_
     refine seqK fun K13 hK13 => ?_
     refine region ?_
     obtain ⟨x14, gx14, hE⟩ := bindO_some hE
     refine s0 (idxMn (f := (intE .i64)) (n := s8_8) (TK rfl) rfl (TK rfl) rfl rfl rfl gx14) rfl ?_
     refine s0 (loadV (TK rfl) rfl rfl rfl) rfl ?_
     refine s0 assignA rfl ?_
     refine nil ?_
     refine hK13 _ ?_
     clear hK13 K13
     refine seqK fun K15 hK15 => ?_
     refine region ?_
     refine s0 moveA rfl ?_
     refine s0 moveA rfl ?_
     refine s0 (binI rfl rfl rfl) rfl ?_
     refine nil ?_
     refine hK15 _ ?_
     clear hK15 K15
     refine condE hE rfl (fun hc16 hE => ?_) (fun hc16 hE => ?_)
     ·refine seqK fun K17 hK17 => ?_
      refine region ?_
      refine s0 moveA rfl ?_
      refine s0 assignA rfl ?_
      refine nil ?_
      refine hK17 _ ?_
      clear hK17 K17
      refine AWp.ret ?_
      repeat (first | refine xBlock_ret ?_ | refine xThen_ret ?_)
      obtain rfl := Option.some.inj hE
      refine retQ.retF H rfl ⟨rfl, rfl⟩ ?_
      exact (fun _ _ h => h)
     refine AWp.skip ?_
     refine hK12 _ ?_
     clear hK12 K12
     refine region ?_
     refine s0 (addIA rfl rfl) rfl ?_
     refine s0 moveA rfl ?_
     refine nil ?_
     exact hK7 _ (n7, (s8_8 + 1)) Weak.toA hE (Nat.lt_succ_self _)
    refine AWp.exit ?_
    exact hK3 _ () Weak.toA hE
 rintro _ hE
 try dsimp only at hE
 unfold Z1_j3 at hE
 refine seqK fun K4 hK4 => ?_
 refine region ?_
 refine s0 moveA rfl ?_
 refine s0 assignA rfl ?_
 refine nil ?_
 refine hK4 _ ?_
 clear hK4 K4
 refine AWp.ret ?_
 repeat (first | refine xBlock_ret ?_ | refine xThen_ret ?_)
 obtain rfl := Option.some.inj hE
 refine retQ.retF H rfl ⟨rfl, rfl⟩ ?_
 exact (fun _ _ h => h)
def Z2 (a0 : Bs) : Option Bool := some (!(a0 == a0))
theorem Z2_walk {a0 : Bs}   {r : Bool} (hE : Z2 a0 = some r) (H : Heap)  : ACalls Try.prog 30 [.d (.str a0)] H fun v h' => v = .a (.d (.bool r)) ∧ h' = H := by
 unfold Z2 at hE
 refine ACalls.of_wp (fn := Try.f30) (c := _) Try.tab_ok (fun _ _ => Try.call30 _ _) Try.func30 rfl (n := 6) rfl (rs := [.tmp 2]) rfl rfl ?_
 refine seqK fun K1 hK1 => ?_
 refine region ?_
 refine s0 assignA rfl ?_
 refine nil ?_
 refine hK1 _ ?_
 clear hK1 K1
 refine seqK fun K2 hK2 => ?_
 refine region ?_
 refine s0 moveA rfl ?_
 refine s0 moveA rfl ?_
 refine s0 (binS rfl rfl rfl) rfl ?_
 refine s0 assignA rfl ?_
 refine nil ?_
 refine hK2 _ ?_
 clear hK2 K2
 refine AWp.ret ?_
 repeat (first | refine xBlock_ret ?_ | refine xThen_ret ?_)
 obtain rfl := Option.some.inj hE
 refine retQ.retF H rfl ⟨rfl, rfl⟩ ?_
 exact (fun _ _ h => h)
def Z0 (a0 : Bs) (a1 : Bs) : Option Int := (Z2 a0).bind fun x3 => (Z2 a1).bind fun x5 => bif x3 then (bif x5 then (some (0 : Int)) else (some (-1 : Int))) else (bif x5 then (some (1 : Int)) else (bif (Op.bytesLess a0 a1) then (some (-1 : Int)) else (bif (!(Op.bytesLess a0 a1 || a0 == a1)) then (some (1 : Int)) else (some (0 : Int)))))
theorem Z0_walk {a0 : Bs} {a1 : Bs}   {r : Int} (hE : Z0 a0 a1 = some r) (H : Heap)  : ACalls Try.prog 19 [.d (.str a0), .d (.str a1)] H fun v h' => v = .a (.d (.int .i64 r)) ∧ h' = H := by
 unfold Z0 at hE
 refine ACalls.of_wp (fn := Try.f19) (c := _) Try.tab_ok (fun _ _ => Try.call19 _ _) Try.func19 rfl (n := 20) rfl (rs := [.tmp 4]) rfl rfl ?_
 refine seqK fun K1 hK1 => ?_
 refine region ?_
 refine s0 assignA rfl ?_
 refine nil ?_
 refine hK1 _ ?_
 clear hK1 K1
 refine seqK fun K2 hK2 => ?_
 refine region ?_
 refine s0 moveA rfl ?_
 obtain ⟨x3, gx3, hE⟩ := bindO_some hE
 refine s0 (callP rfl rfl (fun H => Z2_walk gx3 H)) rfl ?_
 refine s0 assignA rfl ?_
 refine nil ?_
 refine hK2 _ ?_
 clear hK2 K2
 refine seqK fun K4 hK4 => ?_
 refine region ?_
 refine s0 moveA rfl ?_
 obtain ⟨x5, gx5, hE⟩ := bindO_some hE
 refine s0 (callP rfl rfl (fun H => Z2_walk gx5 H)) rfl ?_
 refine s0 assignA rfl ?_
 refine nil ?_
 refine hK4 _ ?_
 clear hK4 K4
 refine seqK fun K6 hK6 => ?_
 refine seqK fun K7 hK7 => ?_
 refine region ?_
 refine s0 moveA rfl ?_
 refine nil ?_
 refine hK7 _ ?_
 clear hK7 K7
 refine condE hE rfl (fun hc8 hE => ?_) (fun hc8 hE => ?_)
 ·refine seqK fun K9 hK9 => ?_
  refine seqK fun K10 hK10 => ?_
  refine region ?_
  refine s0 moveA rfl ?_
  refine nil ?_
  refine hK10 _ ?_
  clear hK10 K10
  refine condE hE rfl (fun hc11 hE => ?_) (fun hc11 hE => ?_)
  ·refine seqK fun K12 hK12 => ?_
   refine region ?_
   refine s0 assignA rfl ?_
   refine nil ?_
   refine hK12 _ ?_
   clear hK12 K12
   refine AWp.ret ?_
   repeat (first | refine xBlock_ret ?_ | refine xThen_ret ?_)
   obtain rfl := Option.some.inj hE
   refine retQ.retF H rfl ⟨rfl, rfl⟩ ?_
   exact (fun _ _ h => h)
  refine AWp.skip ?_
  refine hK9 _ ?_
  clear hK9 K9
  refine seqK fun K13 hK13 => ?_
  refine region ?_
  refine s0 assignA rfl ?_
  refine nil ?_
  refine hK13 _ ?_
  clear hK13 K13
  refine AWp.ret ?_
  repeat (first | refine xBlock_ret ?_ | refine xThen_ret ?_)
  obtain rfl := Option.some.inj hE
  refine retQ.retF H rfl ⟨rfl, rfl⟩ ?_
  exact (fun _ _ h => h)
 refine AWp.skip ?_
 refine hK6 _ ?_
 clear hK6 K6
 refine seqK fun K14 hK14 => ?_
 refine seqK fun K15 hK15 => ?_
 refine region ?_
 refine s0 moveA rfl ?_
 refine nil ?_
 refine hK15 _ ?_
 clear hK15 K15
 refine condE hE rfl (fun hc16 hE => ?_) (fun hc16 hE => ?_)
 ·refine seqK fun K17 hK17 => ?_
  refine region ?_
  refine s0 assignA rfl ?_
  refine nil ?_
  refine hK17 _ ?_
  clear hK17 K17
  refine AWp.ret ?_
  repeat (first | refine xBlock_ret ?_ | refine xThen_ret ?_)
  obtain rfl := Option.some.inj hE
  refine retQ.retF H rfl ⟨rfl, rfl⟩ ?_
  exact (fun _ _ h => h)
 refine AWp.skip ?_
 refine hK14 _ ?_
 clear hK14 K14
 refine seqK fun K18 hK18 => ?_
 refine seqK fun K19 hK19 => ?_
 refine region ?_
 refine s0 moveA rfl ?_
 refine s0 moveA rfl ?_
 refine s0 (binS rfl rfl rfl) rfl ?_
 refine nil ?_
 refine hK19 _ ?_
 clear hK19 K19
 refine condE hE rfl (fun hc20 hE => ?_) (fun hc20 hE => ?_)
 ·refine seqK fun K21 hK21 => ?_
  refine region ?_
  refine s0 assignA rfl ?_
  refine nil ?_
  refine hK21 _ ?_
  clear hK21 K21
  refine AWp.ret ?_
  repeat (first | refine xBlock_ret ?_ | refine xThen_ret ?_)
  obtain rfl := Option.some.inj hE
  refine retQ.retF H rfl ⟨rfl, rfl⟩ ?_
  exact (fun _ _ h => h)
 refine AWp.skip ?_
 refine hK18 _ ?_
 clear hK18 K18
 refine seqK fun K22 hK22 => ?_
 refine seqK fun K23 hK23 => ?_
 refine region ?_
 refine s0 moveA rfl ?_
 refine s0 moveA rfl ?_
 refine s0 (binS rfl rfl rfl) rfl ?_
 refine nil ?_
 refine hK23 _ ?_
 clear hK23 K23
 refine condE hE rfl (fun hc24 hE => ?_) (fun hc24 hE => ?_)
 ·refine seqK fun K25 hK25 => ?_
  refine region ?_
  refine s0 assignA rfl ?_
  refine nil ?_
  refine hK25 _ ?_
  clear hK25 K25
  refine AWp.ret ?_
  repeat (first | refine xBlock_ret ?_ | refine xThen_ret ?_)
  obtain rfl := Option.some.inj hE
  refine retQ.retF H rfl ⟨rfl, rfl⟩ ?_
  exact (fun _ _ h => h)
 refine AWp.skip ?_
 refine hK22 _ ?_
 clear hK22 K22
 refine seqK fun K26 hK26 => ?_
 refine region ?_
 refine s0 assignA rfl ?_
 refine nil ?_
 refine hK26 _ ?_
 clear hK26 K26
 refine AWp.ret ?_
 repeat (first | refine xBlock_ret ?_ | refine xThen_ret ?_)
 obtain rfl := Option.some.inj hE
 refine retQ.retF H rfl ⟨rfl, rfl⟩ ?_
 exact (fun _ _ h => h)
def Z42 (a0 : TUse) (a1 : TUse) : Option Int := (Z0 a0.FType a1.FType).bind fun x3 => (Z0 a0.FField a1.FField).bind fun x4 => (Z0 a0.FArg a1.FArg).bind fun x5 => (Z1 (⟨false, [x3, x4, x5]⟩ : Sl Int)).bind fun x6 => some x6
theorem Z42_walk {a0 : TUse} {a1 : TUse}   {r : Int} (hE : Z42 a0 a1 = some r) (H : Heap)  : ACalls Try.prog 17 [.agg (TUse.c a0), .agg (TUse.c a1)] H fun v h' => v = .a (.d (.int .i64 r)) ∧ h' = H := by
 unfold Z42 at hE
 refine ACalls.of_wp (fn := Try.f17) (c := _) Try.tab_ok (fun _ _ => Try.call17 _ _) Try.func17 rfl (n := 22) rfl (rs := [.tmp 4]) rfl rfl ?_
 refine seqK fun K1 hK1 => ?_
 refine region ?_
 refine s0 (boxV rfl) rfl ?_
 refine s0 (boxV rfl) rfl ?_
 refine s0 assignA rfl ?_
 refine nil ?_
 refine hK1 _ ?_
 clear hK1 K1
 refine seqK fun K2 hK2 => ?_
 refine AWp.draw rfl ?_
 refine DOps.s0 (fieldVA (TK rfl) rfl rfl (TK rfl) rfl rfl) rfl ?_
 refine DOps.s0 (loadV (TK rfl) rfl rfl rfl) rfl ?_
 refine DOps.s0 (fieldVA (TK rfl) rfl rfl (TK rfl) rfl rfl) rfl ?_
 refine DOps.s0 (loadV (TK rfl) rfl rfl rfl) rfl ?_
 obtain ⟨x3, gx3, hE⟩ := bindO_some hE
 refine DOps.s0 (callP rfl rfl (fun H => Z0_walk gx3 H)) rfl ?_
 refine DOps.s0 (fieldVA (TK rfl) rfl rfl (TK rfl) rfl rfl) rfl ?_
 refine DOps.s0 (loadV (TK rfl) rfl rfl rfl) rfl ?_
 refine DOps.s0 (fieldVA (TK rfl) rfl rfl (TK rfl) rfl rfl) rfl ?_
 refine DOps.s0 (loadV (TK rfl) rfl rfl rfl) rfl ?_
 obtain ⟨x4, gx4, hE⟩ := bindO_some hE
 refine DOps.s0 (callP rfl rfl (fun H => Z0_walk gx4 H)) rfl ?_
 refine DOps.s0 (fieldVA (TK rfl) rfl rfl (TK rfl) rfl rfl) rfl ?_
 refine DOps.s0 (loadV (TK rfl) rfl rfl rfl) rfl ?_
 refine DOps.s0 (fieldVA (TK rfl) rfl rfl (TK rfl) rfl rfl) rfl ?_
 refine DOps.s0 (loadV (TK rfl) rfl rfl rfl) rfl ?_
 obtain ⟨x5, gx5, hE⟩ := bindO_some hE
 refine DOps.s0 (callP rfl rfl (fun H => Z0_walk gx5 H)) rfl ?_
 refine DOps.s0 (buildSlice (TK rfl) rfl (TK rfl) rfl rfl rfl rfl rfl rfl) rfl ?_
 obtain ⟨x6, gx6, hE⟩ := bindO_some hE
 refine DOps.s0 (callP rfl rfl (fun H => Z1_walk gx6 H)) rfl ?_
 refine DOps.s0 assignA rfl ?_
 refine DOps.nil (by decide +kernel) ?_
 refine hK2 _ ?_
 clear hK2 K2
 refine AWp.ret ?_
 repeat (first | refine xBlock_ret ?_ | refine xThen_ret ?_)
 obtain rfl := Option.some.inj hE
 refine retQ.retF H rfl ⟨rfl, rfl⟩ ?_
 exact (fun _ _ h => h)
theorem bytesLess_lt : ∀ x y : Bs, Op.bytesLess x y = decide (x < y)
 | _, [] => by simp [Op.bytesLess, List.not_lt_nil]
 | [], _ :: _ => by simp [Op.bytesLess, List.nil_lt_cons]
 | a :: x, b :: y => by
  rw [Op.bytesLess, bytesLess_lt x y, Bool.eq_iff_iff]
  simp [List.cons_lt_cons_iff]
def cmpB (a b : Bs) : Int := bif Op.bytesLess a b then -1 else bif !(Op.bytesLess a b || a == b) then 1 else 0
theorem cmp_CompareV (a b : Bs) : Z0 a b = some (cmpB a b) := by
 have h : ∀ s : Bs, Z2 s = some false := fun s => by simp [Z2]
 unfold Z0 cmpB
 rw [h a, h b]
 simp only [Option.bind_some, cond_false]
 cases Op.bytesLess a b <;> cases a == b <;> rfl
theorem cmp_OrV (a b c : Int) : Z1 ⟨false, [a, b, c]⟩ = some (if a ≠ 0 then a else if b ≠ 0 then b else c) := by
 unfold Z1
 simp only [List.length_cons, List.length_nil, Nat.reduceAdd, Z1_l7, Z1_j3]
 by_cases ha : a = 0 <;> by_cases hb : b = 0 <;> by_cases hc : c = 0 <;> simp [ha, hb, hc]
def cmpU (x y : TUse) : Int := if cmpB x.FType y.FType ≠ 0 then cmpB x.FType y.FType else if cmpB x.FField y.FField ≠ 0 then cmpB x.FField y.FField else cmpB x.FArg y.FArg
theorem Z41_1V (x y : TUse) : Z42 x y = some (cmpU x y) := by
 simp only [Z42, cmp_CompareV, Option.bind_some, cmp_OrV, cmpU]
theorem cmpB_spec (a b : Bs) : (cmpB a b < 0 ↔ a < b) ∧ (cmpB a b = 0 ↔ a = b) := by
 unfold cmpB
 rw [bytesLess_lt]
 by_cases h : a < b
 ·have : a ≠ b := fun e => List.lt_irrefl b (e ▸ h)
  simp [h, this]
 by_cases e : a = b
 ·subst e; simp [h]
 have e2 : (a == b) = false := beq_eq_false_iff_ne.2 e
 simp [h, e, e2]
def ltU (x y : TUse) : Prop := x.FType < y.FType ∨ x.FType = y.FType ∧ (x.FField < y.FField ∨ x.FField = y.FField ∧ x.FArg < y.FArg)
theorem cmpU_lt (x y : TUse) : cmpU x y < 0 ↔ ltU x y := by
 unfold cmpU ltU
 have h1 := cmpB_spec x.FType y.FType
 have h2 := cmpB_spec x.FField y.FField
 have h3 := cmpB_spec x.FArg y.FArg
 by_cases e1 : x.FType = y.FType
 ·rw [if_neg (by simp [h1.2.2 e1])]
  by_cases e2 : x.FField = y.FField
  ·rw [if_neg (by simp [h2.2.2 e2]), h3.1]
   simp [e1, e2, List.lt_irrefl]
  rw [if_pos (fun e => e2 (h2.2.1 e)), h2.1]
  simp [e1, e2, List.lt_irrefl]
 rw [if_pos (fun e => e1 (h1.2.1 e)), h1.1]
 simp [e1]
theorem bs_tri (a b : Bs) : a < b ∨ a = b ∨ b < a := by
 by_cases h : a < b
 ·exact .inl h
 by_cases h2 : b < a
 ·exact .inr (.inr h2)
 exact .inr (.inl (List.le_antisymm (List.not_lt.1 h2) (List.not_lt.1 h)))
theorem ltU_trans {x y z : TUse} (h : ltU x y) (h' : ltU y z) : ltU x z := by
 unfold ltU at *
 rcases h with h | ⟨e, h⟩ <;> rcases h' with h' | ⟨e', h'⟩
 ·exact .inl (List.lt_trans h h')
 ·exact .inl (e' ▸ h)
 ·exact .inl (e ▸ h')
 refine .inr ⟨e.trans e', ?_⟩
 rcases h with h | ⟨f, h⟩ <;> rcases h' with h' | ⟨f', h'⟩
 ·exact .inl (List.lt_trans h h')
 ·exact .inl (f' ▸ h)
 ·exact .inl (f ▸ h')
 exact .inr ⟨f.trans f', List.lt_trans h h'⟩
def sameU (x y : TUse) : Prop := x.FType = y.FType ∧ x.FField = y.FField ∧ x.FArg = y.FArg
theorem ltU_tri (x y : TUse) : ltU x y ∨ sameU x y ∨ ltU y x := by
 unfold ltU sameU
 rcases bs_tri x.FType y.FType with h | h | h
 ·exact .inl (.inl h)
 ·rcases bs_tri x.FField y.FField with g | g | g
  ·exact .inl (.inr ⟨h, .inl g⟩)
  ·rcases bs_tri x.FArg y.FArg with k | k | k
   ·exact .inl (.inr ⟨h, .inr ⟨g, k⟩⟩)
   ·exact .inr (.inl ⟨h, g, k⟩)
   exact .inr (.inr (.inr ⟨h.symm, .inr ⟨g.symm, k⟩⟩))
  exact .inr (.inr (.inr ⟨h.symm, .inl g⟩))
 exact .inr (.inr (.inl h))
theorem ltU_irrefl (x : TUse) : ¬ ltU x x := by simp [ltU, List.lt_irrefl]
theorem ltU_same {x y z : TUse} (h : sameU x y) : (ltU x z ↔ ltU y z) ∧ (ltU z x ↔ ltU z y) := by
 obtain ⟨h1, h2, h3⟩ := h
 unfold ltU; rw [h1, h2, h3]; exact ⟨Iff.rfl, Iff.rfl⟩
theorem Z42_tot (x y : TUse) : ∃ z, Z42 x y = some z := ⟨_, Z41_1V x y⟩
theorem Z42_cmp (x y : TUse) : cmpO Z42 x y = cmpU x y := by simp [cmpO, Z41_1V]
theorem Z42_swo : Go.Sort.SWO (Go.Proofs.ltOf (cmpO Z42)) := by
 have key : ∀ x y, Go.Proofs.ltOf (cmpO Z42) x y = decide (cmpU x y < 0) := fun x y => by simp [Go.Proofs.ltOf, Z42_cmp]
 refine ⟨fun x => ?_, fun x y z h h' => ?_, fun x y z h h' => ?_⟩
 ·rw [key]; exact decide_eq_false fun h => ltU_irrefl x ((cmpU_lt _ _).1 h)
 ·rw [key, decide_eq_true_eq, cmpU_lt] at *; exact ltU_trans h h'
 rw [key, decide_eq_false_iff_not, cmpU_lt] at *
 intro hxz
 rcases ltU_tri x y with g | g | g
 ·exact h g
 ·exact h' ((ltU_same g).1.1 hxz)
 exact h' (ltU_trans g hxz)
end Go.Proofs

namespace Go.Proofs
open Go Go.Ab
open AOps Cert AWp
def Z41_j7  (y8_ar1 : (Sl TUse)) : Option (Sl TUse) := some y8_ar1
def Z41_j18 (s14_13 : Nat) (k_next_12 : Nat → (Sl TUse) → Option (Sl TUse)) (y19_ar1 : (Sl TUse)) : Option (Sl TUse) := k_next_12 (s14_13 + 1) y19_ar1
def Z41_l12 (x5 : (Sl TUse))  : Nat → Nat → (Sl TUse) → Option (Sl TUse)
 | 0, _, _ => none
 | n12 + 1, s14_13, y14_ar1 => bif (decide (((s14_13 : Nat) : Int) < ((x5.l.length : Nat) : Int))) then ((x5.l[s14_13]?).bind fun x21 => guardO ((decide ((0 : Int) < ((y14_ar1.l.length : Nat) : Int)))) (subC ((y14_ar1.l.length : Nat) : Int) (1 : Int)) (0 : Int) fun x26 => guardO ((decide ((0 : Int) < ((y14_ar1.l.length : Nat) : Int)))) (idxC y14_ar1.l x26) TUse.zero fun x27 => guardO (((decide ((0 : Int) < ((y14_ar1.l.length : Nat) : Int))) && ((x27.FType == x21.FType)))) (subC ((y14_ar1.l.length : Nat) : Int) (1 : Int)) (0 : Int) fun x28 => guardO (((decide ((0 : Int) < ((y14_ar1.l.length : Nat) : Int))) && ((x27.FType == x21.FType)))) (idxC y14_ar1.l x28) TUse.zero fun x29 => guardO ((((decide ((0 : Int) < ((y14_ar1.l.length : Nat) : Int))) && ((x27.FType == x21.FType))) && ((x29.FField == x21.FField)))) (subC ((y14_ar1.l.length : Nat) : Int) (1 : Int)) (0 : Int) fun x30 => guardO ((((decide ((0 : Int) < ((y14_ar1.l.length : Nat) : Int))) && ((x27.FType == x21.FType))) && ((x29.FField == x21.FField)))) (idxC y14_ar1.l x30) TUse.zero fun x31 => bif ((((decide ((0 : Int) < ((y14_ar1.l.length : Nat) : Int))) && ((x27.FType == x21.FType))) && ((x29.FField == x21.FField))) && ((x31.FArg == x21.FArg))) then ((subC ((y14_ar1.l.length : Nat) : Int) (1 : Int)).bind fun x34 => (idxC y14_ar1.l x34).bind fun x35 => (idxC y14_ar1.l x34).bind fun x36 => Z41_j18 s14_13 ((Z41_l12 x5 n12)) (Sl.setL y14_ar1 x34.toNat (TUse.mk x36.FType x36.FField x36.FArg (IntKind.wrap .i64 (x35.FCount + x21.FCount))))) else ((appC 56 y14_ar1 (⟨false, [x21]⟩ : Sl TUse)).bind fun x37 => Z41_j18 s14_13 ((Z41_l12 x5 n12)) x37)) else (Z41_j7   y14_ar1)
def Z41 (a0 : (Sl TUse)) : Option (Sl TUse) := (Z25 a0).bind fun x3 => (some (sortL TUse.c Z42 x3)).bind fun x5 => Z41_l12 x5 (x5.l.length + 1) 0 (Sl.nil : Sl TUse)
theorem Z41_walk {a0 : (Sl TUse)} {w0 : Option Nat}  {r : (Sl TUse)} (hE : Z41 a0 = some r) (H : Heap)  : ACalls Try.prog 7 [.d (Sl.d 4 TUse.c w0 a0)] H fun v h' => v = .a (.d (Sl.d 4 TUse.c none r)) ∧ h' = H := by
 unfold Z41 at hE
 refine ACalls.of_wp (fn := Try.f7) (c := _) Try.tab_ok (fun _ _ => Try.call7 _ _) Try.func7 rfl (n := 72) rfl (rs := [.tmp 2]) rfl rfl ?_
 refine AWp.arrO 4 fun ar1 har1 => ?_
 refine AWp.arrO 4 fun ar2 har2 => ?_
 obtain ⟨ne_ar2_ar1, har2⟩ := Heap.set_fresh har2
 refine seqK fun K1 hK1 => ?_
 refine region ?_
 refine s0 (assignNil (k' := 4) rfl) rfl ?_
 refine AOps.nilR 2 4 ar1 rfl hpG ?_
 refine nil ?_
 refine hK1 _ ?_
 clear hK1 K1
 refine seqK fun K2 hK2 => ?_
 refine region ?_
 refine s0 moveA rfl ?_
 obtain ⟨x3, gx3, hE⟩ := bindO_some hE
 refine sH (callH rfl rfl (Z25_arr gx3 _ hpG)) rfl ?_
 refine AOps.heq (h' := ((H.set ar1 (some (.arr 4 []))).set ar2 (some (.arr 4 (x3.l.map TUse.c))))) (by first | rfl | (rw [Heap.set_set]; rfl) | (funext n_; simp only [Heap.set]; (repeat' split) <;> first | rfl | (exfalso; simp_all; done) | (simp_all; done))) ?_
 refine s0 assignA rfl ?_
 refine nil ?_
 refine hK2 _ ?_
 clear hK2 K2
 refine seqK fun K4 hK4 => ?_
 refine region ?_
 refine s0 moveA rfl ?_
 obtain ⟨x5, gx5, hE⟩ := bindO_some hE
 have ex5 := Option.some.inj gx5
 refine sH (callH rfl rfl (Z31_walk (s := x3) Z42_tot Z42_swo Z42_walk hpG (by first | rfl | simp [Sl.setL, Sl.nil, sortL_len]))) rfl ?_
 refine AOps.heq (h' := ((H.set ar1 (some (.arr 4 []))).set ar2 (some (.arr 4 (x5.l.map TUse.c))))) (by subst ex5; exact (by first | rfl | (rw [Heap.set_set]; rfl) | (funext n_; simp only [Heap.set]; (repeat' split) <;> first | rfl | (exfalso; simp_all; done) | (simp_all; done)))) ?_
 refine nil ?_
 refine hK4 _ ?_
 clear hK4 K4
 refine AWp.arrEq 3 (nl' := x5.nl) (m' := x5.l.length) rfl (by first | rfl | (simp [Sl.setL, Sl.nil, sortL_len]; done) | (subst_vars; first | rfl | (simp [Sl.setL, Sl.nil, sortL_len]; done))) (by first | rfl | (simp [Sl.setL, Sl.nil, sortL_len]; done) | (subst_vars; first | rfl | (simp [Sl.setL, Sl.nil, sortL_len]; done))) ?_
 refine seqK fun K6 hK6 => ?_
 refine region ?_
 refine s0 (assignNil (k' := 4) rfl) rfl ?_
 refine AOps.nilR 4 4 ar1 rfl hpG ?_
 refine nil ?_
 refine hK6 _ ?_
 clear hK6 K6
 refine seqJH KeepsT.nil (fun (z : (Sl TUse)) => [(4, .a (.d (.arr 4 ar1 z.nl z.l.length)))]) (fun z => ((H.set ar1 (some (.arr 4 (z.l.map TUse.c)))).set ar2 (some (.arr 4 (x5.l.map TUse.c))))) (fun z => Z41_j7 z = some r) ?_ ?_
 ·intro K7 hK7
  refine seqK fun K10 hK10 => ?_
  refine region ?_
  refine s0 moveA rfl ?_
  refine AOps.sLenR (f := TUse.c) (l := x5.l) (TK rfl) rfl rfl rfl hpG (by first | rfl | simp [Sl.setL, Sl.nil, sortL_len]) rfl fun hL11 => ?_
  refine s0 moveA rfl ?_
  refine nil ?_
  refine hK10 _ ?_
  clear hK10 K10
  refine block ?_
  refine loopH (KeepsT.A (k := 12) (KeepsT.A (k := 13) KeepsT.nil)) (fun (z : Nat × Nat × (Sl TUse)) => [(14, .a (.d (.int .i64 ((z.2.1 : Nat) : Int)))), (4, .a (.d (.arr 4 ar1 z.2.2.nl z.2.2.l.length)))]) (fun z => ((H.set ar1 (some (.arr 4 (z.2.2.l.map TUse.c)))).set ar2 (some (.arr 4 (x5.l.map TUse.c))))) (fun z => z.1) (fun z => Z41_l12 x5 z.1 z.2.1 z.2.2 = some r) ((x5.l.length + 1), 0, (Sl.nil : Sl TUse)) hE Weak.toA ?_
  rintro ⟨n12, s14_13, y14_ar1⟩ hE K12 hK12
  try dsimp only at hE
  cases n12 with
  | zero => cases hE
  | succ n12 =>
    rw [Z41_l12] at hE
    refine seqK fun K15 hK15 => ?_
    refine region ?_
    refine s0 (binI rfl rfl rfl) rfl ?_
    refine nil ?_
    refine hK15 _ ?_
    clear hK15 K15
    refine seqK fun K16 hK16 => ?_
    refine condE hE rfl (fun hc17 hE => ?_) (fun hc17 hE => ?_)
    ·try dsimp only at hc17
     have hf17 := of_decide_eq_true hc17
     refine AWp.skip ?_
     refine hK16 _ ?_
     clear hK16 K16
     refine seqJH (KeepsT.A (k := 12) (KeepsT.A (k := 13) (KeepsT.A (k := 14) KeepsT.nil))) (fun (z : (Sl TUse)) => [(4, .a (.d (.arr 4 ar1 z.nl z.l.length)))]) (fun z => ((H.set ar1 (some (.arr 4 (z.l.map TUse.c)))).set ar2 (some (.arr 4 (x5.l.map TUse.c))))) (fun z => Z41_j18 s14_13 ((Z41_l12 x5 n12)) z = some r) ?_ ?_
     ·intro K18 hK18
      refine block ?_
      refine seqK fun K20 hK20 => ?_
      refine region ?_
      obtain ⟨x21, gx21, hE⟩ := bindO_some hE
      refine s0 (idxR (f := TUse.c) (n := s14_13) (TK rfl) rfl (TK rfl) rfl rfl rfl hpG (by first | rfl | simp [Sl.setL, Sl.nil, sortL_len]) gx21) rfl ?_
      refine s0 (loadR (f := TUse.c) (l := x5.l) (i := s14_13) (o := 0) (TK rfl) rfl rfl hpG (by first | rfl | simp [Sl.setL, Sl.nil, sortL_len]) gx21 rfl rfl) rfl ?_
      refine sL (allocLA (TK rfl) rfl) rfl ?_
      refine sLn (storeLFA (TK rfl) rfl rfl rfl rfl rfl) ?_
      refine nil ?_
      refine hK20 _ ?_
      clear hK20 K20
      refine freezeA 6 _ rfl (Keeps.c (k := 4) (by conv => lhs; whnf) (by rfl) (Keeps.c (k := 12) (by conv => lhs; whnf) (by rfl) (Keeps.c (k := 13) (by conv => lhs; whnf) (by rfl) (Keeps.c (k := 14) (by conv => lhs; whnf) (by rfl) Keeps.nil)))) ?_
      refine seqK fun K22 hK22 => ?_
      refine region ?_
      refine s0 moveA rfl ?_
      refine AOps.sLenR (f := TUse.c) (l := y14_ar1.l) (TK rfl) rfl rfl rfl hpG (by first | rfl | simp [Sl.setL, Sl.nil, sortL_len]) rfl fun hL23 => ?_
      refine s0 assignA rfl ?_
      refine nil ?_
      refine hK22 _ ?_
      clear hK22 K22
      refine seqK fun K24 hK24 => ?_
      refine seqK fun K25 hK25 => ?_
      refine AWp.draw rfl ?_
      refine DOps.s0 moveA rfl ?_
      refine DOps.s0 (binI rfl rfl rfl) rfl ?_
      refine DOps.s0 moveA rfl ?_
      refine DOps.gC rfl rfl (fun hC => moveA) rfl ?_
      refine DOps.gC rfl rfl (fun hC => moveA) rfl ?_
      obtain ⟨x26, gx26, hE⟩ := guardO_some hE
      refine DOps.gC rfl rfl (fun hC => ungdA (k := 24) rfl (subM rfl rfl (gx26 hC))) rfl ?_
      obtain ⟨x27, gx27, hE⟩ := guardO_some hE
      refine DOps.gC rfl rfl (fun hC => ungdA (k := 23) rfl (ungdA (k := 25) rfl (idxRi (f := TUse.c) (TK rfl) rfl (TK rfl) rfl rfl rfl hpG (by first | rfl | simp [Sl.setL, Sl.nil, sortL_len]) (gx27 hC)))) rfl ?_
      refine DOps.gC rfl rfl (fun hC => ungdA (k := 26) rfl (fieldR (TK rfl) rfl rfl (TK rfl) rfl rfl)) rfl ?_
      refine DOps.gC rfl rfl (fun hC => ungdA (k := 27) rfl (loadR (f := TUse.c) (l := y14_ar1.l) (i := x26.toNat) (o := 0) (TK rfl) rfl rfl hpG (by first | rfl | simp [Sl.setL, Sl.nil, sortL_len]) (idxC_at (gx27 hC)) rfl rfl)) rfl ?_
      refine DOps.gC rfl rfl (fun hC => fieldVA (TK rfl) rfl rfl (TK rfl) rfl rfl) rfl ?_
      refine DOps.gC rfl rfl (fun hC => ungdA (k := 29) rfl (loadV (TK rfl) rfl rfl rfl)) rfl ?_
      refine DOps.gC rfl rfl (fun hC => ungdA (k := 28) rfl (ungdA (k := 30) rfl (binS rfl rfl rfl))) rfl ?_
      refine DOps.s0 (pickAndA rfl rfl rfl) rfl ?_
      refine DOps.s0 moveA rfl ?_
      refine DOps.gC rfl rfl (fun hC => moveA) rfl ?_
      refine DOps.gC rfl rfl (fun hC => moveA) rfl ?_
      obtain ⟨x28, gx28, hE⟩ := guardO_some hE
      refine DOps.gC rfl rfl (fun hC => ungdA (k := 35) rfl (subM rfl rfl (gx28 hC))) rfl ?_
      obtain ⟨x29, gx29, hE⟩ := guardO_some hE
      refine DOps.gC rfl rfl (fun hC => ungdA (k := 34) rfl (ungdA (k := 36) rfl (idxRi (f := TUse.c) (TK rfl) rfl (TK rfl) rfl rfl rfl hpG (by first | rfl | simp [Sl.setL, Sl.nil, sortL_len]) (gx29 hC)))) rfl ?_
      refine DOps.gC rfl rfl (fun hC => ungdA (k := 37) rfl (fieldR (TK rfl) rfl rfl (TK rfl) rfl rfl)) rfl ?_
      refine DOps.gC rfl rfl (fun hC => ungdA (k := 38) rfl (loadR (f := TUse.c) (l := y14_ar1.l) (i := x28.toNat) (o := 1) (TK rfl) rfl rfl hpG (by first | rfl | simp [Sl.setL, Sl.nil, sortL_len]) (idxC_at (gx29 hC)) rfl rfl)) rfl ?_
      refine DOps.gC rfl rfl (fun hC => fieldVA (TK rfl) rfl rfl (TK rfl) rfl rfl) rfl ?_
      refine DOps.gC rfl rfl (fun hC => ungdA (k := 40) rfl (loadV (TK rfl) rfl rfl rfl)) rfl ?_
      refine DOps.gC rfl rfl (fun hC => ungdA (k := 39) rfl (ungdA (k := 41) rfl (binS rfl rfl rfl))) rfl ?_
      refine DOps.s0 (pickAndA rfl rfl rfl) rfl ?_
      refine DOps.s0 moveA rfl ?_
      refine DOps.gC rfl rfl (fun hC => moveA) rfl ?_
      refine DOps.gC rfl rfl (fun hC => moveA) rfl ?_
      obtain ⟨x30, gx30, hE⟩ := guardO_some hE
      refine DOps.gC rfl rfl (fun hC => ungdA (k := 46) rfl (subM rfl rfl (gx30 hC))) rfl ?_
      obtain ⟨x31, gx31, hE⟩ := guardO_some hE
      refine DOps.gC rfl rfl (fun hC => ungdA (k := 45) rfl (ungdA (k := 47) rfl (idxRi (f := TUse.c) (TK rfl) rfl (TK rfl) rfl rfl rfl hpG (by first | rfl | simp [Sl.setL, Sl.nil, sortL_len]) (gx31 hC)))) rfl ?_
      refine DOps.gC rfl rfl (fun hC => ungdA (k := 48) rfl (fieldR (TK rfl) rfl rfl (TK rfl) rfl rfl)) rfl ?_
      refine DOps.gC rfl rfl (fun hC => ungdA (k := 49) rfl (loadR (f := TUse.c) (l := y14_ar1.l) (i := x30.toNat) (o := 2) (TK rfl) rfl rfl hpG (by first | rfl | simp [Sl.setL, Sl.nil, sortL_len]) (idxC_at (gx31 hC)) rfl rfl)) rfl ?_
      refine DOps.gC rfl rfl (fun hC => fieldVA (TK rfl) rfl rfl (TK rfl) rfl rfl) rfl ?_
      refine DOps.gC rfl rfl (fun hC => ungdA (k := 51) rfl (loadV (TK rfl) rfl rfl rfl)) rfl ?_
      refine DOps.gC rfl rfl (fun hC => ungdA (k := 50) rfl (ungdA (k := 52) rfl (binS rfl rfl rfl))) rfl ?_
      refine DOps.s0 (pickAndA rfl rfl rfl) rfl ?_
      refine DOps.nil (by decide +kernel) ?_
      refine hK25 _ ?_
      clear hK25 K25
      refine condE hE rfl (fun hc32 hE => ?_) (fun hc32 hE => ?_)
      ·refine seqK fun K33 hK33 => ?_
       refine AWp.draw rfl ?_
       refine DOps.s0 moveA rfl ?_
       refine DOps.s0 moveA rfl ?_
       obtain ⟨x34, gx34, hE⟩ := bindO_some hE
       refine DOps.s0 (subM rfl rfl gx34) rfl ?_
       obtain ⟨x35, gx35, hE⟩ := bindO_some hE
       refine DOps.s0 (idxRi (f := TUse.c) (TK rfl) rfl (TK rfl) rfl rfl rfl hpG (by first | rfl | simp [Sl.setL, Sl.nil, sortL_len]) gx35) rfl ?_
       refine DOps.s0 (fieldR (TK rfl) rfl rfl (TK rfl) rfl rfl) rfl ?_
       refine DOps.s0 (loadR (f := TUse.c) (l := y14_ar1.l) (i := x34.toNat) (o := 3) (TK rfl) rfl rfl hpG (by first | rfl | simp [Sl.setL, Sl.nil, sortL_len]) (idxC_at gx35) rfl rfl) rfl ?_
       refine DOps.s0 (fieldVA (TK rfl) rfl rfl (TK rfl) rfl rfl) rfl ?_
       refine DOps.s0 (loadV (TK rfl) rfl rfl rfl) rfl ?_
       refine DOps.s0 (binI rfl rfl rfl) rfl ?_
       obtain ⟨x36, gx36, hE⟩ := bindO_some hE
       refine DOps.s0 (idxRi (f := TUse.c) (TK rfl) rfl (TK rfl) rfl rfl rfl hpG (by first | rfl | simp [Sl.setL, Sl.nil, sortL_len]) gx36) rfl ?_
       refine DOps.s0 (fieldR (TK rfl) rfl rfl (TK rfl) rfl rfl) rfl ?_
       refine DOps.sHn (storeR (f := TUse.c) (l := y14_ar1.l) (i := x34.toNat) (o := 3) (u := x36) (u' := (TUse.mk x36.FType x36.FField x36.FArg (IntKind.wrap .i64 (x35.FCount + x21.FCount)))) (TK rfl) rfl rfl hpG (by first | rfl | simp [Sl.setL, Sl.nil, sortL_len]) (idxC_at gx36) rfl rfl (by decide) rfl rfl) rfl rfl ?_
       refine DOps.heq (h' := ((H.set ar1 (some (.arr 4 ((Sl.setL y14_ar1 x34.toNat (TUse.mk x36.FType x36.FField x36.FArg (IntKind.wrap .i64 (x35.FCount + x21.FCount)))).l.map TUse.c)))).set ar2 (some (.arr 4 (x5.l.map TUse.c))))) (by first | rfl | (rw [Heap.set_set]; rfl) | (funext n_; simp only [Heap.set]; (repeat' split) <;> first | rfl | (exfalso; simp_all; done) | (simp_all; done))) ?_
       refine DOps.nil (by decide +kernel) ?_
       refine hK33 _ ?_
       clear hK33 K33
       refine AWp.arrEq 4 (nl' := (Sl.setL y14_ar1 x34.toNat (TUse.mk x36.FType x36.FField x36.FArg (IntKind.wrap .i64 (x35.FCount + x21.FCount)))).nl) (m' := (Sl.setL y14_ar1 x34.toNat (TUse.mk x36.FType x36.FField x36.FArg (IntKind.wrap .i64 (x35.FCount + x21.FCount)))).l.length) rfl (by first | rfl | (simp [Sl.setL, Sl.nil, sortL_len]; done) | (subst_vars; first | rfl | (simp [Sl.setL, Sl.nil, sortL_len]; done))) (by first | rfl | (simp [Sl.setL, Sl.nil, sortL_len]; done) | (subst_vars; first | rfl | (simp [Sl.setL, Sl.nil, sortL_len]; done))) ?_
       refine AWp.exit ?_
       exact hK18 _ (Sl.setL y14_ar1 x34.toNat (TUse.mk x36.FType x36.FField x36.FArg (IntKind.wrap .i64 (x35.FCount + x21.FCount)))) Weak.toA hE
      refine AWp.skip ?_
      refine hK24 _ ?_
      clear hK24 K24
      refine region ?_
      refine s0 moveA rfl ?_
      refine s0 (loadV (TK rfl) rfl rfl rfl) rfl ?_
      refine s0 (buildSlice (TK rfl) rfl (TK rfl) rfl rfl rfl rfl rfl rfl) rfl ?_
      obtain ⟨x37, gx37, hE⟩ := bindO_some hE
      refine sH (appR (f := TUse.c) (s := y14_ar1) (TK rfl) rfl (TK rfl) (TK rfl) ⟨_, rfl⟩ rfl rfl rfl rfl rfl rfl hpG (by first | rfl | simp [Sl.setL, Sl.nil, sortL_len]) rfl gx37) rfl ?_
      refine AOps.heq (h' := ((H.set ar1 (some (.arr 4 (x37.l.map TUse.c)))).set ar2 (some (.arr 4 (x5.l.map TUse.c))))) (by first | rfl | (rw [Heap.set_set]; rfl) | (funext n_; simp only [Heap.set]; (repeat' split) <;> first | rfl | (exfalso; simp_all; done) | (simp_all; done))) ?_
      refine s0 assignA rfl ?_
      refine nil ?_
      exact hK18 _ x37 Weak.toA hE
     rintro y19_ar1 hE
     try dsimp only at hE
     unfold Z41_j18 at hE
     refine region ?_
     refine s0 (addIA rfl rfl) rfl ?_
     refine s0 moveA rfl ?_
     refine nil ?_
     exact hK12 _ (n12, (s14_13 + 1), y19_ar1) Weak.toA hE (Nat.lt_succ_self _)
    refine AWp.exit ?_
    exact hK7 _ y14_ar1 Weak.toA hE
 rintro y8_ar1 hE
 try dsimp only at hE
 unfold Z41_j7 at hE
 refine seqK fun K9 hK9 => ?_
 refine region ?_
 refine s0 moveA rfl ?_
 refine s0 assignA rfl ?_
 refine nil ?_
 refine hK9 _ ?_
 clear hK9 K9
 refine AWp.frzR 2 ar1 rfl hpG (by first | rfl | (simp [Sl.setL, Sl.nil, sortL_len]; done) | (subst_vars; first | rfl | (simp [Sl.setL, Sl.nil, sortL_len]; done))) ?_
 refine AWp.heqA (h' := (H.set ar2 (some (.arr 4 (x5.l.map TUse.c))))) (by first | rfl | (rw [Heap.set_set]; rfl) | (funext n_; simp only [Heap.set]; (repeat' split) <;> first | rfl | (exfalso; simp_all; done) | (simp_all; done))) ?_
 refine AWp.ret ?_
 repeat (first | refine xBlock_ret ?_ | refine xThen_ret ?_)
 obtain rfl := Option.some.inj hE
 refine retQ.retF H rfl ⟨rfl, rfl⟩ ?_
 first | exact Heap.sub_set har2 | (simp only [Heap.set_set]; exact Heap.sub_set har2)
def Try.lay32_ren : Go.Shelf.Ren := ⟨fun | 4 => 32 | n => n, fun | 22 => 22 | 25 => 28 | 3 => 3 | 4 => 4 | 9 => 9 | 20 => 20 | 0 => 0 | n => n, fun | n => n⟩
theorem Try.lay32 : Go.Proofs.Lays8.n4 Try.prog Try.lay32_ren := {
 mixed := by kernel_rfl
 f4 := ⟨Try.f32.name, by decide, Try.func32.trans (congrArg some (by kernel_rfl))⟩
 t0 := Try.underlying0
 a0 := Try.isAgg0
 z0 := Try.sizeOf0
 v0 := Try.zeroValue0
 t3 := Try.underlying3
 a3 := Try.isAgg3
 z3 := Try.sizeOf3
 v3 := Try.zeroValue3
 t4 := Try.underlying4
 a4 := Try.isAgg4
 z4 := Try.sizeOf4
 v4 := Try.zeroValue4
 t9 := Try.underlying9
 a9 := Try.isAgg9
 z9 := Try.sizeOf9
 v9 := Try.zeroValue9
 t20 := Try.underlying20
 a20 := Try.isAgg20
 z20 := Try.sizeOf20
 v20 := Try.zeroValue20
 t22 := Try.underlying22
 a22 := Try.isAgg22
 z22 := Try.sizeOf22
 v22 := Try.zeroValue22 }
def Z29 (n : Int) : Option (Sl TUse) := if 0 ≤ n ∧ n.toNat * 56 ≤ maxN ∧ n.toNat ≤ maxN then some ⟨decide (n = 0), []⟩ else none
theorem Z29_tok {n : Int} {k0 : Nat} {r : Sl TUse} (hE : Z29 n = some r) (H : Heap) : ACalls Try.prog 32 [.d (.slice k0 none true []), .d (.int .i64 n)] H fun v h' => ∃ tk, H tk = none ∧ v = .a (.d (Sl.d 4 TUse.c (some tk) r)) ∧ h' = H.set tk (some (.tok 4 r.l.length)) := by
 unfold Z29 at hE
 split at hE
 ·rename_i h
  obtain rfl := Option.some.inj hE
  exact grow_calls Try.lay32 (TK rfl) rfl rfl (by decide) h.1 h.2.1 h.2.2 rfl TUse.c H
 cases hE
def Z27_j7  (s6_8 : (Sl TUse)) : Option (Sl TUse) := some s6_8
def Z27_l12 (a0 : (Sl (Sl TUse)))  : Nat → (Sl TUse) → Nat → Option (Sl TUse)
 | 0, _, _ => none
 | n12 + 1, s6_13, s27_14 => bif (decide (((s27_14 : Nat) : Int) < ((a0.l.length : Nat) : Int))) then ((a0.l[s27_14]?).bind fun x20 => (appC 56 s6_13 x20).bind fun x21 => (Z27_l12 a0 n12) x21 (s27_14 + 1)) else (Z27_j7   s6_13)
def Z27_j3 (a0 : (Sl (Sl TUse)))  (s3_4 : Int) : Option (Sl TUse) := (Z29 s3_4).bind fun x6 => Z27_l12 a0 (a0.l.length + 1) x6 0
def Z27_j30 (s11_26 : Nat) (k_next_24 : Int → Nat → Option (Sl TUse)) (s3_31 : Int) : Option (Sl TUse) := k_next_24 s3_31 (s11_26 + 1)
def Z27_l24 (a0 : (Sl (Sl TUse)))  : Nat → Int → Nat → Option (Sl TUse)
 | 0, _, _ => none
 | n24 + 1, s3_25, s11_26 => bif (decide (((s11_26 : Nat) : Int) < ((a0.l.length : Nat) : Int))) then ((a0.l[s11_26]?).bind fun x33 => (addC s3_25 ((x33.l.length : Nat) : Int)).bind fun x36 => bif (decide (x36 < (0 : Int))) then (none) else (Z27_j30 s11_26 ((Z27_l24 a0 n24)) x36)) else (Z27_j3 a0  s3_25)
def Z27 (a0 : (Sl (Sl TUse))) : Option (Sl TUse) := Z27_l24 a0 (a0.l.length + 1) (0 : Int) 0
theorem Z27_walk {a0 : (Sl (Sl TUse))} {w0 : Option Nat}  {r : (Sl TUse)} (hE : Z27 a0 = some r) (H : Heap)  : ACalls Try.prog 21 [.d (Sl.d 1 (fun s => [Sl.d 4 TUse.c none s]) w0 a0)] H fun v h' => v = .a (.d (Sl.d 4 TUse.c none r)) ∧ h' = H := by
 unfold Z27 at hE
 refine ACalls.of_wp (fn := Try.f21) (c := _) Try.tab_ok (fun _ _ => Try.call21 _ _) Try.func21 rfl (n := 36) rfl (rs := [.tmp 2]) rfl rfl ?_
 refine seqK fun K1 hK1 => ?_
 refine region ?_
 refine s0 (assignNil (k' := 4) rfl) rfl ?_
 refine nil ?_
 refine hK1 _ ?_
 clear hK1 K1
 refine seqK fun K2 hK2 => ?_
 refine region ?_
 refine s0 assignA rfl ?_
 refine nil ?_
 refine hK2 _ ?_
 clear hK2 K2
 refine seqJH (KeepsT.A (k := 0) KeepsT.nil) (fun (z : Int) => [(3, .a (.d (.int .i64 z)))]) (fun z => H) (fun z => Z27_j3 a0 z = some r) ?_ ?_
 ·intro K3 hK3
  refine seqK fun K22 hK22 => ?_
  refine region ?_
  refine s0 moveA rfl ?_
  refine sLen (f := (fun s => [Sl.d 4 TUse.c none s])) (s := a0) (TK rfl) rfl rfl rfl rfl fun hL23 => ?_
  refine s0 moveA rfl ?_
  refine nil ?_
  refine hK22 _ ?_
  clear hK22 K22
  refine block ?_
  refine loopH (KeepsT.A (k := 0) (KeepsT.A (k := 9) (KeepsT.A (k := 10) KeepsT.nil))) (fun (z : Nat × Int × Nat) => [(3, .a (.d (.int .i64 z.2.1))), (11, .a (.d (.int .i64 ((z.2.2 : Nat) : Int))))]) (fun z => H) (fun z => z.1) (fun z => Z27_l24 a0 z.1 z.2.1 z.2.2 = some r) ((a0.l.length + 1), (0 : Int), 0) hE Weak.toA ?_
  rintro ⟨n24, s3_25, s11_26⟩ hE K24 hK24
  try dsimp only at hE
  cases n24 with
  | zero => cases hE
  | succ n24 =>
    rw [Z27_l24] at hE
    refine seqK fun K27 hK27 => ?_
    refine region ?_
    refine s0 (binI rfl rfl rfl) rfl ?_
    refine nil ?_
    refine hK27 _ ?_
    clear hK27 K27
    refine seqK fun K28 hK28 => ?_
    refine condE hE rfl (fun hc29 hE => ?_) (fun hc29 hE => ?_)
    ·try dsimp only at hc29
     have hf29 := of_decide_eq_true hc29
     refine AWp.skip ?_
     refine hK28 _ ?_
     clear hK28 K28
     refine seqJH (KeepsT.A (k := 0) (KeepsT.A (k := 9) (KeepsT.A (k := 10) (KeepsT.A (k := 11) KeepsT.nil)))) (fun (z : Int) => [(3, .a (.d (.int .i64 z)))]) (fun z => H) (fun z => Z27_j30 s11_26 ((Z27_l24 a0 n24)) z = some r) ?_ ?_
     ·intro K30 hK30
      refine block ?_
      refine seqK fun K32 hK32 => ?_
      refine region ?_
      obtain ⟨x33, gx33, hE⟩ := bindO_some hE
      refine s0 (idxMn (f := (fun s => [Sl.d 4 TUse.c none s])) (n := s11_26) (TK rfl) rfl (TK rfl) rfl rfl rfl gx33) rfl ?_
      refine s0 (loadV (TK rfl) rfl rfl rfl) rfl ?_
      refine s0 assignA rfl ?_
      refine nil ?_
      refine hK32 _ ?_
      clear hK32 K32
      refine seqK fun K34 hK34 => ?_
      refine region ?_
      refine s0 moveA rfl ?_
      refine s0 moveA rfl ?_
      refine sLen (f := TUse.c) (s := x33) (TK rfl) rfl rfl rfl rfl fun hL35 => ?_
      obtain ⟨x36, gx36, hE⟩ := bindO_some hE
      refine s0 (addM rfl rfl gx36) rfl ?_
      refine s0 assignA rfl ?_
      refine nil ?_
      refine hK34 _ ?_
      clear hK34 K34
      refine seqK fun K37 hK37 => ?_
      refine region ?_
      refine s0 moveA rfl ?_
      refine s0 (binI rfl rfl rfl) rfl ?_
      refine nil ?_
      refine hK37 _ ?_
      clear hK37 K37
      refine condE hE rfl (fun hc38 hE => ?_) (fun hc38 hE => ?_)
      ·cases hE
      refine AWp.skip ?_
      exact hK30 _ x36 Weak.toA hE
     rintro s3_31 hE
     try dsimp only at hE
     unfold Z27_j30 at hE
     refine region ?_
     refine s0 (addIA rfl rfl) rfl ?_
     refine s0 moveA rfl ?_
     refine nil ?_
     exact hK24 _ (n24, s3_31, (s11_26 + 1)) Weak.toA hE (Nat.lt_succ_self _)
    refine AWp.exit ?_
    exact hK3 _ s3_25 Weak.toA hE
 rintro s3_4 hE
 try dsimp only at hE
 unfold Z27_j3 at hE
 refine seqK fun K5 hK5 => ?_
 refine region ?_
 refine s0 moveA rfl ?_
 obtain ⟨x6, gx6, hE⟩ := bindO_some hE
 refine sE (StepE.call rfl rfl (Z29_tok gx6 _)) rfl (fun _ _ _ ⟨⟨tk1, htk1, e1, e2⟩, e3⟩ => ?_); subst e1 e2 e3
 refine s0 assignA rfl ?_
 refine nil ?_
 refine hK5 _ ?_
 clear hK5 K5
 refine seqJH KeepsT.nil (fun (z : (Sl TUse)) => [(6, .a (.d (Sl.d 4 TUse.c (some tk1) z)))]) (fun z => (H.set tk1 (some (.tok 4 z.l.length)))) (fun z => Z27_j7 z = some r) ?_ ?_
 ·intro K7 hK7
  refine seqK fun K10 hK10 => ?_
  refine region ?_
  refine s0 moveA rfl ?_
  refine sLen (f := (fun s => [Sl.d 4 TUse.c none s])) (s := a0) (TK rfl) rfl rfl rfl rfl fun hL11 => ?_
  refine s0 moveA rfl ?_
  refine nil ?_
  refine hK10 _ ?_
  clear hK10 K10
  refine block ?_
  refine loopH (KeepsT.A (k := 25) (KeepsT.A (k := 26) KeepsT.nil)) (fun (z : Nat × (Sl TUse) × Nat) => [(6, .a (.d (Sl.d 4 TUse.c (some tk1) z.2.1))), (27, .a (.d (.int .i64 ((z.2.2 : Nat) : Int))))]) (fun z => (H.set tk1 (some (.tok 4 z.2.1.l.length)))) (fun z => z.1) (fun z => Z27_l12 a0 z.1 z.2.1 z.2.2 = some r) ((a0.l.length + 1), x6, 0) hE Weak.toA ?_
  rintro ⟨n12, s6_13, s27_14⟩ hE K12 hK12
  try dsimp only at hE
  cases n12 with
  | zero => cases hE
  | succ n12 =>
    rw [Z27_l12] at hE
    refine seqK fun K15 hK15 => ?_
    refine region ?_
    refine s0 (binI rfl rfl rfl) rfl ?_
    refine nil ?_
    refine hK15 _ ?_
    clear hK15 K15
    refine seqK fun K16 hK16 => ?_
    refine condE hE rfl (fun hc17 hE => ?_) (fun hc17 hE => ?_)
    ·try dsimp only at hc17
     have hf17 := of_decide_eq_true hc17
     refine AWp.skip ?_
     refine hK16 _ ?_
     clear hK16 K16
     refine seqK fun K18 hK18 => ?_
     refine block ?_
     refine seqK fun K19 hK19 => ?_
     refine region ?_
     obtain ⟨x20, gx20, hE⟩ := bindO_some hE
     refine s0 (idxMn (f := (fun s => [Sl.d 4 TUse.c none s])) (n := s27_14) (TK rfl) rfl (TK rfl) rfl rfl rfl gx20) rfl ?_
     refine s0 (loadV (TK rfl) rfl rfl rfl) rfl ?_
     refine s0 assignA rfl ?_
     refine nil ?_
     refine hK19 _ ?_
     clear hK19 K19
     refine region ?_
     refine s0 moveA rfl ?_
     refine s0 moveA rfl ?_
     obtain ⟨x21, gx21, hE⟩ := bindO_some hE
     refine sH (appM (f := TUse.c) (TK rfl) rfl (TK rfl) (TK rfl) ⟨_, rfl⟩ rfl rfl (by decide) rfl rfl rfl rfl hpG rfl gx21) rfl ?_
     refine AOps.heq (h' := (H.set tk1 (some (.tok 4 x21.l.length)))) (by first | rfl | (rw [Heap.set_set]; rfl) | (funext n_; simp only [Heap.set]; (repeat' split) <;> first | rfl | (exfalso; simp_all; done) | (simp_all; done))) ?_
     refine s0 assignA rfl ?_
     refine nil ?_
     refine hK18 _ ?_
     clear hK18 K18
     refine region ?_
     refine s0 (addIA rfl rfl) rfl ?_
     refine s0 moveA rfl ?_
     refine nil ?_
     exact hK12 _ (n12, x21, (s27_14 + 1)) Weak.toA hE (Nat.lt_succ_self _)
    refine AWp.exit ?_
    exact hK7 _ s6_13 Weak.toA hE
 rintro s6_8 hE
 try dsimp only at hE
 unfold Z27_j7 at hE
 refine seqK fun K9 hK9 => ?_
 refine region ?_
 refine s0 moveA rfl ?_
 refine s0 assignA rfl ?_
 refine nil ?_
 refine hK9 _ ?_
 clear hK9 K9
 refine AWp.dropTok 2 rfl ?_
 refine AWp.ret ?_
 repeat (first | refine xBlock_ret ?_ | refine xThen_ret ?_)
 obtain rfl := Option.some.inj hE
 refine retQ.retF H rfl ⟨rfl, rfl⟩ ?_
 first | exact Heap.sub_set htk1 | (simp only [Heap.set_set]; exact Heap.sub_set htk1)
def Z38 (a0 : (Sl TUse)) (a1 : (Sl TUse)) : Option (Sl TUse) := (Z27 (⟨false, [a0, a1]⟩ : Sl (Sl TUse))).bind fun x3 => (Z41 x3).bind fun x4 => some x4
theorem Z38_walk {a0 : (Sl TUse)} {a1 : (Sl TUse)} {w0 : Option Nat} {w1 : Option Nat}  {r : (Sl TUse)} (hE : Z38 a0 a1 = some r) (H : Heap)  : ACalls Try.prog 9 [.d (Sl.d 4 TUse.c w0 a0), .d (Sl.d 4 TUse.c w1 a1)] H fun v h' => v = .a (.d (Sl.d 4 TUse.c none r)) ∧ h' = H := by
 unfold Z38 at hE
 refine ACalls.of_wp (fn := Try.f9) (c := _) Try.tab_ok (fun _ _ => Try.call9 _ _) Try.func9 rfl (n := 10) rfl (rs := [.tmp 4]) rfl rfl ?_
 refine seqK fun K1 hK1 => ?_
 refine region ?_
 refine s0 (assignNil (k' := 4) rfl) rfl ?_
 refine nil ?_
 refine hK1 _ ?_
 clear hK1 K1
 refine seqK fun K2 hK2 => ?_
 refine region ?_
 refine s0 moveA rfl ?_
 refine s0 moveA rfl ?_
 refine AOps.dropTok 5 rfl ?_
 refine AOps.dropTok 6 rfl ?_
 refine s0 (buildSlice (TK rfl) rfl (TK rfl) rfl rfl rfl rfl rfl rfl) rfl ?_
 obtain ⟨x3, gx3, hE⟩ := bindO_some hE
 refine s0 (callP rfl rfl (fun H => Z27_walk gx3 H)) rfl ?_
 obtain ⟨x4, gx4, hE⟩ := bindO_some hE
 refine s0 (callP rfl rfl (fun H => Z41_walk gx4 H)) rfl ?_
 refine s0 assignA rfl ?_
 refine nil ?_
 refine hK2 _ ?_
 clear hK2 K2
 refine AWp.ret ?_
 repeat (first | refine xBlock_ret ?_ | refine xThen_ret ?_)
 obtain rfl := Option.some.inj hE
 refine retQ.retF H rfl ⟨rfl, rfl⟩ ?_
 exact (fun _ _ h => h)
def Z39_j3  (s9_4 : Int) : Option Int := some s9_4
def Z39_j14 (s14_10 : Nat) (k_next_8 : Int → Nat → Option Int) (s9_15 : Int) : Option Int := k_next_8 s9_15 (s14_10 + 1)
def Z39_l8 (a0 : (Sl TUse)) (a1 : Bs) (a2 : Bs) (a3 : Bs)  : Nat → Int → Nat → Option Int
 | 0, _, _ => none
 | n8 + 1, s9_9, s14_10 => bif (decide (((s14_10 : Nat) : Int) < ((a0.l.length : Nat) : Int))) then ((a0.l[s14_10]?).bind fun x17 => bif ((((x17.FType == a1)) && ((x17.FField == a2))) && ((x17.FArg == a3))) then (Z39_j14 s14_10 ((Z39_l8 a0 a1 a2 a3 n8)) (IntKind.wrap .i64 (s9_9 + x17.FCount))) else (Z39_j14 s14_10 ((Z39_l8 a0 a1 a2 a3 n8)) s9_9)) else (Z39_j3   s9_9)
def Z39 (a0 : (Sl TUse)) (a1 : Bs) (a2 : Bs) (a3 : Bs) : Option Int := Z39_l8 a0 a1 a2 a3 (a0.l.length + 1) (0 : Int) 0
theorem Z39_walk {a0 : (Sl TUse)} {a1 : Bs} {a2 : Bs} {a3 : Bs} {w0 : Option Nat}  {r : Int} (hE : Z39 a0 a1 a2 a3 = some r) (H : Heap)  : ACalls Try.prog 11 [.d (Sl.d 4 TUse.c w0 a0), .d (.str a1), .d (.str a2), .d (.str a3)] H fun v h' => v = .a (.d (.int .i64 r)) ∧ h' = H := by
 unfold Z39 at hE
 refine ACalls.of_wp (fn := Try.f11) (c := _) Try.tab_ok (fun _ _ => Try.call11 _ _) Try.func11 rfl (n := 40) rfl (rs := [.tmp 8]) rfl rfl ?_
 refine seqK fun K1 hK1 => ?_
 refine region ?_
 refine s0 assignA rfl ?_
 refine nil ?_
 refine hK1 _ ?_
 clear hK1 K1
 refine seqK fun K2 hK2 => ?_
 refine region ?_
 refine s0 assignA rfl ?_
 refine nil ?_
 refine hK2 _ ?_
 clear hK2 K2
 refine seqJH KeepsT.nil (fun (z : Int) => [(9, .a (.d (.int .i64 z)))]) (fun z => H) (fun z => Z39_j3 z = some r) ?_ ?_
 ·intro K3 hK3
  refine seqK fun K6 hK6 => ?_
  refine region ?_
  refine s0 moveA rfl ?_
  refine sLen (f := TUse.c) (s := a0) (TK rfl) rfl rfl rfl rfl fun hL7 => ?_
  refine s0 moveA rfl ?_
  refine nil ?_
  refine hK6 _ ?_
  clear hK6 K6
  refine block ?_
  refine loopH (KeepsT.A (k := 1) (KeepsT.A (k := 2) (KeepsT.A (k := 3) (KeepsT.A (k := 12) (KeepsT.A (k := 13) KeepsT.nil))))) (fun (z : Nat × Int × Nat) => [(9, .a (.d (.int .i64 z.2.1))), (14, .a (.d (.int .i64 ((z.2.2 : Nat) : Int))))]) (fun z => H) (fun z => z.1) (fun z => Z39_l8 a0 a1 a2 a3 z.1 z.2.1 z.2.2 = some r) ((a0.l.length + 1), (0 : Int), 0) hE Weak.toA ?_
  rintro ⟨n8, s9_9, s14_10⟩ hE K8 hK8
  try dsimp only at hE
  cases n8 with
  | zero => cases hE
  | succ n8 =>
    rw [Z39_l8] at hE
    refine seqK fun K11 hK11 => ?_
    refine region ?_
    refine s0 (binI rfl rfl rfl) rfl ?_
    refine nil ?_
    refine hK11 _ ?_
    clear hK11 K11
    refine seqK fun K12 hK12 => ?_
    refine condE hE rfl (fun hc13 hE => ?_) (fun hc13 hE => ?_)
    ·try dsimp only at hc13
     have hf13 := of_decide_eq_true hc13
     refine AWp.skip ?_
     refine hK12 _ ?_
     clear hK12 K12
     refine seqJH (KeepsT.A (k := 1) (KeepsT.A (k := 2) (KeepsT.A (k := 3) (KeepsT.A (k := 12) (KeepsT.A (k := 13) (KeepsT.A (k := 14) KeepsT.nil)))))) (fun (z : Int) => [(9, .a (.d (.int .i64 z)))]) (fun z => H) (fun z => Z39_j14 s14_10 ((Z39_l8 a0 a1 a2 a3 n8)) z = some r) ?_ ?_
     ·intro K14 hK14
      refine block ?_
      refine seqK fun K16 hK16 => ?_
      refine region ?_
      obtain ⟨x17, gx17, hE⟩ := bindO_some hE
      refine s0 (idxMn (f := TUse.c) (n := s14_10) (TK rfl) rfl (TK rfl) rfl rfl rfl gx17) rfl ?_
      refine s0 (loadV (TK rfl) rfl rfl rfl) rfl ?_
      refine sL (allocLA (TK rfl) rfl) rfl ?_
      refine sLn (storeLFA (TK rfl) rfl rfl rfl rfl rfl) ?_
      refine nil ?_
      refine hK16 _ ?_
      clear hK16 K16
      refine freezeA 11 _ rfl (Keeps.c (k := 1) (by conv => lhs; whnf) (by rfl) (Keeps.c (k := 2) (by conv => lhs; whnf) (by rfl) (Keeps.c (k := 3) (by conv => lhs; whnf) (by rfl) (Keeps.c (k := 9) (by conv => lhs; whnf) (by rfl) (Keeps.c (k := 12) (by conv => lhs; whnf) (by rfl) (Keeps.c (k := 13) (by conv => lhs; whnf) (by rfl) (Keeps.c (k := 14) (by conv => lhs; whnf) (by rfl) Keeps.nil))))))) ?_
      refine seqK fun K18 hK18 => ?_
      refine region ?_
      refine s0 (fieldVA (TK rfl) rfl rfl (TK rfl) rfl rfl) rfl ?_
      refine s0 (loadV (TK rfl) rfl rfl rfl) rfl ?_
      refine s0 moveA rfl ?_
      refine s0 (binS rfl rfl rfl) rfl ?_
      refine s0 moveA rfl ?_
      refine gC rfl rfl (fun hC => fieldVA (TK rfl) rfl rfl (TK rfl) rfl rfl) rfl ?_
      refine gC rfl rfl (fun hC => ungdA (k := 23) rfl (loadV (TK rfl) rfl rfl rfl)) rfl ?_
      refine gC rfl rfl (fun hC => moveA) rfl ?_
      refine gC rfl rfl (fun hC => ungdA (k := 24) rfl (ungdA (k := 25) rfl (binS rfl rfl rfl))) rfl ?_
      refine s0 (pickAndA rfl rfl rfl) rfl ?_
      refine s0 moveA rfl ?_
      refine gC rfl rfl (fun hC => fieldVA (TK rfl) rfl rfl (TK rfl) rfl rfl) rfl ?_
      refine gC rfl rfl (fun hC => ungdA (k := 29) rfl (loadV (TK rfl) rfl rfl rfl)) rfl ?_
      refine gC rfl rfl (fun hC => moveA) rfl ?_
      refine gC rfl rfl (fun hC => ungdA (k := 30) rfl (ungdA (k := 31) rfl (binS rfl rfl rfl))) rfl ?_
      refine s0 (pickAndA rfl rfl rfl) rfl ?_
      refine nil ?_
      refine hK18 _ ?_
      clear hK18 K18
      refine condE hE rfl (fun hc19 hE => ?_) (fun hc19 hE => ?_)
      ·refine region ?_
       refine s0 moveA rfl ?_
       refine s0 (fieldVA (TK rfl) rfl rfl (TK rfl) rfl rfl) rfl ?_
       refine s0 (loadV (TK rfl) rfl rfl rfl) rfl ?_
       refine s0 (binI rfl rfl rfl) rfl ?_
       refine s0 assignA rfl ?_
       refine nil ?_
       exact hK14 _ (IntKind.wrap .i64 (s9_9 + x17.FCount)) Weak.toA hE
      refine AWp.skip ?_
      exact hK14 _ s9_9 Weak.toA hE
     rintro s9_15 hE
     try dsimp only at hE
     unfold Z39_j14 at hE
     refine region ?_
     refine s0 (addIA rfl rfl) rfl ?_
     refine s0 moveA rfl ?_
     refine nil ?_
     exact hK8 _ (n8, s9_15, (s14_10 + 1)) Weak.toA hE (Nat.lt_succ_self _)
    refine AWp.exit ?_
    exact hK3 _ s9_9 Weak.toA hE
 rintro s9_4 hE
 try dsimp only at hE
 unfold Z39_j3 at hE
 refine seqK fun K5 hK5 => ?_
 refine region ?_
 refine s0 moveA rfl ?_
 refine s0 assignA rfl ?_
 refine nil ?_
 refine hK5 _ ?_
 clear hK5 K5
 refine AWp.ret ?_
 repeat (first | refine xBlock_ret ?_ | refine xThen_ret ?_)
 obtain rfl := Option.some.inj hE
 refine retQ.retF H rfl ⟨rfl, rfl⟩ ?_
 exact (fun _ _ h => h)
def Z11  : Option (TDoc × TQuery) := some ((TDoc.mk (⟨false, [(TDef.mk (1 : Int) ([81, 117, 101, 114, 121] : Bs) (Sl.nil : Sl Bs) (Sl.nil : Sl TDir) (⟨false, [(TField.mk ([109, 101] : Bs) (⟨false, [(TInput.mk ([99] : Bs) (TRef.mk ([67, 111, 108, 111, 114] : Bs) (Sl.nil : Sl Int)) false TValue.zero (Sl.nil : Sl TDir))]⟩ : Sl TInput) (TRef.mk ([85, 115, 101, 114] : Bs) (Sl.nil : Sl Int)) (Sl.nil : Sl TDir))]⟩ : Sl TField) (Sl.nil : Sl TMember) (Sl.nil : Sl TInput)), (TDef.mk (4 : Int) ([67, 111, 108, 111, 114] : Bs) (Sl.nil : Sl Bs) (Sl.nil : Sl TDir) (Sl.nil : Sl TField) (⟨false, [(TMember.mk ([82, 69, 68] : Bs) (Sl.nil : Sl TDir))]⟩ : Sl TMember) (Sl.nil : Sl TInput)), (TDef.mk (1 : Int) ([85, 115, 101, 114] : Bs) (Sl.nil : Sl Bs) (Sl.nil : Sl TDir) (⟨false, [(TField.mk ([110, 97, 109, 101] : Bs) (Sl.nil : Sl TInput) (TRef.mk ([83, 116, 114, 105, 110, 103] : Bs) (Sl.nil : Sl Int)) (Sl.nil : Sl TDir))]⟩ : Sl TField) (Sl.nil : Sl TMember) (Sl.nil : Sl TInput))]⟩ : Sl TDef)), (TQuery.mk (⟨false, [(TOp.mk (1 : Int) ([] : Bs) (Sl.nil : Sl TVar) (⟨false, [(TSel.mk (1 : Int) ([97] : Bs) ([109, 101] : Bs) ([] : Bs) (⟨false, [(TArg.mk ([99] : Bs) (TValue.mk (4 : Int) (0 : Int) ([82, 69, 68] : Bs) true ([]) (Sl.nil : Sl Bs)))]⟩ : Sl TArg) (Sl.nil : Sl TDir) ((⟨false, [(TSel.mk (1 : Int) ([] : Bs) ([110, 97, 109, 101] : Bs) ([] : Bs) (Sl.nil : Sl TArg) (Sl.nil : Sl TDir) true ([]))]⟩ : Sl TSel).nl) ((⟨false, [(TSel.mk (1 : Int) ([] : Bs) ([110, 97, 109, 101] : Bs) ([] : Bs) (Sl.nil : Sl TArg) (Sl.nil : Sl TDir) true ([]))]⟩ : Sl TSel).l)), (TSel.mk (1 : Int) ([98] : Bs) ([109, 101] : Bs) ([] : Bs) (Sl.nil : Sl TArg) (Sl.nil : Sl TDir) ((⟨false, [(TSel.mk (1 : Int) ([] : Bs) ([110, 97, 109, 101] : Bs) ([] : Bs) (Sl.nil : Sl TArg) (Sl.nil : Sl TDir) true ([]))]⟩ : Sl TSel).nl) ((⟨false, [(TSel.mk (1 : Int) ([] : Bs) ([110, 97, 109, 101] : Bs) ([] : Bs) (Sl.nil : Sl TArg) (Sl.nil : Sl TDir) true ([]))]⟩ : Sl TSel).l))]⟩ : Sl TSel))]⟩ : Sl TOp) (Sl.nil : Sl TFrag)))
theorem Z11_walk    {r : (TDoc × TQuery)} (hE : Z11  = some r) (H : Heap)  : ACalls Try.prog 13 [] H fun v h' => v = .tup [.agg (TDoc.c r.1), .agg (TQuery.c r.2)] ∧ h' = H := by
 unfold Z11 at hE
 refine ACalls.of_wp (fn := Try.f13) (c := _) Try.tab_ok (fun _ _ => Try.call13 _ _) Try.func13 rfl (n := 40) rfl (rs := [.cell 0 33, .cell 1 37]) rfl rfl ?_
 refine seqK fun K1 hK1 => ?_
 refine region ?_
 refine sL (allocLA (TK rfl) rfl) rfl ?_
 refine sL (allocLA (TK rfl) rfl) rfl ?_
 refine nil ?_
 refine hK1 _ ?_
 clear hK1 K1
 refine seqK fun K2 hK2 => ?_
 refine region ?_
 refine s0 (build Try.tab_ok rfl rfl rfl rfl rfl rfl) rfl ?_
 refine s0 (build Try.tab_ok rfl rfl rfl rfl rfl rfl) rfl ?_
 refine s0 (build Try.tab_ok rfl rfl rfl rfl rfl rfl) rfl ?_
 refine s0 (buildSlice (TK rfl) rfl (TK rfl) rfl rfl rfl rfl rfl rfl) rfl ?_
 refine s0 (build Try.tab_ok rfl rfl rfl rfl rfl rfl) rfl ?_
 refine sL (allocLA (TK rfl) rfl) rfl ?_
 refine sLn (storeLFA (TK rfl) rfl rfl rfl rfl rfl) ?_
 refine nil ?_
 refine hK2 _ ?_
 clear hK2 K2
 refine freezeA 2 _ rfl (Keeps.c (k := 0) (by conv => lhs; whnf) (by rfl) (Keeps.c (k := 1) (by conv => lhs; whnf) (by rfl) Keeps.nil)) ?_
 refine seqK fun K3 hK3 => ?_
 refine region ?_
 refine s0 (loadV (TK rfl) rfl rfl rfl) rfl ?_
 refine s0 (buildSlice (TK rfl) rfl (TK rfl) rfl rfl rfl rfl rfl rfl) rfl ?_
 refine s0 (build Try.tab_ok rfl rfl rfl rfl rfl rfl) rfl ?_
 refine s0 (build Try.tab_ok rfl rfl rfl rfl rfl rfl) rfl ?_
 refine s0 (buildSlice (TK rfl) rfl (TK rfl) rfl rfl rfl rfl rfl rfl) rfl ?_
 refine s0 (build Try.tab_ok rfl rfl rfl rfl rfl rfl) rfl ?_
 refine s0 (build Try.tab_ok rfl rfl rfl rfl rfl rfl) rfl ?_
 refine s0 (build Try.tab_ok rfl rfl rfl rfl rfl rfl) rfl ?_
 refine s0 (buildSlice (TK rfl) rfl (TK rfl) rfl rfl rfl rfl rfl rfl) rfl ?_
 refine s0 (build Try.tab_ok rfl rfl rfl rfl rfl rfl) rfl ?_
 refine s0 (buildSlice (TK rfl) rfl (TK rfl) rfl rfl rfl rfl rfl rfl) rfl ?_
 refine s0 (build Try.tab_ok rfl rfl rfl rfl rfl rfl) rfl ?_
 refine sL (allocLA (TK rfl) rfl) rfl ?_
 refine sLn (storeLFA (TK rfl) rfl rfl rfl rfl rfl) ?_
 refine nil ?_
 refine hK3 _ ?_
 clear hK3 K3
 refine freezeA 3 _ rfl (Keeps.c (k := 0) (by conv => lhs; whnf) (by rfl) (Keeps.c (k := 1) (by conv => lhs; whnf) (by rfl) Keeps.nil)) ?_
 refine seqK fun K4 hK4 => ?_
 refine region ?_
 refine s0 (build Try.tab_ok rfl rfl rfl rfl rfl rfl) rfl ?_
 refine s0 (buildSlice (TK rfl) rfl (TK rfl) rfl rfl rfl rfl rfl rfl) rfl ?_
 refine s0 assignA rfl ?_
 refine nil ?_
 refine hK4 _ ?_
 clear hK4 K4
 refine seqK fun K5 hK5 => ?_
 refine region ?_
 refine s0 (build Try.tab_ok rfl rfl rfl rfl rfl rfl) rfl ?_
 refine s0 (build Try.tab_ok rfl rfl rfl rfl rfl rfl) rfl ?_
 refine s0 (buildSlice (TK rfl) rfl (TK rfl) rfl rfl rfl rfl rfl rfl) rfl ?_
 refine s0 moveA rfl ?_
 refine s0 (build Try.tab_ok rfl rfl rfl rfl rfl rfl) rfl ?_
 refine sL (allocLA (TK rfl) rfl) rfl ?_
 refine sLn (storeLFA (TK rfl) rfl rfl rfl rfl rfl) ?_
 refine nil ?_
 refine hK5 _ ?_
 clear hK5 K5
 refine freezeA 5 _ rfl (Keeps.c (k := 0) (by conv => lhs; whnf) (by rfl) (Keeps.c (k := 1) (by conv => lhs; whnf) (by rfl) (Keeps.c (k := 3) (by conv => lhs; whnf) (by rfl) (Keeps.c (k := 4) (by conv => lhs; whnf) (by rfl) Keeps.nil)))) ?_
 refine seqK fun K6 hK6 => ?_
 refine region ?_
 refine s0 moveA rfl ?_
 refine s0 (build Try.tab_ok rfl rfl rfl rfl rfl rfl) rfl ?_
 refine sL (allocLA (TK rfl) rfl) rfl ?_
 refine sLn (storeLFA (TK rfl) rfl rfl rfl rfl rfl) ?_
 refine nil ?_
 refine hK6 _ ?_
 clear hK6 K6
 refine freezeA 6 _ rfl (Keeps.c (k := 0) (by conv => lhs; whnf) (by rfl) (Keeps.c (k := 1) (by conv => lhs; whnf) (by rfl) (Keeps.c (k := 3) (by conv => lhs; whnf) (by rfl) (Keeps.c (k := 5) (by conv => lhs; whnf) (by rfl) Keeps.nil)))) ?_
 refine seqK fun K7 hK7 => ?_
 refine AWp.draw rfl ?_
 refine DOps.s0 (loadV (TK rfl) rfl rfl rfl) rfl ?_
 refine DOps.s0 (loadV (TK rfl) rfl rfl rfl) rfl ?_
 refine DOps.s0 (loadV (TK rfl) rfl rfl rfl) rfl ?_
 refine DOps.s0 (buildSlice (TK rfl) rfl (TK rfl) rfl rfl rfl rfl rfl rfl) rfl ?_
 refine DOps.s0 (build Try.tab_ok rfl rfl rfl rfl rfl rfl) rfl ?_
 refine DOps.s0 (buildSlice (TK rfl) rfl (TK rfl) rfl rfl rfl rfl rfl rfl) rfl ?_
 refine DOps.s0 (build Try.tab_ok rfl rfl rfl rfl rfl rfl) rfl ?_
 refine DOps.sLn (storeLFA (TK rfl) rfl rfl rfl rfl rfl) ?_
 refine DOps.sLn (storeLFA (TK rfl) rfl rfl rfl rfl rfl) ?_
 refine DOps.nil (by decide +kernel) ?_
 refine hK7 _ ?_
 clear hK7 K7
 refine AWp.ret ?_
 repeat (first | refine xBlock_ret ?_ | refine xThen_ret ?_)
 obtain rfl := Option.some.inj hE
 refine retQ.retF H rfl ⟨rfl, rfl⟩ ?_
 exact (fun _ _ h => h)
def Z23 (a0 : Bs) : Option Bool := some (((((a0 == ([73, 110, 116] : Bs))) || ((a0 == ([83, 116, 114, 105, 110, 103] : Bs)))) || ((a0 == ([66, 111, 111, 108, 101, 97, 110] : Bs)))) || ((a0 == ([73, 68] : Bs))))
theorem Z23_walk {a0 : Bs}   {r : Bool} (hE : Z23 a0 = some r) (H : Heap)  : ACalls Try.prog 40 [.d (.str a0)] H fun v h' => v = .a (.d (.bool r)) ∧ h' = H := by
 unfold Z23 at hE
 refine ACalls.of_wp (fn := Try.f40) (c := _) Try.tab_ok (fun _ _ => Try.call40 _ _) Try.func40 rfl (n := 17) rfl (rs := [.tmp 2]) rfl rfl ?_
 refine seqK fun K1 hK1 => ?_
 refine region ?_
 refine s0 assignA rfl ?_
 refine nil ?_
 refine hK1 _ ?_
 clear hK1 K1
 refine seqK fun K2 hK2 => ?_
 refine region ?_
 refine s0 moveA rfl ?_
 refine s0 (binS rfl rfl rfl) rfl ?_
 refine s0 moveA rfl ?_
 refine gC rfl rfl (fun hC => moveA) rfl ?_
 refine gC rfl rfl (fun hC => ungdA (k := 6) rfl (binS rfl rfl rfl)) rfl ?_
 refine s0 (pickOrA rfl rfl rfl) rfl ?_
 refine s0 moveA rfl ?_
 refine gC rfl rfl (fun hC => moveA) rfl ?_
 refine gC rfl rfl (fun hC => ungdA (k := 10) rfl (binS rfl rfl rfl)) rfl ?_
 refine s0 (pickOrA rfl rfl rfl) rfl ?_
 refine s0 moveA rfl ?_
 refine gC rfl rfl (fun hC => moveA) rfl ?_
 refine gC rfl rfl (fun hC => ungdA (k := 14) rfl (binS rfl rfl rfl)) rfl ?_
 refine s0 (pickOrA rfl rfl rfl) rfl ?_
 refine s0 assignA rfl ?_
 refine nil ?_
 refine hK2 _ ?_
 clear hK2 K2
 refine AWp.ret ?_
 repeat (first | refine xBlock_ret ?_ | refine xThen_ret ?_)
 obtain rfl := Option.some.inj hE
 refine retQ.retF H rfl ⟨rfl, rfl⟩ ?_
 exact (fun _ _ h => h)
def Z20_j2  (y3_l0 : TDef) : Option (TDef × Bool) := some ((TDef.mk (0 : Int) ([] : Bs) (Sl.nil : Sl Bs) (Sl.nil : Sl TDir) (Sl.nil : Sl TField) (Sl.nil : Sl TMember) (Sl.nil : Sl TInput)), false)
def Z20_l7 (a0 : TDoc) (a1 : Bs)  : Nat → Nat → TDef → Option (TDef × Bool)
 | 0, _, _ => none
 | n7 + 1, s11_8, y9_l0 => bif (decide (((s11_8 : Nat) : Int) < ((a0.FDefs.l.length : Nat) : Int))) then ((a0.FDefs.l[s11_8]?).bind fun x15 => bif ((x15.FName == a1)) then (some (x15, true)) else ((Z20_l7 a0 a1 n7) (s11_8 + 1) y9_l0)) else (Z20_j2   y9_l0)
def Z20 (a0 : TDoc) (a1 : Bs) : Option (TDef × Bool) := Z20_l7 a0 a1 (a0.FDefs.l.length + 1) 0 TDef.zero
theorem Z20_walk {a0 : TDoc} {a1 : Bs}   {r : (TDef × Bool)} (hE : Z20 a0 a1 = some r) (H : Heap)  : ACalls Try.prog 39 [.agg (TDoc.c a0), .d (.str a1)] H fun v h' => v = .tup [.agg (TDef.c r.1), .d (.bool r.2)] ∧ h' = H := by
 unfold Z20 at hE
 refine ACalls.of_wp (fn := Try.f39) (c := _) Try.tab_ok (fun _ _ => Try.call39 _ _) Try.func39 rfl (n := 22) rfl (rs := [.cell 4 63, .tmp 5]) rfl rfl ?_
 refine seqK fun K1 hK1 => ?_
 refine region ?_
 refine s0 (boxV rfl) rfl ?_
 refine sL (allocLA (TK rfl) rfl) rfl ?_
 refine s0 assignA rfl ?_
 refine nil ?_
 refine hK1 _ ?_
 clear hK1 K1
 refine seqJ (KeepsT.A (k := 4) KeepsT.nil) (fun (z : TDef) => []) (fun z => [TDef.c z]) (fun z => H) (fun z => Z20_j2 z = some r) ?_ ?_
 ·intro K2 hK2
  refine seqK fun K5 hK5 => ?_
  refine region ?_
  refine s0 (fieldVA (TK rfl) rfl rfl (TK rfl) rfl rfl) rfl ?_
  refine s0 (loadV (TK rfl) rfl rfl rfl) rfl ?_
  refine sLen (f := TDef.c) (s := a0.FDefs) (TK rfl) rfl rfl rfl rfl fun hL6 => ?_
  refine s0 moveA rfl ?_
  refine nil ?_
  refine hK5 _ ?_
  clear hK5 K5
  refine block ?_
  refine loopO (KeepsT.A (k := 1) (KeepsT.A (k := 4) (KeepsT.A (k := 9) (KeepsT.A (k := 10) KeepsT.nil)))) (fun (z : Nat × Nat × TDef) => [(11, .a (.d (.int .i64 ((z.2.1 : Nat) : Int))))]) (fun z => [TDef.c z.2.2]) (fun z => H) (fun z => z.1) (fun z => Z20_l7 a0 a1 z.1 z.2.1 z.2.2 = some r) ((a0.FDefs.l.length + 1), 0, TDef.zero) hE Weak.toA ?_
  rintro ⟨n7, s11_8, y9_l0⟩ hE K7 hK7
  try dsimp only at hE
  cases n7 with
  | zero => cases hE
  | succ n7 =>
    rw [Z20_l7] at hE
    refine seqK fun K10 hK10 => ?_
    refine region ?_
    refine s0 (binI rfl rfl rfl) rfl ?_
    refine nil ?_
    refine hK10 _ ?_
    clear hK10 K10
    refine seqK fun K11 hK11 => ?_
    refine condE hE rfl (fun hc12 hE => ?_) (fun hc12 hE => ?_)
    ·try dsimp only at hc12
     have hf12 := of_decide_eq_true hc12
     refine AWp.skip ?_
     refine hK11 _ ?_
     clear hK11 K11
     refine seqK fun K13 hK13 => ?_
     refine block ?_
     refine seqK fun K14 hK14 => ?_
     refine region ?_
     obtain ⟨x15, gx15, hE⟩ := bindO_some hE
     refine s0 (idxMn (f := TDef.c) (n := s11_8) (TK rfl) rfl (TK rfl) rfl rfl rfl gx15) rfl ?_
     refine s0 (loadV (TK rfl) rfl rfl rfl) rfl ?_
     refine sL (allocLA (TK rfl) rfl) rfl ?_
     refine sLn (storeLFA (TK rfl) rfl rfl rfl rfl rfl) ?_
     refine nil ?_
     refine hK14 _ ?_
     clear hK14 K14
     refine freezeA 7 _ rfl (Keeps.c (k := 1) (by conv => lhs; whnf) (by rfl) (Keeps.c (k := 4) (by conv => lhs; whnf) (by rfl) (Keeps.c (k := 9) (by conv => lhs; whnf) (by rfl) (Keeps.c (k := 10) (by conv => lhs; whnf) (by rfl) (Keeps.c (k := 11) (by conv => lhs; whnf) (by rfl) Keeps.nil))))) ?_
     refine seqK fun K16 hK16 => ?_
     refine region ?_
     refine s0 (fieldVA (TK rfl) rfl rfl (TK rfl) rfl rfl) rfl ?_
     refine s0 (loadV (TK rfl) rfl rfl rfl) rfl ?_
     refine s0 moveA rfl ?_
     refine s0 (binS rfl rfl rfl) rfl ?_
     refine nil ?_
     refine hK16 _ ?_
     clear hK16 K16
     refine condE hE rfl (fun hc17 hE => ?_) (fun hc17 hE => ?_)
     ·refine seqK fun K18 hK18 => ?_
      refine region ?_
      refine s0 (loadV (TK rfl) rfl rfl rfl) rfl ?_
      refine sLn (storeLFA (TK rfl) rfl rfl rfl rfl rfl) ?_
      refine s0 assignA rfl ?_
      refine nil ?_
      refine hK18 _ ?_
      clear hK18 K18
      refine AWp.ret ?_
      repeat (first | refine xBlock_ret ?_ | refine xThen_ret ?_)
      obtain rfl := Option.some.inj hE
      refine retQ.retF H rfl ⟨rfl, rfl⟩ ?_
      exact (fun _ _ h => h)
     refine AWp.skip ?_
     refine hK13 _ ?_
     clear hK13 K13
     refine region ?_
     refine s0 (addIA rfl rfl) rfl ?_
     refine s0 moveA rfl ?_
     refine nil ?_
     exact hK7 _ (n7, (s11_8 + 1), y9_l0) Weak.toA hE (Nat.lt_succ_self _)
    refine AWp.exit ?_
    exact hK2 _ y9_l0 Weak.toA hE
 rintro y3_l0 hE
 try dsimp only at hE
 unfold Z20_j2 at hE
 refine seqK fun K4 hK4 => ?_
 refine region ?_
 refine s0 (build Try.tab_ok rfl rfl rfl rfl rfl rfl) rfl ?_
 refine sLn (storeLFA (TK rfl) rfl rfl rfl rfl rfl) ?_
 refine s0 assignA rfl ?_
 refine nil ?_
 refine hK4 _ ?_
 clear hK4 K4
 refine AWp.ret ?_
 repeat (first | refine xBlock_ret ?_ | refine xThen_ret ?_)
 obtain rfl := Option.some.inj hE
 refine retQ.retF H rfl ⟨rfl, rfl⟩ ?_
 exact (fun _ _ h => h)
def Z24 (a0 : TDoc) (a1 : Bs) : Option Int := (Z20 a0 a1).bind fun x3 => some x3.1.FKind
theorem Z24_walk {a0 : TDoc} {a1 : Bs}   {r : Int} (hE : Z24 a0 a1 = some r) (H : Heap)  : ACalls Try.prog 55 [.agg (TDoc.c a0), .d (.str a1)] H fun v h' => v = .a (.d (.int .i64 r)) ∧ h' = H := by
 unfold Z24 at hE
 refine ACalls.of_wp (fn := Try.f55) (c := _) Try.tab_ok (fun _ _ => Try.call55 _ _) Try.func55 rfl (n := 15) rfl (rs := [.tmp 4]) rfl rfl ?_
 refine seqK fun K1 hK1 => ?_
 refine region ?_
 refine s0 (boxV rfl) rfl ?_
 refine s0 assignA rfl ?_
 refine nil ?_
 refine hK1 _ ?_
 clear hK1 K1
 refine seqK fun K2 hK2 => ?_
 refine region ?_
 refine s0 (loadV (TK rfl) rfl rfl rfl) rfl ?_
 refine s0 moveA rfl ?_
 obtain ⟨x3, gx3, hE⟩ := bindO_some hE
 refine s0 (callP rfl rfl (fun H => Z20_walk gx3 H)) rfl ?_
 refine s0 moveA rfl ?_
 refine s0 (extract rfl rfl) rfl ?_
 refine s0 (extract rfl rfl) rfl ?_
 refine sL (allocLA (TK rfl) rfl) rfl ?_
 refine sLn (storeLFA (TK rfl) rfl rfl rfl rfl rfl) ?_
 refine s0 assignA rfl ?_
 refine nil ?_
 refine hK2 _ ?_
 clear hK2 K2
 refine freezeA 5 _ rfl Keeps.nil ?_
 refine seqK fun K4 hK4 => ?_
 refine region ?_
 refine s0 (fieldVA (TK rfl) rfl rfl (TK rfl) rfl rfl) rfl ?_
 refine s0 (loadV (TK rfl) rfl rfl rfl) rfl ?_
 refine s0 assignA rfl ?_
 refine nil ?_
 refine hK4 _ ?_
 clear hK4 K4
 refine AWp.ret ?_
 repeat (first | refine xBlock_ret ?_ | refine xThen_ret ?_)
 obtain rfl := Option.some.inj hE
 refine retQ.retF H rfl ⟨rfl, rfl⟩ ?_
 exact (fun _ _ h => h)
end Go.Proofs
