import Derived.Test.YtfmbgiahleepfabGreatDoorE3
import Derived.Test.YtfmbgiahleepfabGreatDoorTab
set_option maxRecDepth 100000
set_option maxHeartbeats 2000000
set_option linter.unusedVariables false
set_option linter.unusedSimpArgs false
namespace Go.Proofs
open Go Go.Ab
inductive Z9 where
 | mk (FKind:Int) (FInt:Int) (FText:Bs) (FItems_nl:Bool) (FItems_l:List Z9) (FKeys:(Sl Bs))
def Z9.FKind:Z9->Int|.mk x _ _ _ _ _=>x
def Z9.FInt:Z9->Int|.mk _ x _ _ _ _=>x
def Z9.FText:Z9->Bs|.mk _ _ x _ _ _=>x
def Z9.FItems:Z9->(Sl Z9)|.mk _ _ _ nl l _=>⟨nl,l⟩
def Z9.FKeys:Z9->(Sl Bs)|.mk _ _ _ _ _ x=>x
noncomputable def Z9.FItemsD:Z9->D:=@Z9.rec (fun _=>D) (fun _=>List (List D)) (fun _ _ _ nl _ _ ih=>.slice 5 none nl ih) [] (fun v _ ih ihl=>((intE .i64) v.FKind++(intE .i64) v.FInt++strE v.FText++[ih]++(fun s=>[Sl.d 1 strE none s]) v.FKeys)::ihl)
noncomputable def Z9.c (v:Z9):List D:=(intE .i64) v.FKind++(intE .i64) v.FInt++strE v.FText++[v.FItemsD]++(fun s=>[Sl.d 1 strE none s]) v.FKeys
theorem Z9.FItemsD_eq (v:Z9):v.FItemsD=Sl.d 5 Z9.c none v.FItems:=by
 cases v with
 | mk y_Kind y_Int y_Text nl l y_Keys =>
  show D.slice 5 none nl _=D.slice 5 none nl (l.map Z9.c)
  congr 1
  induction l with
  | nil=>rfl
  | cons a r ih=>exact congrArg (Z9.c a::·) ih
noncomputable def Z9.cu (v:Z9):List D:=(intE .i64) v.FKind++(intE .i64) v.FInt++strE v.FText++[Sl.d 5 Z9.c none v.FItems]++(fun s=>[Sl.d 1 strE none s]) v.FKeys
theorem Z9.cu_eq (v:Z9):v.c=v.cu:=by unfold Z9.c Z9.cu; rw [Z9.FItemsD_eq]
def Z9.zero:Z9:=.mk (0:Int) (0:Int) ([]:Bs) true [] (Sl.nil:Sl Bs)
structure TArg where
 FName:Bs
 FValue:Z9
noncomputable def TArg.c (x:TArg):List D:=strE x.FName++Z9.c x.FValue
structure TDir where
 FName:Bs
 FArgs:(Sl TArg)
noncomputable def TDir.c (x:TDir):List D:=[.str x.FName,Sl.d 6 TArg.c none x.FArgs]
def TDir.zero:TDir:=⟨([]:Bs),(Sl.nil:Sl TArg)⟩
structure TRef where
 FName:Bs
 FWraps:(Sl Int)
noncomputable def TRef.c (x:TRef):List D:=[.str x.FName,Sl.d 1 (intE .i64) none x.FWraps]
def TRef.zero:TRef:=⟨([]:Bs),(Sl.nil:Sl Int)⟩
structure Z6 where
 FName:Bs
 FType:TRef
 FHas:Bool
 FDefault:Z9
 FDirs:(Sl TDir)
noncomputable def Z6.c (x:Z6):List D:=strE x.FName++TRef.c x.FType++boolE x.FHas++Z9.c x.FDefault++(fun s=>[Sl.d 2 TDir.c none s]) x.FDirs
def Z6.zero:Z6:=⟨([]:Bs),TRef.zero,false,Z9.zero,(Sl.nil:Sl TDir)⟩
structure Z4 where
 FName:Bs
 FArgs:(Sl Z6)
 FType:TRef
 FDirs:(Sl TDir)
noncomputable def Z4.c (x:Z4):List D:=strE x.FName++(fun s=>[Sl.d 10 Z6.c none s]) x.FArgs++TRef.c x.FType++(fun s=>[Sl.d 2 TDir.c none s]) x.FDirs
def Z4.zero:Z4:=⟨([]:Bs),(Sl.nil:Sl Z6),TRef.zero,(Sl.nil:Sl TDir)⟩
structure Z7 where
 FName:Bs
 FDirs:(Sl TDir)
noncomputable def Z7.c (x:Z7):List D:=[.str x.FName,Sl.d 2 TDir.c none x.FDirs]
def Z7.zero:Z7:=⟨([]:Bs),(Sl.nil:Sl TDir)⟩
structure TDef where
 FKind:Int
 FName:Bs
 FImplements:(Sl Bs)
 FDirs:(Sl TDir)
 FFields:(Sl Z4)
 FMembers:(Sl Z7)
 FInputs:(Sl Z6)
noncomputable def TDef.c (x:TDef):List D:=[.int .i64 x.FKind,.str x.FName,Sl.d 1 strE none x.FImplements,Sl.d 2 TDir.c none x.FDirs,Sl.d 5 Z4.c none x.FFields,Sl.d 2 Z7.c none x.FMembers,Sl.d 10 Z6.c none x.FInputs]
def TDef.zero:TDef:=⟨(0:Int),([]:Bs),(Sl.nil:Sl Bs),(Sl.nil:Sl TDir),(Sl.nil:Sl Z4),(Sl.nil:Sl Z7),(Sl.nil:Sl Z6)⟩
structure TDoc where
 FDefs:(Sl TDef)
noncomputable def TDoc.c (x:TDoc):List D:=[Sl.d 7 TDef.c none x.FDefs]
structure Z3 where
 FErr:Int
 FAt:Bs
def Z3.c (x:Z3):List D:=[.int .i64 x.FErr,.str x.FAt]
def Z3.zero:Z3:=⟨(0:Int),([]:Bs)⟩
inductive TSel where
 | mk (FKind:Int) (FAlias:Bs) (FName:Bs) (FOn:Bs) (FArgs:(Sl TArg)) (FDirs:(Sl TDir)) (FSels_nl:Bool) (FSels_l:List TSel)
def TSel.FKind:TSel->Int|.mk x _ _ _ _ _ _ _=>x
def TSel.FAlias:TSel->Bs|.mk _ x _ _ _ _ _ _=>x
def TSel.FName:TSel->Bs|.mk _ _ x _ _ _ _ _=>x
def TSel.FOn:TSel->Bs|.mk _ _ _ x _ _ _ _=>x
def TSel.FArgs:TSel->(Sl TArg)|.mk _ _ _ _ x _ _ _=>x
def TSel.FDirs:TSel->(Sl TDir)|.mk _ _ _ _ _ x _ _=>x
def TSel.FSels:TSel->(Sl TSel)|.mk _ _ _ _ _ _ nl l=>⟨nl,l⟩
noncomputable def TSel.FSelsD:TSel->D:=@TSel.rec (fun _=>D) (fun _=>List (List D)) (fun _ _ _ _ _ _ nl _ ih=>.slice 7 none nl ih) [] (fun v _ ih ihl=>((intE .i64) v.FKind++strE v.FAlias++strE v.FName++strE v.FOn++(fun s=>[Sl.d 6 TArg.c none s]) v.FArgs++(fun s=>[Sl.d 2 TDir.c none s]) v.FDirs++[ih])::ihl)
noncomputable def TSel.c (v:TSel):List D:=(intE .i64) v.FKind++strE v.FAlias++strE v.FName++strE v.FOn++(fun s=>[Sl.d 6 TArg.c none s]) v.FArgs++(fun s=>[Sl.d 2 TDir.c none s]) v.FDirs++[v.FSelsD]
theorem TSel.FSelsD_eq (v:TSel):v.FSelsD=Sl.d 7 TSel.c none v.FSels:=by
 cases v with
 | mk y_Kind y_Alias y_Name y_On y_Args y_Dirs nl l =>
  show D.slice 7 none nl _=D.slice 7 none nl (l.map TSel.c)
  congr 1
  induction l with
  | nil=>rfl
  | cons a r ih=>exact congrArg (TSel.c a::·) ih
structure TVar where
 FName:Bs
 FType:TRef
 FHas:Bool
 FDefault:Z9
noncomputable def TVar.c (x:TVar):List D:=strE x.FName++TRef.c x.FType++boolE x.FHas++Z9.c x.FDefault
structure TOp where
 FKind:Int
 FName:Bs
 FVars:(Sl TVar)
 FSels:(Sl TSel)
noncomputable def TOp.c (x:TOp):List D:=[.int .i64 x.FKind,.str x.FName,Sl.d 9 TVar.c none x.FVars,Sl.d 7 TSel.c none x.FSels]
structure Z5 where
 FName:Bs
 FOn:Bs
 FSels:(Sl TSel)
noncomputable def Z5.c (x:Z5):List D:=[.str x.FName,.str x.FOn,Sl.d 7 TSel.c none x.FSels]
structure Z8 where
 FOps:(Sl TOp)
 FFrags:(Sl Z5)
noncomputable def Z8.c (x:Z8):List D:=[Sl.d 4 TOp.c none x.FOps,Sl.d 3 Z5.c none x.FFrags]
structure Z2 where
 Fd:TDoc
 Ffaults:(Sl Z3)
noncomputable def Z2.cg (t1:Option Nat) (x:Z2):List D:=TDoc.c x.Fd++[Sl.d 2 Z3.c t1 x.Ffaults]
structure Z1 where
 Fd:TDoc
 Fq:Z8
 Fout:(Sl Z3)
noncomputable def Z1.cg (t2:Option Nat) (x:Z1):List D:=TDoc.c x.Fd++Z8.c x.Fq++[Sl.d 2 Z3.c t2 x.Fout]
structure Z0 where
 Fd:TDoc
 Fvars:Z9
 Fliteral:Bool
 Fnodes:Int
noncomputable def Z0.c (x:Z0):List D:=TDoc.c x.Fd++Z9.c x.Fvars++boolE x.Fliteral++(intE .i64) x.Fnodes
end Go.Proofs

namespace Go.Proofs
open Go Go.Ab Go.RowKit
section
variable {H:Type}{B:DataW H->Nat}(hB:Bulk B)
noncomputable def Z9.sz:Z9->Nat:=@Z9.rec (fun _=>Nat) (fun _=>Nat) (fun y_Kind y_Int y_Text nl l y_Keys ih=>(fun _=>1) y_Kind+((fun _=>1) y_Int+(Bs.sz y_Text+((1+ih)+((Sl.sz Bs.sz) y_Keys+(0)))))) 0 (fun _ _ ih ihl=>ih+ihl)
noncomputable def Z9.szL:List Z9->Nat:=@Z9.rec_1 (fun _=>Nat) (fun _=>Nat) (fun y_Kind y_Int y_Text nl l y_Keys ih=>(fun _=>1) y_Kind+((fun _=>1) y_Int+(Bs.sz y_Text+((1+ih)+((Sl.sz Bs.sz) y_Keys+(0)))))) 0 (fun _ _ ih ihl=>ih+ihl)
theorem Z9.szL_eq (l:List Z9):Z9.szL l=(l.map Z9.sz).sum:=by
 induction l with
 | nil=>rfl
 | cons a r ih=>exact congrArg (Z9.sz a+·) ih
theorem Z9.sz_eq (x:Z9):x.sz=(fun _=>1) x.FKind+((fun _=>1) x.FInt+(Bs.sz x.FText+((Sl.sz Z9.sz) x.FItems+((Sl.sz Bs.sz) x.FKeys+(0))))):=by
 cases x with
 | mk y_Kind y_Int y_Text nl l y_Keys =>
  show (fun _=>1) y_Kind+((fun _=>1) y_Int+(Bs.sz y_Text+((1+Z9.szL l)+((Sl.sz Bs.sz) y_Keys+(0)))))=_;rw [Z9.szL_eq]; rfl
def Z9.wf:Z9->Prop:=@Z9.rec (fun _=>Prop) (fun _=>Prop) (fun y_Kind y_Int y_Text nl l y_Keys ih=>i64 y_Kind/\(i64 y_Int/\((fun _=>True) y_Text/\(((nl=true->l=[])/\l.length<=maxN/\ih)/\((Sl.wf (fun _=>True)) y_Keys/\(True)))))) True (fun _ _ ih ihl=>ih/\ihl)
def Z9.wfL:List Z9->Prop:=@Z9.rec_1 (fun _=>Prop) (fun _=>Prop) (fun y_Kind y_Int y_Text nl l y_Keys ih=>i64 y_Kind/\(i64 y_Int/\((fun _=>True) y_Text/\(((nl=true->l=[])/\l.length<=maxN/\ih)/\((Sl.wf (fun _=>True)) y_Keys/\(True)))))) True (fun _ _ ih ihl=>ih/\ihl)
theorem Z9.wfL_iff (l:List Z9):Z9.wfL l↔∀x∈l,Z9.wf x:=by
 induction l with
 | nil=>exact⟨fun _ _ h=>(by cases h),fun _=>trivial⟩
 | cons a r ih =>
  show (Z9.wf a/\Z9.wfL r)↔_;rw [ih]; simp
theorem Z9.wf_iff (x:Z9):x.wf↔i64 x.FKind/\(i64 x.FInt/\((fun _=>True) x.FText/\((Sl.wf Z9.wf) x.FItems/\((Sl.wf (fun _=>True)) x.FKeys/\(True))))):=by
 cases x with
 | mk y_Kind y_Int y_Text nl l y_Keys =>
  show (i64 y_Kind/\(i64 y_Int/\((fun _=>True) y_Text/\(((nl=true->l=[])/\l.length<=maxN/\Z9.wfL l)/\((Sl.wf (fun _=>True)) y_Keys/\(True))))))↔_;rw [Z9.wfL_iff]; exact Iff.rfl
include hB in
theorem rd_TValue_31:∀N,RdN Tryz.prog B N 31 Z9.c Z9.sz Z9.wf:=by
 have key:∀N M,M<=N->RdN Tryz.prog B M 31 Z9.c Z9.sz Z9.wf:=by
  intro N;induction N with
  | zero=>intro M hM; rw [Nat.le_zero.1 hM]; exact .zero
  | succ N ih =>
   intro M hM;cases M with
   | zero=>exact .zero
   | succ N_ =>
    have hit:RdN Tryz.prog B N_ 28 (fun s:Sl Z9=>[Sl.d 5 Z9.c none s]) (Sl.sz Z9.sz) (Sl.wf Z9.wf):=by
     cases N_ with
     | zero=>exact .zero
     | succ M=>exact RdS.sliceN hB (Tryz.tab_ok 28 _ rfl) rfl (Tryz.tab_ok 31 _ rfl) rfl (by decide) (fun _=>rfl) (ih M (by omega))
    refine RdN.struct hB (Tryz.tab_ok 31 _ rfl) rfl (RdP.cons (n:=5) (o:=0) (o':=1) (Tryz.tab_ok 3 _ rfl) rfl ((RdS.int hB (Tryz.tab_ok 3 _ rfl) rfl) N_) (RdP.cons (n:=5) (o:=1) (o':=2) (Tryz.tab_ok 3 _ rfl) rfl ((RdS.int hB (Tryz.tab_ok 3 _ rfl) rfl) N_) (RdP.cons (n:=5) (o:=2) (o':=3) (Tryz.tab_ok 9 _ rfl) rfl ((RdS.str hB (Tryz.tab_ok 9 _ rfl) rfl) N_) (RdP.cons (n:=5) (o:=3) (o':=4) (Tryz.tab_ok 28 _ rfl) rfl hit (RdP.cons (n:=5) (o:=4) (o':=5) (Tryz.tab_ok 29 _ rfl) rfl ((RdS.slice hB (Tryz.tab_ok 29 _ rfl) rfl (Tryz.tab_ok 9 _ rfl) rfl (by decide) (fun _=>rfl) (RdS.str hB (Tryz.tab_ok 9 _ rfl) rfl)) N_) (RdP.nil (n:=5))))))) (fun a=>Z9.mk a.1 a.2.1 a.2.2.1 a.2.2.2.1.nl a.2.2.2.1.l a.2.2.2.2.1) (fun a=>?_) (fun a=>by rw [Z9.sz_eq]; exact Nat.le_refl _) (fun a h=>by rw [Z9.wf_iff]; exact h)
    unfold Z9.c;rw [Z9.FItemsD_eq];rfl
 exact fun N=>key N N (Nat.le_refl _)
noncomputable def TArg.sz (x:TArg):Nat:=Bs.sz x.FName+(Z9.sz x.FValue+(0))
def TArg.wf (x:TArg):Prop:=(fun _=>True) x.FName/\(Z9.wf x.FValue/\(True))
include hB in
theorem rd_TArg_55:∀N,RdN Tryz.prog B N 55 TArg.c TArg.sz TArg.wf:=RdA.struct hB (Tryz.tab_ok 55 _ rfl) rfl (fun N_=>(RdP.cons (n:=6) (o:=0) (o':=1) (Tryz.tab_ok 9 _ rfl) rfl ((RdS.str hB (Tryz.tab_ok 9 _ rfl) rfl) N_) (RdP.cons (n:=6) (o:=1) (o':=6) (Tryz.tab_ok 31 _ rfl) rfl ((rd_TValue_31 hB) N_) (RdP.nil (n:=6))))) (fun a=>(⟨a.1,a.2.1⟩:TArg)) (fun _=>rfl) (fun _=>Nat.le_refl _) (fun _ h=>h)
noncomputable def TDir.sz (x:TDir):Nat:=Bs.sz x.FName+((Sl.sz TArg.sz) x.FArgs+(0))
def TDir.wf (x:TDir):Prop:=(fun _=>True) x.FName/\((Sl.wf TArg.wf) x.FArgs/\(True))
include hB in
theorem rd_TDir_129:∀N,RdN Tryz.prog B N 129 TDir.c TDir.sz TDir.wf:=RdA.struct hB (Tryz.tab_ok 129 _ rfl) rfl (fun N_=>(RdP.cons (n:=2) (o:=0) (o':=1) (Tryz.tab_ok 9 _ rfl) rfl ((RdS.str hB (Tryz.tab_ok 9 _ rfl) rfl) N_) (RdP.cons (n:=2) (o:=1) (o':=2) (Tryz.tab_ok 56 _ rfl) rfl ((RdS.slice hB (Tryz.tab_ok 56 _ rfl) rfl (Tryz.tab_ok 55 _ rfl) rfl (by decide) (fun _=>rfl) (rd_TArg_55 hB)) N_) (RdP.nil (n:=2))))) (fun a=>(⟨a.1,a.2.1⟩:TDir)) (fun _=>rfl) (fun _=>Nat.le_refl _) (fun _ h=>h)
noncomputable def TRef.sz (x:TRef):Nat:=Bs.sz x.FName+((Sl.sz (fun _=>1)) x.FWraps+(0))
def TRef.wf (x:TRef):Prop:=(fun _=>True) x.FName/\((Sl.wf i64) x.FWraps/\(True))
include hB in
theorem rd_TRef_27:∀N,RdN Tryz.prog B N 27 TRef.c TRef.sz TRef.wf:=RdA.struct hB (Tryz.tab_ok 27 _ rfl) rfl (fun N_=>(RdP.cons (n:=2) (o:=0) (o':=1) (Tryz.tab_ok 9 _ rfl) rfl ((RdS.str hB (Tryz.tab_ok 9 _ rfl) rfl) N_) (RdP.cons (n:=2) (o:=1) (o':=2) (Tryz.tab_ok 25 _ rfl) rfl ((RdS.slice hB (Tryz.tab_ok 25 _ rfl) rfl (Tryz.tab_ok 3 _ rfl) rfl (by decide) (fun _=>rfl) (RdS.int hB (Tryz.tab_ok 3 _ rfl) rfl)) N_) (RdP.nil (n:=2))))) (fun a=>(⟨a.1,a.2.1⟩:TRef)) (fun _=>rfl) (fun _=>Nat.le_refl _) (fun _ h=>h)
noncomputable def Z6.sz (x:Z6):Nat:=Bs.sz x.FName+(TRef.sz x.FType+((fun _=>1) x.FHas+(Z9.sz x.FDefault+((Sl.sz TDir.sz) x.FDirs+(0)))))
def Z6.wf (x:Z6):Prop:=(fun _=>True) x.FName/\(TRef.wf x.FType/\((fun _=>True) x.FHas/\(Z9.wf x.FDefault/\((Sl.wf TDir.wf) x.FDirs/\(True)))))
include hB in
theorem rd_TInput_51:∀N,RdN Tryz.prog B N 51 Z6.c Z6.sz Z6.wf:=RdA.struct hB (Tryz.tab_ok 51 _ rfl) rfl (fun N_=>(RdP.cons (n:=10) (o:=0) (o':=1) (Tryz.tab_ok 9 _ rfl) rfl ((RdS.str hB (Tryz.tab_ok 9 _ rfl) rfl) N_) (RdP.cons (n:=10) (o:=1) (o':=3) (Tryz.tab_ok 27 _ rfl) rfl ((rd_TRef_27 hB) N_) (RdP.cons (n:=10) (o:=3) (o':=4) (Tryz.tab_ok 4 _ rfl) rfl ((RdS.bool hB (Tryz.tab_ok 4 _ rfl) rfl) N_) (RdP.cons (n:=10) (o:=4) (o':=9) (Tryz.tab_ok 31 _ rfl) rfl ((rd_TValue_31 hB) N_) (RdP.cons (n:=10) (o:=9) (o':=10) (Tryz.tab_ok 41 _ rfl) rfl ((RdS.slice hB (Tryz.tab_ok 41 _ rfl) rfl (Tryz.tab_ok 129 _ rfl) rfl (by decide) (fun _=>rfl) (rd_TDir_129 hB)) N_) (RdP.nil (n:=10)))))))) (fun a=>(⟨a.1,a.2.1,a.2.2.1,a.2.2.2.1,a.2.2.2.2.1⟩:Z6)) (fun _=>rfl) (fun _=>Nat.le_refl _) (fun _ h=>h)
noncomputable def Z4.sz (x:Z4):Nat:=Bs.sz x.FName+((Sl.sz Z6.sz) x.FArgs+(TRef.sz x.FType+((Sl.sz TDir.sz) x.FDirs+(0))))
def Z4.wf (x:Z4):Prop:=(fun _=>True) x.FName/\((Sl.wf Z6.wf) x.FArgs/\(TRef.wf x.FType/\((Sl.wf TDir.wf) x.FDirs/\(True))))
include hB in
theorem rd_TField_53:∀N,RdN Tryz.prog B N 53 Z4.c Z4.sz Z4.wf:=RdA.struct hB (Tryz.tab_ok 53 _ rfl) rfl (fun N_=>(RdP.cons (n:=5) (o:=0) (o':=1) (Tryz.tab_ok 9 _ rfl) rfl ((RdS.str hB (Tryz.tab_ok 9 _ rfl) rfl) N_) (RdP.cons (n:=5) (o:=1) (o':=2) (Tryz.tab_ok 44 _ rfl) rfl ((RdS.slice hB (Tryz.tab_ok 44 _ rfl) rfl (Tryz.tab_ok 51 _ rfl) rfl (by decide) (fun _=>rfl) (rd_TInput_51 hB)) N_) (RdP.cons (n:=5) (o:=2) (o':=4) (Tryz.tab_ok 27 _ rfl) rfl ((rd_TRef_27 hB) N_) (RdP.cons (n:=5) (o:=4) (o':=5) (Tryz.tab_ok 41 _ rfl) rfl ((RdS.slice hB (Tryz.tab_ok 41 _ rfl) rfl (Tryz.tab_ok 129 _ rfl) rfl (by decide) (fun _=>rfl) (rd_TDir_129 hB)) N_) (RdP.nil (n:=5))))))) (fun a=>(⟨a.1,a.2.1,a.2.2.1,a.2.2.2.1⟩:Z4)) (fun _=>rfl) (fun _=>Nat.le_refl _) (fun _ h=>h)
noncomputable def Z7.sz (x:Z7):Nat:=Bs.sz x.FName+((Sl.sz TDir.sz) x.FDirs+(0))
def Z7.wf (x:Z7):Prop:=(fun _=>True) x.FName/\((Sl.wf TDir.wf) x.FDirs/\(True))
include hB in
theorem rd_TMember_113:∀N,RdN Tryz.prog B N 113 Z7.c Z7.sz Z7.wf:=RdA.struct hB (Tryz.tab_ok 113 _ rfl) rfl (fun N_=>(RdP.cons (n:=2) (o:=0) (o':=1) (Tryz.tab_ok 9 _ rfl) rfl ((RdS.str hB (Tryz.tab_ok 9 _ rfl) rfl) N_) (RdP.cons (n:=2) (o:=1) (o':=2) (Tryz.tab_ok 41 _ rfl) rfl ((RdS.slice hB (Tryz.tab_ok 41 _ rfl) rfl (Tryz.tab_ok 129 _ rfl) rfl (by decide) (fun _=>rfl) (rd_TDir_129 hB)) N_) (RdP.nil (n:=2))))) (fun a=>(⟨a.1,a.2.1⟩:Z7)) (fun _=>rfl) (fun _=>Nat.le_refl _) (fun _ h=>h)
noncomputable def TDef.sz (x:TDef):Nat:=(fun _=>1) x.FKind+(Bs.sz x.FName+((Sl.sz Bs.sz) x.FImplements+((Sl.sz TDir.sz) x.FDirs+((Sl.sz Z4.sz) x.FFields+((Sl.sz Z7.sz) x.FMembers+((Sl.sz Z6.sz) x.FInputs+(0)))))))
def TDef.wf (x:TDef):Prop:=i64 x.FKind/\((fun _=>True) x.FName/\((Sl.wf (fun _=>True)) x.FImplements/\((Sl.wf TDir.wf) x.FDirs/\((Sl.wf Z4.wf) x.FFields/\((Sl.wf Z7.wf) x.FMembers/\((Sl.wf Z6.wf) x.FInputs/\(True)))))))
include hB in
theorem rd_TDef_46:∀N,RdN Tryz.prog B N 46 TDef.c TDef.sz TDef.wf:=RdA.struct hB (Tryz.tab_ok 46 _ rfl) rfl (fun N_=>(RdP.cons (n:=7) (o:=0) (o':=1) (Tryz.tab_ok 3 _ rfl) rfl ((RdS.int hB (Tryz.tab_ok 3 _ rfl) rfl) N_) (RdP.cons (n:=7) (o:=1) (o':=2) (Tryz.tab_ok 9 _ rfl) rfl ((RdS.str hB (Tryz.tab_ok 9 _ rfl) rfl) N_) (RdP.cons (n:=7) (o:=2) (o':=3) (Tryz.tab_ok 29 _ rfl) rfl ((RdS.slice hB (Tryz.tab_ok 29 _ rfl) rfl (Tryz.tab_ok 9 _ rfl) rfl (by decide) (fun _=>rfl) (RdS.str hB (Tryz.tab_ok 9 _ rfl) rfl)) N_) (RdP.cons (n:=7) (o:=3) (o':=4) (Tryz.tab_ok 41 _ rfl) rfl ((RdS.slice hB (Tryz.tab_ok 41 _ rfl) rfl (Tryz.tab_ok 129 _ rfl) rfl (by decide) (fun _=>rfl) (rd_TDir_129 hB)) N_) (RdP.cons (n:=7) (o:=4) (o':=5) (Tryz.tab_ok 42 _ rfl) rfl ((RdS.slice hB (Tryz.tab_ok 42 _ rfl) rfl (Tryz.tab_ok 53 _ rfl) rfl (by decide) (fun _=>rfl) (rd_TField_53 hB)) N_) (RdP.cons (n:=7) (o:=5) (o':=6) (Tryz.tab_ok 43 _ rfl) rfl ((RdS.slice hB (Tryz.tab_ok 43 _ rfl) rfl (Tryz.tab_ok 113 _ rfl) rfl (by decide) (fun _=>rfl) (rd_TMember_113 hB)) N_) (RdP.cons (n:=7) (o:=6) (o':=7) (Tryz.tab_ok 44 _ rfl) rfl ((RdS.slice hB (Tryz.tab_ok 44 _ rfl) rfl (Tryz.tab_ok 51 _ rfl) rfl (by decide) (fun _=>rfl) (rd_TInput_51 hB)) N_) (RdP.nil (n:=7)))))))))) (fun a=>(⟨a.1,a.2.1,a.2.2.1,a.2.2.2.1,a.2.2.2.2.1,a.2.2.2.2.2.1,a.2.2.2.2.2.2.1⟩:TDef)) (fun _=>rfl) (fun _=>Nat.le_refl _) (fun _ h=>h)
noncomputable def TDoc.sz (x:TDoc):Nat:=(Sl.sz TDef.sz) x.FDefs+(0)
def TDoc.wf (x:TDoc):Prop:=(Sl.wf TDef.wf) x.FDefs/\(True)
include hB in
theorem rd_TDoc_24:∀N,RdN Tryz.prog B N 24 TDoc.c TDoc.sz TDoc.wf:=RdA.struct hB (Tryz.tab_ok 24 _ rfl) rfl (fun N_=>(RdP.cons (n:=1) (o:=0) (o':=1) (Tryz.tab_ok 22 _ rfl) rfl ((RdS.slice hB (Tryz.tab_ok 22 _ rfl) rfl (Tryz.tab_ok 46 _ rfl) rfl (by decide) (fun _=>rfl) (rd_TDef_46 hB)) N_) (RdP.nil (n:=1)))) (fun a=>(⟨a.1⟩:TDoc)) (fun _=>rfl) (fun _=>Nat.le_refl _) (fun _ h=>h)
end
theorem Z9.sz_def (x:Z9):x.sz=0+1+1+Bs.sz x.FText+(Sl.sz Z9.sz) x.FItems+(Sl.sz Bs.sz) x.FKeys:=by
 rw [Z9.sz_eq]; try dsimp only
 omega
theorem Z9.pos (x:Z9):1<=x.sz:=by
 rw [Z9.sz_def]; have:=Bs.sz_pos x.FText; omega
theorem Z9.FInt_wf {x:Z9}(h:x.wf):i64 x.FInt:=((Z9.wf_iff x).1 h).2.1
theorem Z9.FItems_wf {x:Z9}(h:x.wf):(Sl.wf Z9.wf) x.FItems:=((Z9.wf_iff x).1 h).2.2.2.1
theorem Z9.FKeys_wf {x:Z9}(h:x.wf):(Sl.wf (fun _=>True)) x.FKeys:=((Z9.wf_iff x).1 h).2.2.2.2.1
theorem TArg.sz_def (x:TArg):x.sz=0+Bs.sz x.FName+Z9.sz x.FValue:=by
 unfold TArg.sz; try dsimp only
 omega
theorem TDir.sz_def (x:TDir):x.sz=0+Bs.sz x.FName+(Sl.sz TArg.sz) x.FArgs:=by
 unfold TDir.sz; try dsimp only
 omega
theorem TDir.pos (x:TDir):1<=x.sz:=by
 rw [TDir.sz_def]; have:=Bs.sz_pos x.FName; omega
theorem TRef.sz_def (x:TRef):x.sz=0+Bs.sz x.FName+(Sl.sz (fun _=>1)) x.FWraps:=by
 unfold TRef.sz; try dsimp only
 omega
theorem Z6.sz_def (x:Z6):x.sz=0+Bs.sz x.FName+TRef.sz x.FType+1+Z9.sz x.FDefault+(Sl.sz TDir.sz) x.FDirs:=by
 unfold Z6.sz; try dsimp only
 omega
theorem Z6.pos (x:Z6):1<=x.sz:=by
 rw [Z6.sz_def]; have:=Bs.sz_pos x.FName; omega
theorem Z6.FType_wf {x:Z6}(h:x.wf):TRef.wf x.FType:=h.2.1
theorem Z6.FDefault_wf {x:Z6}(h:x.wf):Z9.wf x.FDefault:=h.2.2.2.1
theorem Z4.sz_def (x:Z4):x.sz=0+Bs.sz x.FName+(Sl.sz Z6.sz) x.FArgs+TRef.sz x.FType+(Sl.sz TDir.sz) x.FDirs:=by
 unfold Z4.sz; try dsimp only
 omega
theorem Z4.pos (x:Z4):1<=x.sz:=by
 rw [Z4.sz_def]; have:=Bs.sz_pos x.FName; omega
theorem Z4.FArgs_wf {x:Z4}(h:x.wf):(Sl.wf Z6.wf) x.FArgs:=h.2.1
theorem Z4.FType_wf {x:Z4}(h:x.wf):TRef.wf x.FType:=h.2.2.1
theorem Z7.sz_def (x:Z7):x.sz=0+Bs.sz x.FName+(Sl.sz TDir.sz) x.FDirs:=by
 unfold Z7.sz; try dsimp only
 omega
theorem Z7.pos (x:Z7):1<=x.sz:=by
 rw [Z7.sz_def]; have:=Bs.sz_pos x.FName; omega
theorem TDef.sz_def (x:TDef):x.sz=0+1+Bs.sz x.FName+(Sl.sz Bs.sz) x.FImplements+(Sl.sz TDir.sz) x.FDirs+(Sl.sz Z4.sz) x.FFields+(Sl.sz Z7.sz) x.FMembers+(Sl.sz Z6.sz) x.FInputs:=by
 unfold TDef.sz; try dsimp only
 omega
theorem TDef.pos (x:TDef):1<=x.sz:=by
 rw [TDef.sz_def]; have:=Bs.sz_pos x.FName; omega
theorem TDef.FFields_wf {x:TDef}(h:x.wf):(Sl.wf Z4.wf) x.FFields:=h.2.2.2.2.1
theorem TDef.FInputs_wf {x:TDef}(h:x.wf):(Sl.wf Z6.wf) x.FInputs:=h.2.2.2.2.2.2.1
theorem TDoc.sz_def (x:TDoc):x.sz=0+(Sl.sz TDef.sz) x.FDefs:=by
 unfold TDoc.sz; try dsimp only
 omega
theorem TDoc.FDefs_wf {x:TDoc}(h:x.wf):(Sl.wf TDef.wf) x.FDefs:=h.1
end Go.Proofs

namespace Go.Proofs
open Go Go.Ab
open AOps Cert AWp Keeps KeepsT
variable {lou:Lou}
def Z65_j8  (s3_9:Int):Option Bool:=some (decide ((1000:Int)<s3_9))
def Z65_j19 (s4_14:Nat) (k_next_12:Int->Nat->Option Bool) (s3_20:Int):Option Bool:=k_next_12 s3_20 (s4_14+1)
def Z65_l36 (s4_14:Nat) (x22:TDef) (k_next_12:Int->Nat->Option Bool):Nat->Int->Nat->Option Bool
 | 0,_,_=>none
 | n36+1,s3_37,s6_38=>bif (decide (((s6_38:Nat):Int)<((x22.FFields.l.length:Nat):Int))) then((x22.FFields.l[s6_38]?).bind fun x44=>(x22.FFields.l[s6_38]?).bind fun x45=>(addC ((x44.FArgs.l.length:Nat):Int) ((x45.FDirs.l.length:Nat):Int)).bind fun x46=>(addC s3_37 x46).bind fun x47=>(Z65_l36 s4_14 x22 k_next_12 n36) x47 (s6_38+1)) else(Z65_j19 s4_14 k_next_12 s3_37)
def Z65_l12 (a0:TDoc) :Nat->Int->Nat->Option Bool
 | 0,_,_=>none
 | n12+1,s3_13,s4_14=>bif (decide (((s4_14:Nat):Int)<((a0.FDefs.l.length:Nat):Int))) then((a0.FDefs.l[s4_14]?).bind fun x22=>(addC (1:Int) ((x22.FFields.l.length:Nat):Int)).bind fun x25=>(addC x25 ((x22.FMembers.l.length:Nat):Int)).bind fun x27=>(addC x27 ((x22.FInputs.l.length:Nat):Int)).bind fun x29=>(addC x29 ((x22.FDirs.l.length:Nat):Int)).bind fun x31=>(addC x31 ((x22.FImplements.l.length:Nat):Int)).bind fun x33=>(addC s3_13 x33).bind fun x34=>Z65_l36 s4_14 x22 ((Z65_l12 a0 n12)) (x22.FFields.l.length+1) x34 0) else(Z65_j8   s3_13)
def Z65 (a0:TDoc):Option Bool:=bif (decide ((70:Int)<((a0.FDefs.l.length:Nat):Int))) then(some true) else(Z65_l12 a0 (a0.FDefs.l.length+1) (0:Int) 0)
theorem Z65_walk {a0:TDoc}{r:Bool}(hE:Z65 a0=some r) (H:Heap) :ACalls Tryz.prog 4 [.agg (TDoc.c a0)] H fun v h'=>v=.a (.d (.bool r))/\h'=H:=by
 unfold Z65 at hE;refine ACalls.oW 71 [.tmp 2] Tryz.call4 Tryz.func4 ?_;refine seqR (S BX (S As (nil ?_)));refine seqK fun K2 hK2=>?_;refine seqR (S Fv (S Ld ?_));refine sLen (f:=TDef.c) (s:=a0.FDefs) (TK rfl) rfl rfl rfl rfl fun hL4=>?_;refine S BI (nil ?_);refine cE hE (fun hc5 hE=>?_) (fun hc5 hE=>?_)
 ·refine seqR (S As (nil ?_));exact rt hE
 refine sk hK2 ?_;clear hK2 K2;refine seqR (S As (nil ?_));refine seqJH KeepsT.nil (fun(z:Int)=>[(3,.a (.d (.int .i64 z)))]) (fun z=>H) (fun z=>Z65_j8 z=some r) ?_ ?_
 ·intro K8 hK8;refine seqR (S As (nil ?_));refine block ?_;refine loopH (TA 1 KeepsT.nil) (fun(z:Nat×Int×Nat)=>[(3,.a (.d (.int .i64 z.2.1))),(4,.a (.d (.int .i64 ((z.2.2:Nat):Int))))]) (fun z=>H) (fun z=>z.1) (fun z=>Z65_l12 a0 z.1 z.2.1 z.2.2=some r) ((a0.FDefs.l.length+1),(0:Int),0) hE Weak.toA ?_;rintro ⟨n12,s3_13,s4_14⟩ hE K12 hK12;try dsimp only at hE
  cases n12 with
  | zero=>cases hE
  | succ n12 =>
    rw [Z65_l12] at hE;refine seqK fun K15 hK15=>?_;refine seqR (S Mv (S Fv (S Ld ?_)));refine sLen (f:=TDef.c) (s:=a0.FDefs) (TK rfl) rfl rfl rfl rfl fun hL17=>?_;refine S BI (nil ?_);refine cE hE (fun hc18 hE=>?_) (fun hc18 hE=>?_)
    ·try dsimp only at hc18
     have hf18:=of_decide_eq_true hc18;refine sk hK15 ?_;clear hK15 K15;refine seqJH (TA 1 (TA 4 KeepsT.nil)) (fun(z:Int)=>[(3,.a (.d (.int .i64 z)))]) (fun z=>H) (fun z=>Z65_j19 s4_14 ((Z65_l12 a0 n12)) z=some r) ?_ ?_
     ·intro K19 hK19;refine block ?_;refine seqR (S Fv (S Ld (S Mv ?_)));obtain⟨x22,gx22,hE⟩:=bO hE;refine S (ix TDef.c s4_14 gx22) (S Ld ?_);refine Sl ?_;refine Sf ?_;refine nil ?_;refine freezeA 5 _ rfl (KA 1 (KA 3 (KA 4 Keeps.nil))) ?_;refine seqR (S Mv (S Fv (S Ld ?_)));refine sLen (f:=Z4.c) (s:=x22.FFields) (TK rfl) rfl rfl rfl rfl fun hL24=>?_;obtain⟨x25,gx25,hE⟩:=bO hE;refine s0 (addM rfl rfl gx25) rfl ?_
      refine S Fv (S Ld ?_);refine sLen (f:=Z7.c) (s:=x22.FMembers) (TK rfl) rfl rfl rfl rfl fun hL26=>?_;obtain⟨x27,gx27,hE⟩:=bO hE;refine s0 (addM rfl rfl gx27) rfl ?_;refine S Fv (S Ld ?_);refine sLen (f:=Z6.c) (s:=x22.FInputs) (TK rfl) rfl rfl rfl rfl fun hL28=>?_;obtain⟨x29,gx29,hE⟩:=bO hE;refine s0 (addM rfl rfl gx29) rfl ?_;refine S Fv (S Ld ?_);refine sLen (f:=TDir.c) (s:=x22.FDirs) (TK rfl) rfl rfl rfl rfl fun hL30=>?_
      obtain⟨x31,gx31,hE⟩:=bO hE;refine s0 (addM rfl rfl gx31) rfl ?_;refine S Fv (S Ld ?_);refine sLen (f:=strE) (s:=x22.FImplements) (TK rfl) rfl rfl rfl rfl fun hL32=>?_;obtain⟨x33,gx33,hE⟩:=bO hE;refine s0 (addM rfl rfl gx33) rfl ?_;obtain⟨x34,gx34,hE⟩:=bO hE;refine s0 (addM rfl rfl gx34) rfl ?_;refine S As (nil ?_);refine seqR (S As (nil ?_));refine block ?_;refine loopH (TA 1 (TA 4 (TA 5 KeepsT.nil))) (fun(z:Nat×Int×Nat)=>[(3,.a (.d (.int .i64 z.2.1))),(6,.a (.d (.int .i64 ((z.2.2:Nat):Int))))]) (fun z=>H) (fun z=>z.1) (fun z=>Z65_l36 s4_14 x22 ((Z65_l12 a0 n12)) z.1 z.2.1 z.2.2=some r) ((x22.FFields.l.length+1),x34,0) hE Weak.toA ?_
      rintro ⟨n36,s3_37,s6_38⟩ hE K36 hK36;try dsimp only at hE
      cases n36 with
      | zero=>cases hE
      | succ n36 =>
        rw [Z65_l36] at hE;refine seqK fun K39 hK39=>?_;refine seqR (S Mv (S Fv (S Ld ?_)));refine sLen (f:=Z4.c) (s:=x22.FFields) (TK rfl) rfl rfl rfl rfl fun hL41=>?_;refine S BI (nil ?_);refine cE hE (fun hc42 hE=>?_) (fun hc42 hE=>?_)
        ·try dsimp only at hc42
         have hf42:=of_decide_eq_true hc42;refine sk hK39 ?_;clear hK39 K39;refine seqK fun K43 hK43=>?_;refine block ?_;refine AWp.draw rfl ?_;refine Sd Mv (Sd Fv (Sd Ld (Sd Mv ?_)));obtain⟨x44,gx44,hE⟩:=bO hE;refine Sd (ix Z4.c s6_38 gx44) (Sd Fv (Sd Ld ?_));refine DOps.s0 (lenM' (f:=Z6.c) (s:=x44.FArgs) (TK rfl) rfl rfl rfl) rfl ?_;refine Sd Fv (Sd Ld (Sd Mv ?_));obtain⟨x45,gx45,hE⟩:=bO hE;refine Sd (ix Z4.c s6_38 gx45) (Sd Fv (Sd Ld ?_))
         refine DOps.s0 (lenM' (f:=TDir.c) (s:=x45.FDirs) (TK rfl) rfl rfl rfl) rfl ?_;obtain⟨x46,gx46,hE⟩:=bO hE;refine DOps.s0 (addM rfl rfl gx46) rfl ?_;obtain⟨x47,gx47,hE⟩:=bO hE;refine DOps.s0 (addM rfl rfl gx47) rfl ?_;refine Sd As ?_;refine DOps.nil (by decide +kernel) ?_;refine hK43 _ ?_;clear hK43 K43;refine region ?_;refine S Mv ?_;refine SI ?_;refine S As (nil ?_);exact hK36 _ (n36,x47,(s6_38+1)) Weak.toA hE (Nat.lt_succ_self _)
        refine AWp.exit ?_;exact hK19 _ s3_37 Weak.toA hE
     rintro s3_20 hE;try dsimp only at hE
     unfold Z65_j19 at hE;refine region ?_;refine S Mv ?_;refine SI ?_;refine S As (nil ?_);exact hK12 _ (n12,s3_20,(s4_14+1)) Weak.toA hE (Nat.lt_succ_self _)
    refine AWp.exit ?_;exact hK8 _ s3_13 Weak.toA hE
 rintro s3_9 hE;try dsimp only at hE
 unfold Z65_j8 at hE;refine seqR (S Mv (S BI (S As (nil ?_))));exact rt hE
def Z42 (a0:Int):Option Bool:=some ((((decide ((65:Int)<=a0))&&(decide (a0<=(90:Int))))||((decide ((97:Int)<=a0))&&(decide (a0<=(122:Int)))))||(decide (a0=(95:Int))))
theorem Z42_walk {a0:Int}{r:Bool}(hE:Z42 a0=some r) (H:Heap) :ACalls Tryz.prog 43 [.d (.int .u8 a0)] H fun v h'=>v=.a (.d (.bool r))/\h'=H:=by
 unfold Z42 at hE;refine ACalls.oW 21 [.tmp 2] Tryz.call43 Tryz.func43 ?_;refine seqR (S As (nil ?_));refine seqR (S Mv (S BI (S Mv (G0 Mv ?_))));refine G1 6 rfl BI ?_;refine S PA (S Mv (G0 Mv ?_));refine G1 10 rfl BI ?_;refine G1 11 rfl Mv ?_;refine G0 Mv ?_;refine G1 13 rfl BI ?_;refine gC rfl rfl (fun hC=>ungdA (k:=12) rfl (pickAndA rfl rfl rfl)) rfl ?_;refine S PO (S Mv (G0 Mv ?_));refine G1 18 rfl BI ?_
 refine S PO (S As (nil ?_));exact rt hE
def Z41 (a0:Int):Option Bool:=some ((decide ((48:Int)<=a0))&&(decide (a0<=(57:Int))))
theorem Z41_walk {a0:Int}{r:Bool}(hE:Z41 a0=some r) (H:Heap) :ACalls Tryz.prog 44 [.d (.int .u8 a0)] H fun v h'=>v=.a (.d (.bool r))/\h'=H:=by
 unfold Z41 at hE;refine ACalls.oW 9 [.tmp 2] Tryz.call44 Tryz.func44 ?_;refine seqR (S As (nil ?_));refine seqR (S Mv (S BI (S Mv (G0 Mv ?_))));refine G1 6 rfl BI ?_;refine S PA (S As (nil ?_));exact rt hE
def Z40_j7  :Option Bool:=some true
def Z40_l10 (a0:Bs) :Nat->Nat->Option Bool
 | 0,_=>none
 | n10+1,s3_11=>bif (decide (((s3_11:Nat):Int)<((a0.length:Nat):Int))) then((a0[s3_11]?).bind fun x18=>(Z42 ((x18.toNat:Nat):Int)).bind fun x19=>guardO (((!x19)&&!(decide (((s3_11:Nat):Int)=(0:Int))))) (a0[s3_11]?) (0:UInt8) fun x20=>guardO (((!x19)&&!(decide (((s3_11:Nat):Int)=(0:Int))))) (Z41 ((x20.toNat:Nat):Int)) false fun x21=>bif ((!x19)&&((decide (((s3_11:Nat):Int)=(0:Int)))||(!x21))) then(some false) else((Z40_l10 a0 n10) (s3_11+1))) else(Z40_j7   )
def Z40 (a0:Bs):Option Bool:=bif ((decide (((a0.length:Nat):Int)<(1:Int)))||(decide ((64:Int)<((a0.length:Nat):Int)))) then(some false) else(Z40_l10 a0 (a0.length+1) 0)
theorem Z40_walk {a0:Bs}{r:Bool}(hE:Z40 a0=some r) (H:Heap) :ACalls Tryz.prog 19 [.d (.str a0)] H fun v h'=>v=.a (.d (.bool r))/\h'=H:=by
 unfold Z40 at hE;refine ACalls.oW 34 [.tmp 2] Tryz.call19 Tryz.func19 ?_;refine seqR (S As (nil ?_));refine seqK fun K2 hK2=>?_;refine seqR (S Mv ?_);refine sLenS (TK rfl) rfl rfl rfl rfl fun hL4=>?_;refine S BI (S Mv (G0 Mv ?_));refine gC rfl rfl (fun hC=>ungdA (k:=8) rfl (lenS (TK rfl) rfl rfl rfl)) rfl ?_;refine G1 9 rfl BI ?_;refine S PO (nil ?_);refine cE hE (fun hc5 hE=>?_) (fun hc5 hE=>?_)
 ·refine seqR (S As (nil ?_));exact rt hE
 refine sk hK2 ?_;clear hK2 K2;refine seqJH KeepsT.nil (fun(z:Unit)=>[]) (fun z=>H) (fun z=>Z40_j7 =some r) ?_ ?_
 ·intro K7 hK7;refine seqR (S As (nil ?_));refine block ?_;refine loopH (TA 0 KeepsT.nil) (fun(z:Nat×Nat)=>[(3,.a (.d (.int .i64 ((z.2:Nat):Int))))]) (fun z=>H) (fun z=>z.1) (fun z=>Z40_l10 a0 z.1 z.2=some r) ((a0.length+1),0) hE Weak.toA ?_;rintro ⟨n10,s3_11⟩ hE K10 hK10;try dsimp only at hE
  cases n10 with
  | zero=>cases hE
  | succ n10 =>
    rw [Z40_l10] at hE;refine seqK fun K12 hK12=>?_;refine seqR (S Mv (S Mv ?_));refine sLenS (TK rfl) rfl rfl rfl rfl fun hL14=>?_;refine S BI (nil ?_);refine cE hE (fun hc15 hE=>?_) (fun hc15 hE=>?_)
    ·try dsimp only at hc15
     have hf15:=of_decide_eq_true hc15;refine sk hK12 ?_;clear hK12 K12;refine seqK fun K16 hK16=>?_;refine block ?_;refine seqR (S Mv (S Mv ?_));obtain⟨x18,gx18,hE⟩:=bO hE;refine s0 (idxSn (n:=s3_11) (TK rfl) rfl rfl rfl gx18) rfl ?_;obtain⟨x19,gx19,hE⟩:=bO hE;refine Sc rfl rfl (Z42_walk gx19) ?_;refine S NB (S Mv (G0 Mv ?_));refine G1 24 rfl BI ?_;refine G1 25 rfl Mv ?_;refine G0 Mv (G0 Mv ?_);obtain⟨x20,gx20,hE⟩:=gO hE
     refine gC rfl rfl (fun hC=>ungdA (k:=27) rfl (ungdA (k:=28) rfl (idxSn (n:=s3_11) (TK rfl) rfl rfl rfl (gx20 hC)))) rfl ?_;obtain⟨x21,gx21,hE⟩:=gO hE;refine Gc1 29 rfl rfl rfl rfl rfl (fun hC=>Z41_walk (gx21 hC)) ?_;refine G1 30 rfl NB ?_;refine gC rfl rfl (fun hC=>ungdA (k:=26) rfl (pickOrA rfl rfl rfl)) rfl ?_;refine S PA (nil ?_);refine cE hE (fun hc22 hE=>?_) (fun hc22 hE=>?_)
     ·refine seqR (S As (nil ?_));exact rt hE
     refine sk hK16 ?_;clear hK16 K16;refine region ?_;refine S Mv ?_;refine SI ?_;refine S As (nil ?_);exact hK10 _ (n10,(s3_11+1)) Weak.toA hE (Nat.lt_succ_self _)
    refine AWp.exit ?_;exact hK7 _ () Weak.toA hE
 rintro _ hE;try dsimp only at hE
 unfold Z40_j7 at hE;refine seqR (S As (nil ?_));exact rt hE
def Z45_j3  (s3_4:Int):Option Int:=some s3_4
def Z45_l7 (a0:Z9) (k_rec_7:Z9->Option Int):Nat->Int->Nat->Option Int
 | 0,_,_=>none
 | n7+1,s3_8,s4_9=>bif (decide (((s4_9:Nat):Int)<((a0.FItems.l.length:Nat):Int))) then((a0.FItems.l[s4_9]?).bind fun x15=>(k_rec_7 x15).bind fun x16=>(addC s3_8 x16).bind fun x17=>(Z45_l7 a0 k_rec_7 n7) x17 (s4_9+1)) else(Z45_j3   s3_8)
def Z45_n:Nat->Z9->Option Int
 | 0,_=>none
 | n+1,a0=>Z45_l7 a0 (Z45_n n) (a0.FItems.l.length+1) (1:Int) 0
theorem Z45_step (n:Nat) (ih_7:∀{a0:Z9}{r:Int},Z45_n n a0=some r->∀(H:Heap),ACalls Tryz.prog 7 [.agg (Z9.c a0)] H fun v h'=>v=.a (.d (.int .i64 r))/\h'=H):∀{a0:Z9}{r:Int},Z45_n (n+1) a0=some r->∀(H:Heap),ACalls Tryz.prog 7 [.agg (Z9.c a0)] H fun v h'=>v=.a (.d (.int .i64 r))/\h'=H:=by
 intro a0   r hE H ;rw [Z45_n] at hE;refine ACalls.oW 21 [.tmp 2] Tryz.call7 Tryz.func7 ?_;refine seqR (S BX (S As (nil ?_)));refine seqR (S As (nil ?_));refine seqJH KeepsT.nil (fun(z:Int)=>[(3,.a (.d (.int .i64 z)))]) (fun z=>H) (fun z=>Z45_j3 z=some r) ?_ ?_
 ·intro K3 hK3;refine seqR (S As (nil ?_));refine block ?_;refine loopH (TA 1 KeepsT.nil) (fun(z:Nat×Int×Nat)=>[(3,.a (.d (.int .i64 z.2.1))),(4,.a (.d (.int .i64 ((z.2.2:Nat):Int))))]) (fun z=>H) (fun z=>z.1) (fun z=>Z45_l7 a0 (Z45_n n) z.1 z.2.1 z.2.2=some r) ((a0.FItems.l.length+1),(1:Int),0) hE Weak.toA ?_;rintro ⟨n7,s3_8,s4_9⟩ hE K7 hK7;try dsimp only at hE
  cases n7 with
  | zero=>cases hE
  | succ n7 =>
    rw [Z45_l7] at hE;refine seqK fun K10 hK10=>?_;refine seqR (S Mv (S Fv ?_));refine s0 (loadV (TK rfl) rfl rfl (congrArg (fun x=>some (A.d x)) (Z9.FItemsD_eq _))) rfl ?_;refine sLen (f:=Z9.c) (s:=a0.FItems) (TK rfl) rfl rfl rfl rfl fun hL12=>?_;refine S BI (nil ?_);refine cE hE (fun hc13 hE=>?_) (fun hc13 hE=>?_)
    ·try dsimp only at hc13
     have hf13:=of_decide_eq_true hc13;refine sk hK10 ?_;clear hK10 K10;refine seqK fun K14 hK14=>?_;refine block ?_;refine region ?_;refine S Mv (S Fv ?_);refine s0 (loadV (TK rfl) rfl rfl (congrArg (fun x=>some (A.d x)) (Z9.FItemsD_eq _))) rfl ?_;refine S Mv ?_;obtain⟨x15,gx15,hE⟩:=bO hE;refine S (ix Z9.c s4_9 gx15) (S Ld ?_);obtain⟨x16,gx16,hE⟩:=bO hE;refine Sc rfl rfl (ih_7 gx16) ?_;obtain⟨x17,gx17,hE⟩:=bO hE
     refine s0 (addM rfl rfl gx17) rfl ?_;refine S As (nil ?_);refine hK14 _ ?_;clear hK14 K14;refine region ?_;refine S Mv ?_;refine SI ?_;refine S As (nil ?_);exact hK7 _ (n7,x17,(s4_9+1)) Weak.toA hE (Nat.lt_succ_self _)
    refine AWp.exit ?_;exact hK3 _ s3_8 Weak.toA hE
 rintro s3_4 hE;try dsimp only at hE
 unfold Z45_j3 at hE;refine seqR (S Mv (S As (nil ?_)));exact rt hE
theorem Z45_all:∀(n:Nat),(∀{a0:Z9}{r:Int},Z45_n n a0=some r->∀(H:Heap),ACalls Tryz.prog 7 [.agg (Z9.c a0)] H fun v h'=>v=.a (.d (.int .i64 r))/\h'=H)
 | 0=>fun hE=>by first|cases hE|(rw [Z45_n] at hE; cases hE)
 | n+1=>Z45_step n (Z45_all n)
def Z45 (a0:Z9):Option Int:=Z45_n F0 a0
theorem Z45_walk {a0:Z9}{r:Int}(hE:Z45 a0=some r) (H:Heap) :ACalls Tryz.prog 7 [.agg (Z9.c a0)] H fun v h'=>v=.a (.d (.int .i64 r))/\h'=H:=(Z45_all F0) hE H 
def Z43_j3  (s3_4:Int):Option Int:=(addC s3_4 (1:Int)).bind fun x6=>some x6
def Z43_l8 (a0:Z9) (k_rec_20:Z9->Option Int):Nat->Int->Nat->Option Int
 | 0,_,_=>none
 | n8+1,s3_9,s4_10=>bif (decide (((s4_10:Nat):Int)<((a0.FItems.l.length:Nat):Int))) then((a0.FItems.l[s4_10]?).bind fun x16=>(k_rec_20 x16).bind fun x17=>(Z43_l8 a0 k_rec_20 n8) (if x17>s3_9 then x17 else s3_9) (s4_10+1)) else(Z43_j3   s3_9)
def Z43_n:Nat->Z9->Option Int
 | 0,_=>none
 | n+1,a0=>Z43_l8 a0 (Z43_n n) (a0.FItems.l.length+1) (0:Int) 0
theorem Z43_step (n:Nat) (ih_20:∀{a0:Z9}{r:Int},Z43_n n a0=some r->∀(H:Heap),ACalls Tryz.prog 20 [.agg (Z9.c a0)] H fun v h'=>v=.a (.d (.int .i64 r))/\h'=H):∀{a0:Z9}{r:Int},Z43_n (n+1) a0=some r->∀(H:Heap),ACalls Tryz.prog 20 [.agg (Z9.c a0)] H fun v h'=>v=.a (.d (.int .i64 r))/\h'=H:=by
 intro a0   r hE H ;rw [Z43_n] at hE;refine ACalls.oW 22 [.tmp 2] Tryz.call20 Tryz.func20 ?_;refine seqR (S BX (S As (nil ?_)));refine seqR (S As (nil ?_));refine seqJH KeepsT.nil (fun(z:Int)=>[(3,.a (.d (.int .i64 z)))]) (fun z=>H) (fun z=>Z43_j3 z=some r) ?_ ?_
 ·intro K3 hK3;refine seqR (S As (nil ?_));refine block ?_;refine loopH (TA 1 KeepsT.nil) (fun(z:Nat×Int×Nat)=>[(3,.a (.d (.int .i64 z.2.1))),(4,.a (.d (.int .i64 ((z.2.2:Nat):Int))))]) (fun z=>H) (fun z=>z.1) (fun z=>Z43_l8 a0 (Z43_n n) z.1 z.2.1 z.2.2=some r) ((a0.FItems.l.length+1),(0:Int),0) hE Weak.toA ?_;rintro ⟨n8,s3_9,s4_10⟩ hE K8 hK8;try dsimp only at hE
  cases n8 with
  | zero=>cases hE
  | succ n8 =>
    rw [Z43_l8] at hE;refine seqK fun K11 hK11=>?_;refine seqR (S Mv (S Fv ?_));refine s0 (loadV (TK rfl) rfl rfl (congrArg (fun x=>some (A.d x)) (Z9.FItemsD_eq _))) rfl ?_;refine sLen (f:=Z9.c) (s:=a0.FItems) (TK rfl) rfl rfl rfl rfl fun hL13=>?_;refine S BI (nil ?_);refine cE hE (fun hc14 hE=>?_) (fun hc14 hE=>?_)
    ·try dsimp only at hc14
     have hf14:=of_decide_eq_true hc14;refine sk hK11 ?_;clear hK11 K11;refine seqK fun K15 hK15=>?_;refine block ?_;refine region ?_;refine S Mv (S Fv ?_);refine s0 (loadV (TK rfl) rfl rfl (congrArg (fun x=>some (A.d x)) (Z9.FItemsD_eq _))) rfl ?_;refine S Mv ?_;obtain⟨x16,gx16,hE⟩:=bO hE;refine S (ix Z9.c s4_10 gx16) (S Ld ?_);obtain⟨x17,gx17,hE⟩:=bO hE;refine Sc rfl rfl (ih_20 gx17) ?_;refine s0 (maxM rfl rfl) rfl ?_
     refine S As (nil ?_);refine hK15 _ ?_;clear hK15 K15;refine region ?_;refine S Mv ?_;refine SI ?_;refine S As (nil ?_);exact hK8 _ (n8,(if x17>s3_9 then x17 else s3_9),(s4_10+1)) Weak.toA hE (Nat.lt_succ_self _)
    refine AWp.exit ?_;exact hK3 _ s3_9 Weak.toA hE
 rintro s3_4 hE;try dsimp only at hE
 unfold Z43_j3 at hE;refine seqR (S Mv ?_);obtain⟨x6,gx6,hE⟩:=bO hE;refine s0 (addM rfl rfl gx6) rfl ?_;refine S As (nil ?_);exact rt hE
theorem Z43_all:∀(n:Nat),(∀{a0:Z9}{r:Int},Z43_n n a0=some r->∀(H:Heap),ACalls Tryz.prog 20 [.agg (Z9.c a0)] H fun v h'=>v=.a (.d (.int .i64 r))/\h'=H)
 | 0=>fun hE=>by first|cases hE|(rw [Z43_n] at hE; cases hE)
 | n+1=>Z43_step n (Z43_all n)
def Z43 (a0:Z9):Option Int:=Z43_n F0 a0
theorem Z43_walk {a0:Z9}{r:Int}(hE:Z43 a0=some r) (H:Heap) :ACalls Tryz.prog 20 [.agg (Z9.c a0)] H fun v h'=>v=.a (.d (.int .i64 r))/\h'=H:=(Z43_all F0) hE H 
def Z47_j2  :Option Bool:=some false
def Z47_j11 (s3_6:Nat) (k_next_5:Nat->Option Bool) :Option Bool:=k_next_5 (s3_6+1)
def Z47_l13 (a0:(Sl Bs)) (s3_6:Nat) (k_next_5:Nat->Option Bool):Nat->Nat->Option Bool
 | 0,_=>none
 | n13+1,s4_14=>bif (decide (((s4_14:Nat):Int)<((s3_6:Nat):Int))) then((a0.l[s3_6]?).bind fun x20=>(a0.l[s4_14]?).bind fun x21=>bif ((x20==x21)) then(some true) else((Z47_l13 a0 s3_6 k_next_5 n13) (s4_14+1))) else(Z47_j11 s3_6 k_next_5 )
def Z47_l5 (a0:(Sl Bs)) :Nat->Nat->Option Bool
 | 0,_=>none
 | n5+1,s3_6=>bif (decide (((s3_6:Nat):Int)<((a0.l.length:Nat):Int))) then(Z47_l13 a0 s3_6 ((Z47_l5 a0 n5)) (s3_6+1) 0) else(Z47_j2   )
def Z47 (a0:(Sl Bs)):Option Bool:=Z47_l5 a0 (a0.l.length+1) 0
theorem Z47_walk {a0:Sl Bs}{w0:Option Nat}{r:Bool}(hE:Z47 a0=some r) (H:Heap) :ACalls Tryz.prog 74 [.d (Sl.d 1 strE w0 a0)] H fun v h'=>v=.a (.d (.bool r))/\h'=H:=by
 unfold Z47 at hE;refine ACalls.oW 25 [.tmp 2] Tryz.call74 Tryz.func74 ?_;refine seqR (S As (nil ?_));refine seqJH KeepsT.nil (fun(z:Unit)=>[]) (fun z=>H) (fun z=>Z47_j2 =some r) ?_ ?_
 ·intro K2 hK2;refine seqR (S As (nil ?_));refine block ?_;refine loopH (TA 0 KeepsT.nil) (fun(z:Nat×Nat)=>[(3,.a (.d (.int .i64 ((z.2:Nat):Int))))]) (fun z=>H) (fun z=>z.1) (fun z=>Z47_l5 a0 z.1 z.2=some r) ((a0.l.length+1),0) hE Weak.toA ?_;rintro ⟨n5,s3_6⟩ hE K5 hK5;try dsimp only at hE
  cases n5 with
  | zero=>cases hE
  | succ n5 =>
    rw [Z47_l5] at hE;refine seqK fun K7 hK7=>?_;refine seqR (S Mv (S Mv ?_));refine sLen (f:=strE) (s:=a0) (TK rfl) rfl rfl rfl rfl fun hL9=>?_;refine S BI (nil ?_);refine cE hE (fun hc10 hE=>?_) (fun hc10 hE=>?_)
    ·try dsimp only at hc10
     have hf10:=of_decide_eq_true hc10;refine sk hK7 ?_;clear hK7 K7;refine seqJH (TA 0 (TA 3 KeepsT.nil)) (fun(z:Unit)=>[]) (fun z=>H) (fun z=>Z47_j11 s3_6 ((Z47_l5 a0 n5)) =some r) ?_ ?_
     ·intro K11 hK11;refine block ?_;refine seqR (S As (nil ?_));refine block ?_;refine loopH (TA 0 (TA 3 KeepsT.nil)) (fun(z:Nat×Nat)=>[(4,.a (.d (.int .i64 ((z.2:Nat):Int))))]) (fun z=>H) (fun z=>z.1) (fun z=>Z47_l13 a0 s3_6 ((Z47_l5 a0 n5)) z.1 z.2=some r) ((s3_6+1),0) hE Weak.toA ?_;rintro ⟨n13,s4_14⟩ hE K13 hK13;try dsimp only at hE
      cases n13 with
      | zero=>cases hE
      | succ n13 =>
        rw [Z47_l13] at hE;refine seqK fun K15 hK15=>?_;refine seqR (S Mv (S Mv (S BI (nil ?_))));refine cE hE (fun hc17 hE=>?_) (fun hc17 hE=>?_)
        ·try dsimp only at hc17
         have hf17:=of_decide_eq_true hc17;refine sk hK15 ?_;clear hK15 K15;refine seqK fun K18 hK18=>?_;refine block ?_;refine AWp.seqD (Sd Mv (Sd Mv ?_));obtain⟨x20,gx20,hE⟩:=bO hE;refine Sd (ix strE s3_6 gx20) (Sd Ld (Sd Mv (Sd Mv ?_)));obtain⟨x21,gx21,hE⟩:=bO hE;refine Sd (ix strE s4_14 gx21) (Sd Ld (Sd BS ?_));refine DOps.nil (by decide +kernel) ?_;refine cE hE (fun hc22 hE=>?_) (fun hc22 hE=>?_)
         ·refine seqR (S As (nil ?_));exact rt hE
         refine sk hK18 ?_;clear hK18 K18;refine region ?_;refine S Mv ?_;refine SI ?_;refine S As (nil ?_);exact hK13 _ (n13,(s4_14+1)) Weak.toA hE (Nat.lt_succ_self _)
        refine AWp.exit ?_;exact hK11 _ () Weak.toA hE
     rintro _ hE;try dsimp only at hE
     unfold Z47_j11 at hE;refine region ?_;refine S Mv ?_;refine SI ?_;refine S As (nil ?_);exact hK5 _ (n5,(s3_6+1)) Weak.toA hE (Nat.lt_succ_self _)
    refine AWp.exit ?_;exact hK2 _ () Weak.toA hE
 rintro _ hE;try dsimp only at hE
 unfold Z47_j2 at hE;refine seqR (S As (nil ?_));exact rt hE
end Go.Proofs

namespace Go.Proofs
open Go Go.Ab
open AOps Cert AWp Keeps KeepsT
variable {lou:Lou}
def Z46 (a0:Z9) (a1:Bool):Option Bool:=bif (decide (a0.FKind=(0:Int))) then(some ((((decide (a0.FInt=(0:Int)))&&((a0.FText==([]:Bs))))&&(decide (((a0.FItems.l.length:Nat):Int)=(0:Int))))&&(decide (((a0.FKeys.l.length:Nat):Int)=(0:Int))))) else(bif (decide (a0.FKind=(1:Int))) then(some (((((decide (a0.FInt=(0:Int)))||(decide (a0.FInt=(1:Int))))&&((a0.FText==([]:Bs))))&&(decide (((a0.FItems.l.length:Nat):Int)=(0:Int))))&&(decide (((a0.FKeys.l.length:Nat):Int)=(0:Int))))) else(bif (decide (a0.FKind=(2:Int))) then(some ((((a0.FText==([]:Bs)))&&(decide (((a0.FItems.l.length:Nat):Int)=(0:Int))))&&(decide (((a0.FKeys.l.length:Nat):Int)=(0:Int))))) else(bif (decide (a0.FKind=(3:Int))) then(some (((decide (a0.FInt=(0:Int)))&&(decide (((a0.FItems.l.length:Nat):Int)=(0:Int))))&&(decide (((a0.FKeys.l.length:Nat):Int)=(0:Int))))) else(bif (decide (a0.FKind=(4:Int))) then(guardO ((((decide (a0.FInt=(0:Int)))&&(decide (((a0.FItems.l.length:Nat):Int)=(0:Int))))&&(decide (((a0.FKeys.l.length:Nat):Int)=(0:Int))))) (Z40 a0.FText) false fun x19=>some (((((((decide (a0.FInt=(0:Int)))&&(decide (((a0.FItems.l.length:Nat):Int)=(0:Int))))&&(decide (((a0.FKeys.l.length:Nat):Int)=(0:Int))))&&x19)&&(!(a0.FText==([116,114,117,101]:Bs))))&&(!(a0.FText==([102,97,108,115,101]:Bs))))&&(!(a0.FText==([110,117,108,108]:Bs))))) else(bif (decide (a0.FKind=(5:Int))) then(some (((decide (a0.FInt=(0:Int)))&&((a0.FText==([]:Bs))))&&(decide (((a0.FKeys.l.length:Nat):Int)=(0:Int))))) else(bif (decide (a0.FKind=(6:Int))) then(guardO ((((decide (a0.FInt=(0:Int)))&&((a0.FText==([]:Bs))))&&(decide (((a0.FKeys.l.length:Nat):Int)=((a0.FItems.l.length:Nat):Int))))) (Z47 a0.FKeys) false fun x26=>some ((((decide (a0.FInt=(0:Int)))&&((a0.FText==([]:Bs))))&&(decide (((a0.FKeys.l.length:Nat):Int)=((a0.FItems.l.length:Nat):Int))))&&(!x26))) else(bif (decide (a0.FKind=(7:Int))) then(guardO ((((a1&&(decide (a0.FInt=(0:Int))))&&(decide (((a0.FItems.l.length:Nat):Int)=(0:Int))))&&(decide (((a0.FKeys.l.length:Nat):Int)=(0:Int))))) (Z40 a0.FText) false fun x30=>some ((((a1&&(decide (a0.FInt=(0:Int))))&&(decide (((a0.FItems.l.length:Nat):Int)=(0:Int))))&&(decide (((a0.FKeys.l.length:Nat):Int)=(0:Int))))&&x30)) else(some false))))))))
theorem Z46_walk {a0:Z9}{a1 r:Bool}(hE:Z46 a0 a1=some r) (H:Heap) :ACalls Tryz.prog 45 [.agg (Z9.c a0),.d (.bool a1)] H fun v h'=>v=.a (.d (.bool r))/\h'=H:=by
 unfold Z46 at hE;refine ACalls.oW 193 [.tmp 4] Tryz.call45 Tryz.func45 ?_;refine seqR (S BX (S As (nil ?_)));refine seqK fun K2 hK2=>?_;refine seqR (S Fv (S Ld (nil ?_)));refine block ?_;refine seqR (S BI (S As (nil ?_)));refine cE hE (fun hc5 hE=>?_) (fun hc5 hE=>?_)
 ·refine seqR (S Fv (S Ld (S BI (S Mv (G0 Fv ?_)))));refine G1 13 rfl Ld ?_;refine G1 14 rfl BS ?_;refine S PA (S Mv (G0 Fv ?_));refine gC rfl rfl (fun hC=>ungdA (k:=18) rfl (loadV (TK rfl) rfl rfl (congrArg (fun x=>some (A.d x)) (Z9.FItemsD_eq _)))) rfl ?_;refine gC rfl rfl (fun hC=>ungdA (k:=19) rfl (lenM' (f:=Z9.c) (s:=a0.FItems) (TK rfl) rfl rfl rfl)) rfl ?_;refine G1 20 rfl BI ?_;refine S PA (S Mv (G0 Fv ?_))
  refine G1 24 rfl Ld ?_;refine gC rfl rfl (fun hC=>ungdA (k:=25) rfl (lenM' (f:=strE) (s:=a0.FKeys) (TK rfl) rfl rfl rfl)) rfl ?_;refine G1 26 rfl BI ?_;refine S PA (S As (nil ?_));exact rt hE
 refine seqR (S BI (S As (nil ?_)));refine cE hE (fun hc8 hE=>?_) (fun hc8 hE=>?_)
 ·refine seqR (S Fv (S Ld (S BI (S Mv (G0 Fv ?_)))));refine G1 35 rfl Ld ?_;refine G1 36 rfl BI ?_;refine S PO (S Mv (G0 Fv ?_));refine G1 40 rfl Ld ?_;refine G1 41 rfl BS ?_;refine S PA (S Mv (G0 Fv ?_));refine gC rfl rfl (fun hC=>ungdA (k:=45) rfl (loadV (TK rfl) rfl rfl (congrArg (fun x=>some (A.d x)) (Z9.FItemsD_eq _)))) rfl ?_;refine gC rfl rfl (fun hC=>ungdA (k:=46) rfl (lenM' (f:=Z9.c) (s:=a0.FItems) (TK rfl) rfl rfl rfl)) rfl ?_
  refine G1 47 rfl BI ?_;refine S PA (S Mv (G0 Fv ?_));refine G1 51 rfl Ld ?_;refine gC rfl rfl (fun hC=>ungdA (k:=52) rfl (lenM' (f:=strE) (s:=a0.FKeys) (TK rfl) rfl rfl rfl)) rfl ?_;refine G1 53 rfl BI ?_;refine S PA (S As (nil ?_));exact rt hE
 refine seqR (S BI (S As (nil ?_)));refine cE hE (fun hc11 hE=>?_) (fun hc11 hE=>?_)
 ·refine seqR (S Fv (S Ld (S BS (S Mv (G0 Fv ?_)))));refine gC rfl rfl (fun hC=>ungdA (k:=62) rfl (loadV (TK rfl) rfl rfl (congrArg (fun x=>some (A.d x)) (Z9.FItemsD_eq _)))) rfl ?_;refine gC rfl rfl (fun hC=>ungdA (k:=63) rfl (lenM' (f:=Z9.c) (s:=a0.FItems) (TK rfl) rfl rfl rfl)) rfl ?_;refine G1 64 rfl BI ?_;refine S PA (S Mv (G0 Fv ?_));refine G1 68 rfl Ld ?_;refine gC rfl rfl (fun hC=>ungdA (k:=69) rfl (lenM' (f:=strE) (s:=a0.FKeys) (TK rfl) rfl rfl rfl)) rfl ?_
  refine G1 70 rfl BI ?_;refine S PA (S As (nil ?_));exact rt hE
 refine seqR (S BI (S As (nil ?_)));refine cE hE (fun hc14 hE=>?_) (fun hc14 hE=>?_)
 ·refine seqR (S Fv (S Ld (S BI (S Mv (G0 Fv ?_)))));refine gC rfl rfl (fun hC=>ungdA (k:=79) rfl (loadV (TK rfl) rfl rfl (congrArg (fun x=>some (A.d x)) (Z9.FItemsD_eq _)))) rfl ?_;refine gC rfl rfl (fun hC=>ungdA (k:=80) rfl (lenM' (f:=Z9.c) (s:=a0.FItems) (TK rfl) rfl rfl rfl)) rfl ?_;refine G1 81 rfl BI ?_;refine S PA (S Mv (G0 Fv ?_));refine G1 85 rfl Ld ?_;refine gC rfl rfl (fun hC=>ungdA (k:=86) rfl (lenM' (f:=strE) (s:=a0.FKeys) (TK rfl) rfl rfl rfl)) rfl ?_
  refine G1 87 rfl BI ?_;refine S PA (S As (nil ?_));exact rt hE
 refine seqR (S BI (S As (nil ?_)));refine cE hE (fun hc17 hE=>?_) (fun hc17 hE=>?_)
 ·refine seqR (S Fv (S Ld (S BI (S Mv (G0 Fv ?_)))));refine gC rfl rfl (fun hC=>ungdA (k:=96) rfl (loadV (TK rfl) rfl rfl (congrArg (fun x=>some (A.d x)) (Z9.FItemsD_eq _)))) rfl ?_;refine gC rfl rfl (fun hC=>ungdA (k:=97) rfl (lenM' (f:=Z9.c) (s:=a0.FItems) (TK rfl) rfl rfl rfl)) rfl ?_;refine G1 98 rfl BI ?_;refine S PA (S Mv (G0 Fv ?_));refine G1 102 rfl Ld ?_;refine gC rfl rfl (fun hC=>ungdA (k:=103) rfl (lenM' (f:=strE) (s:=a0.FKeys) (TK rfl) rfl rfl rfl)) rfl ?_
  refine G1 104 rfl BI ?_;refine S PA (S Mv (G0 Fv ?_));refine G1 108 rfl Ld ?_;obtain⟨x19,gx19,hE⟩:=gO hE;refine Gc1 109 rfl rfl rfl rfl rfl (fun hC=>Z40_walk (gx19 hC)) ?_;refine S PA (S Mv (G0 Fv ?_));refine G1 113 rfl Ld ?_;refine G1 114 rfl BS ?_;refine S PA (S Mv (G0 Fv ?_));refine G1 118 rfl Ld ?_;refine G1 119 rfl BS ?_;refine S PA (S Mv (G0 Fv ?_));refine G1 123 rfl Ld ?_;refine G1 124 rfl BS ?_
  refine S PA (S As (nil ?_));exact rt hE
 refine seqR (S BI (S As (nil ?_)));refine cE hE (fun hc21 hE=>?_) (fun hc21 hE=>?_)
 ·refine seqR (S Fv (S Ld (S BI (S Mv (G0 Fv ?_)))));refine G1 133 rfl Ld ?_;refine G1 134 rfl BS ?_;refine S PA (S Mv (G0 Fv ?_));refine G1 138 rfl Ld ?_;refine gC rfl rfl (fun hC=>ungdA (k:=139) rfl (lenM' (f:=strE) (s:=a0.FKeys) (TK rfl) rfl rfl rfl)) rfl ?_;refine G1 140 rfl BI ?_;refine S PA (S As (nil ?_));exact rt hE
 refine seqR (S BI (S As (nil ?_)));refine cE hE (fun hc24 hE=>?_) (fun hc24 hE=>?_)
 ·refine seqR (S Fv (S Ld (S BI (S Mv (G0 Fv ?_)))));refine G1 149 rfl Ld ?_;refine G1 150 rfl BS ?_;refine S PA (S Mv (G0 Fv ?_));refine G1 154 rfl Ld ?_;refine gC rfl rfl (fun hC=>ungdA (k:=155) rfl (lenM' (f:=strE) (s:=a0.FKeys) (TK rfl) rfl rfl rfl)) rfl ?_;refine G0 Fv ?_;refine gC rfl rfl (fun hC=>ungdA (k:=157) rfl (loadV (TK rfl) rfl rfl (congrArg (fun x=>some (A.d x)) (Z9.FItemsD_eq _)))) rfl ?_
  refine gC rfl rfl (fun hC=>ungdA (k:=158) rfl (lenM' (f:=Z9.c) (s:=a0.FItems) (TK rfl) rfl rfl rfl)) rfl ?_;refine G2 156 159 rfl rfl BI ?_;refine S PA (S Mv (G0 Fv ?_));refine G1 163 rfl Ld ?_;obtain⟨x26,gx26,hE⟩:=gO hE;refine Gc1 164 rfl rfl rfl rfl rfl (fun hC=>Z47_walk (gx26 hC)) ?_;refine G1 165 rfl NB ?_;refine S PA (S As (nil ?_));exact rt hE
 refine seqR (S BI (S As (nil ?_)));refine cE hE (fun hc28 hE=>?_) (fun hc28 hE=>?_)
 ·refine seqR (S Mv (S Mv (G0 Fv ?_)));refine G1 172 rfl Ld ?_;refine G1 173 rfl BI ?_;refine S PA (S Mv (G0 Fv ?_));refine gC rfl rfl (fun hC=>ungdA (k:=177) rfl (loadV (TK rfl) rfl rfl (congrArg (fun x=>some (A.d x)) (Z9.FItemsD_eq _)))) rfl ?_;refine gC rfl rfl (fun hC=>ungdA (k:=178) rfl (lenM' (f:=Z9.c) (s:=a0.FItems) (TK rfl) rfl rfl rfl)) rfl ?_;refine G1 179 rfl BI ?_;refine S PA (S Mv (G0 Fv ?_))
  refine G1 183 rfl Ld ?_;refine gC rfl rfl (fun hC=>ungdA (k:=184) rfl (lenM' (f:=strE) (s:=a0.FKeys) (TK rfl) rfl rfl rfl)) rfl ?_;refine G1 185 rfl BI ?_;refine S PA (S Mv (G0 Fv ?_));refine G1 189 rfl Ld ?_;obtain⟨x30,gx30,hE⟩:=gO hE;refine Gc1 190 rfl rfl rfl rfl rfl (fun hC=>Z40_walk (gx30 hC)) ?_;refine S PA (S As (nil ?_));exact rt hE
 refine sk hK2 ?_;clear hK2 K2;refine seqR (S As (nil ?_));exact rt hE
def Z48_j8  :Option Bool:=some true
def Z48_l11 (a0:Z9) (a1:Bool) (k_rec_21:Z9->Bool->Option Bool):Nat->Nat->Option Bool
 | 0,_=>none
 | n11+1,s6_12=>bif (decide (((s6_12:Nat):Int)<((a0.FItems.l.length:Nat):Int))) then((a0.FItems.l[s6_12]?).bind fun x19=>(k_rec_21 x19 a1).bind fun x20=>bif (!x20) then(some false) else((Z48_l11 a0 a1 k_rec_21 n11) (s6_12+1))) else(Z48_j8   )
def Z48_j7 (a0:Z9) (a1:Bool) (k_rec_21:Z9->Bool->Option Bool) :Option Bool:=Z48_l11 a0 a1 k_rec_21 (a0.FItems.l.length+1) 0
def Z48_l24 (a0:Z9) (a1:Bool) (k_rec_21:Z9->Bool->Option Bool):Nat->Nat->Option Bool
 | 0,_=>none
 | n24+1,s5_25=>bif (decide (((s5_25:Nat):Int)<((a0.FKeys.l.length:Nat):Int))) then(guardO (a1) (a0.FKeys.l[s5_25]?) ([]:Bs) fun x32=>guardO (a1) (Z40 x32) false fun x33=>bif (a1&&(!x33)) then(some false) else((Z48_l24 a0 a1 k_rec_21 n24) (s5_25+1))) else(Z48_j7 a0 a1 k_rec_21 )
def Z48_n:Nat->Z9->Bool->Option Bool
 | 0,_,_=>none
 | n+1,a0,a1=>(Z46 a0 a1).bind fun x4=>bif (!x4) then(some false) else(Z48_l24 a0 a1 (Z48_n n) (a0.FKeys.l.length+1) 0)
theorem Z48_step (n:Nat) (ih_21:∀{a0:Z9}{a1 r:Bool},Z48_n n a0 a1=some r->∀(H:Heap),ACalls Tryz.prog 21 [.agg (Z9.c a0),.d (.bool a1)] H fun v h'=>v=.a (.d (.bool r))/\h'=H):∀{a0:Z9}{a1 r:Bool},Z48_n (n+1) a0 a1=some r->∀(H:Heap),ACalls Tryz.prog 21 [.agg (Z9.c a0),.d (.bool a1)] H fun v h'=>v=.a (.d (.bool r))/\h'=H:=by
 intro a0 a1   r hE H ;rw [Z48_n] at hE;refine ACalls.oW 43 [.tmp 4] Tryz.call21 Tryz.func21 ?_;refine seqR (S BX (S As (nil ?_)));refine seqK fun K2 hK2=>?_;refine seqR (S Ld (S Mv ?_));obtain⟨x4,gx4,hE⟩:=bO hE;refine Sc rfl rfl (Z46_walk gx4) ?_;refine S NB (nil ?_);refine cE hE (fun hc5 hE=>?_) (fun hc5 hE=>?_)
 ·refine seqR (S As (nil ?_));exact rt hE
 refine sk hK2 ?_;clear hK2 K2;refine seqJH (TA 1 (TA 2 KeepsT.nil)) (fun(z:Unit)=>[]) (fun z=>H) (fun z=>Z48_j7 a0 a1 (Z48_n n) =some r) ?_ ?_
 ·intro K7 hK7;refine seqR (S As (nil ?_));refine block ?_;refine loopH (TA 1 (TA 2 KeepsT.nil)) (fun(z:Nat×Nat)=>[(5,.a (.d (.int .i64 ((z.2:Nat):Int))))]) (fun z=>H) (fun z=>z.1) (fun z=>Z48_l24 a0 a1 (Z48_n n) z.1 z.2=some r) ((a0.FKeys.l.length+1),0) hE Weak.toA ?_;rintro ⟨n24,s5_25⟩ hE K24 hK24;try dsimp only at hE
  cases n24 with
  | zero=>cases hE
  | succ n24 =>
    rw [Z48_l24] at hE;refine seqK fun K26 hK26=>?_;refine seqR (S Mv (S Fv (S Ld ?_)));refine sLen (f:=strE) (s:=a0.FKeys) (TK rfl) rfl rfl rfl rfl fun hL28=>?_;refine S BI (nil ?_);refine cE hE (fun hc29 hE=>?_) (fun hc29 hE=>?_)
    ·try dsimp only at hc29
     have hf29:=of_decide_eq_true hc29;refine sk hK26 ?_;clear hK26 K26;refine seqK fun K30 hK30=>?_;refine block ?_;refine seqR (S Mv (S Mv (G0 Fv ?_)));refine G1 20 rfl Ld ?_;refine G0 Mv ?_;obtain⟨x32,gx32,hE⟩:=gO hE;refine gC rfl rfl (fun hC=>ungdA (k:=21) rfl (ungdA (k:=22) rfl (idxMn (f:=strE) (n:=s5_25) (TK rfl) rfl (TK rfl) rfl rfl rfl (gx32 hC)))) rfl ?_;refine G1 23 rfl Ld ?_;obtain⟨x33,gx33,hE⟩:=gO hE
     refine Gc1 24 rfl rfl rfl rfl rfl (fun hC=>Z40_walk (gx33 hC)) ?_;refine G1 25 rfl NB ?_;refine S PA (nil ?_);refine cE hE (fun hc34 hE=>?_) (fun hc34 hE=>?_)
     ·refine seqR (S As (nil ?_));exact rt hE
     refine sk hK30 ?_;clear hK30 K30;refine region ?_;refine S Mv ?_;refine SI ?_;refine S As (nil ?_);exact hK24 _ (n24,(s5_25+1)) Weak.toA hE (Nat.lt_succ_self _)
    refine AWp.exit ?_;exact hK7 _ () Weak.toA hE
 rintro _ hE;try dsimp only at hE
 unfold Z48_j7 at hE;refine seqJH KeepsT.nil (fun(z:Unit)=>[]) (fun z=>H) (fun z=>Z48_j8 =some r) ?_ ?_
 ·intro K8 hK8;refine seqR (S As (nil ?_));refine block ?_;refine loopH (TA 1 (TA 2 KeepsT.nil)) (fun(z:Nat×Nat)=>[(6,.a (.d (.int .i64 ((z.2:Nat):Int))))]) (fun z=>H) (fun z=>z.1) (fun z=>Z48_l11 a0 a1 (Z48_n n) z.1 z.2=some r) ((a0.FItems.l.length+1),0) hE Weak.toA ?_;rintro ⟨n11,s6_12⟩ hE K11 hK11;try dsimp only at hE
  cases n11 with
  | zero=>cases hE
  | succ n11 =>
    rw [Z48_l11] at hE;refine seqK fun K13 hK13=>?_;refine seqR (S Mv (S Fv ?_));refine s0 (loadV (TK rfl) rfl rfl (congrArg (fun x=>some (A.d x)) (Z9.FItemsD_eq _))) rfl ?_;refine sLen (f:=Z9.c) (s:=a0.FItems) (TK rfl) rfl rfl rfl rfl fun hL15=>?_;refine S BI (nil ?_);refine cE hE (fun hc16 hE=>?_) (fun hc16 hE=>?_)
    ·try dsimp only at hc16
     have hf16:=of_decide_eq_true hc16;refine sk hK13 ?_;clear hK13 K13;refine seqK fun K17 hK17=>?_;refine block ?_;refine seqR (S Fv ?_);refine s0 (loadV (TK rfl) rfl rfl (congrArg (fun x=>some (A.d x)) (Z9.FItemsD_eq _))) rfl ?_;refine S Mv ?_;obtain⟨x19,gx19,hE⟩:=bO hE;refine S (ix Z9.c s6_12 gx19) (S Ld (S Mv ?_));obtain⟨x20,gx20,hE⟩:=bO hE;refine Sc rfl rfl (ih_21 gx20) ?_;refine S NB (nil ?_)
     refine cE hE (fun hc21 hE=>?_) (fun hc21 hE=>?_)
     ·refine seqR (S As (nil ?_));exact rt hE
     refine sk hK17 ?_;clear hK17 K17;refine region ?_;refine S Mv ?_;refine SI ?_;refine S As (nil ?_);exact hK11 _ (n11,(s6_12+1)) Weak.toA hE (Nat.lt_succ_self _)
    refine AWp.exit ?_;exact hK8 _ () Weak.toA hE
 rintro _ hE;try dsimp only at hE
 unfold Z48_j8 at hE;refine seqR (S As (nil ?_));exact rt hE
theorem Z48_all:∀(n:Nat),(∀{a0:Z9}{a1 r:Bool},Z48_n n a0 a1=some r->∀(H:Heap),ACalls Tryz.prog 21 [.agg (Z9.c a0),.d (.bool a1)] H fun v h'=>v=.a (.d (.bool r))/\h'=H)
 | 0=>fun hE=>by first|cases hE|(rw [Z48_n] at hE; cases hE)
 | n+1=>Z48_step n (Z48_all n)
def Z48 (a0:Z9) (a1:Bool):Option Bool:=Z48_n F0 a0 a1
theorem Z48_walk {a0:Z9}{a1 r:Bool}(hE:Z48 a0 a1=some r) (H:Heap) :ACalls Tryz.prog 21 [.agg (Z9.c a0),.d (.bool a1)] H fun v h'=>v=.a (.d (.bool r))/\h'=H:=(Z48_all F0) hE H 
def Z44 (a0:Z9):Option Bool:=(Z45 a0).bind fun x3=>guardO ((decide (x3<=(4096:Int)))) (Z43 a0) (0:Int) fun x4=>guardO (((decide (x3<=(4096:Int)))&&(decide (x4<=(24:Int))))) (Z48 a0 true) false fun x5=>some (((decide (x3<=(4096:Int)))&&(decide (x4<=(24:Int))))&&x5)
theorem Z44_walk {a0:Z9}{r:Bool}(hE:Z44 a0=some r) (H:Heap) :ACalls Tryz.prog 8 [.agg (Z9.c a0)] H fun v h'=>v=.a (.d (.bool r))/\h'=H:=by
 unfold Z44 at hE;refine ACalls.oW 15 [.tmp 2] Tryz.call8 Tryz.func8 ?_;refine seqR (S BX (S As (nil ?_)));refine seqR (S Ld ?_);obtain⟨x3,gx3,hE⟩:=bO hE;refine Sc rfl rfl (Z45_walk gx3) ?_;refine S BI (S Mv (G0 Ld ?_));obtain⟨x4,gx4,hE⟩:=gO hE;refine Gc1 7 rfl rfl rfl rfl rfl (fun hC=>Z43_walk (gx4 hC)) ?_;refine G1 8 rfl BI ?_;refine S PA (S Mv (G0 Ld ?_));obtain⟨x5,gx5,hE⟩:=gO hE;refine Gc1 12 rfl rfl rfl rfl rfl (fun hC=>Z48_walk (gx5 hC)) ?_
 refine S PA (S As (nil ?_));exact rt hE
def Z57_j2 (a0:Z9)  :Option Bool:=some (!decide (a0.FKind=(7:Int)))
def Z57_l5 (a0:Z9) (k_rec_72:Z9->Option Bool):Nat->Nat->Option Bool
 | 0,_=>none
 | n5+1,s3_6=>bif (decide (((s3_6:Nat):Int)<((a0.FItems.l.length:Nat):Int))) then((a0.FItems.l[s3_6]?).bind fun x13=>(k_rec_72 x13).bind fun x14=>bif (!x14) then(some false) else((Z57_l5 a0 k_rec_72 n5) (s3_6+1))) else(Z57_j2 a0  )
def Z57_n:Nat->Z9->Option Bool
 | 0,_=>none
 | n+1,a0=>Z57_l5 a0 (Z57_n n) (a0.FItems.l.length+1) 0
theorem Z57_step (n:Nat) (ih_72:∀{a0:Z9}{r:Bool},Z57_n n a0=some r->∀(H:Heap),ACalls Tryz.prog 72 [.agg (Z9.c a0)] H fun v h'=>v=.a (.d (.bool r))/\h'=H):∀{a0:Z9}{r:Bool},Z57_n (n+1) a0=some r->∀(H:Heap),ACalls Tryz.prog 72 [.agg (Z9.c a0)] H fun v h'=>v=.a (.d (.bool r))/\h'=H:=by
 intro a0   r hE H ;rw [Z57_n] at hE;refine ACalls.oW 21 [.tmp 2] Tryz.call72 Tryz.func72 ?_;refine seqR (S BX (S As (nil ?_)));refine seqJH (TA 1 KeepsT.nil) (fun(z:Unit)=>[]) (fun z=>H) (fun z=>Z57_j2 a0 =some r) ?_ ?_
 ·intro K2 hK2;refine seqR (S As (nil ?_));refine block ?_;refine loopH (TA 1 KeepsT.nil) (fun(z:Nat×Nat)=>[(3,.a (.d (.int .i64 ((z.2:Nat):Int))))]) (fun z=>H) (fun z=>z.1) (fun z=>Z57_l5 a0 (Z57_n n) z.1 z.2=some r) ((a0.FItems.l.length+1),0) hE Weak.toA ?_;rintro ⟨n5,s3_6⟩ hE K5 hK5;try dsimp only at hE
  cases n5 with
  | zero=>cases hE
  | succ n5 =>
    rw [Z57_l5] at hE;refine seqK fun K7 hK7=>?_;refine seqR (S Mv (S Fv ?_));refine s0 (loadV (TK rfl) rfl rfl (congrArg (fun x=>some (A.d x)) (Z9.FItemsD_eq _))) rfl ?_;refine sLen (f:=Z9.c) (s:=a0.FItems) (TK rfl) rfl rfl rfl rfl fun hL9=>?_;refine S BI (nil ?_);refine cE hE (fun hc10 hE=>?_) (fun hc10 hE=>?_)
    ·try dsimp only at hc10
     have hf10:=of_decide_eq_true hc10;refine sk hK7 ?_;clear hK7 K7;refine seqK fun K11 hK11=>?_;refine block ?_;refine seqR (S Fv ?_);refine s0 (loadV (TK rfl) rfl rfl (congrArg (fun x=>some (A.d x)) (Z9.FItemsD_eq _))) rfl ?_;refine S Mv ?_;obtain⟨x13,gx13,hE⟩:=bO hE;refine S (ix Z9.c s3_6 gx13) (S Ld ?_);obtain⟨x14,gx14,hE⟩:=bO hE;refine Sc rfl rfl (ih_72 gx14) ?_;refine S NB (nil ?_);refine cE hE (fun hc15 hE=>?_) (fun hc15 hE=>?_)
     ·refine seqR (S As (nil ?_));exact rt hE
     refine sk hK11 ?_;clear hK11 K11;refine region ?_;refine S Mv ?_;refine SI ?_;refine S As (nil ?_);exact hK5 _ (n5,(s3_6+1)) Weak.toA hE (Nat.lt_succ_self _)
    refine AWp.exit ?_;exact hK2 _ () Weak.toA hE
 rintro _ hE;try dsimp only at hE
 unfold Z57_j2 at hE;refine seqR (S Fv (S Ld (S BI (S As (nil ?_)))));exact rt hE
theorem Z57_all:∀(n:Nat),(∀{a0:Z9}{r:Bool},Z57_n n a0=some r->∀(H:Heap),ACalls Tryz.prog 72 [.agg (Z9.c a0)] H fun v h'=>v=.a (.d (.bool r))/\h'=H)
 | 0=>fun hE=>by first|cases hE|(rw [Z57_n] at hE; cases hE)
 | n+1=>Z57_step n (Z57_all n)
def Z57 (a0:Z9):Option Bool:=Z57_n F0 a0
theorem Z57_walk {a0:Z9}{r:Bool}(hE:Z57 a0=some r) (H:Heap) :ACalls Tryz.prog 72 [.agg (Z9.c a0)] H fun v h'=>v=.a (.d (.bool r))/\h'=H:=(Z57_all F0) hE H 
end Go.Proofs

namespace Go.Proofs
open Go Go.Ab
open AOps Cert AWp Keeps KeepsT
variable {lou:Lou}
def Z59_j7  :Option Bool:=some true
def Z59_j16 (s3_11:Nat) (k_next_10:Nat->Option Bool) :Option Bool:=k_next_10 (s3_11+1)
def Z59_l25 (a0:(Sl TDir)) (s3_11:Nat) (k_next_10:Nat->Option Bool):Nat->Nat->Option Bool
 | 0,_=>none
 | n25+1,s4_26=>(a0.l[s3_11]?).bind fun x29=>bif (decide (((s4_26:Nat):Int)<((x29.FArgs.l.length:Nat):Int))) then((a0.l[s3_11]?).bind fun x34=>(x34.FArgs.l[s4_26]?).bind fun x35=>(Z40 x35.FName).bind fun x37=>guardO (!(!x37)) (Z44 x35.FValue) false fun x38=>guardO (!((!x37)||(!x38))) (Z57 x35.FValue) false fun x39=>bif (((!x37)||(!x38))||(!x39)) then(some false) else((Z59_l25 a0 s3_11 k_next_10 n25) (s4_26+1))) else(Z59_j16 s3_11 k_next_10 )
def Z59_l10 (a0:(Sl TDir)) :Nat->Nat->Option Bool
 | 0,_=>none
 | n10+1,s3_11=>bif (decide (((s3_11:Nat):Int)<((a0.l.length:Nat):Int))) then((a0.l[s3_11]?).bind fun x19=>(Z40 x19.FName).bind fun x20=>guardO (!(!x20)) (a0.l[s3_11]?) TDir.zero fun x21=>bif ((!x20)||(decide ((16:Int)<((x21.FArgs.l.length:Nat):Int)))) then(some false) else(Z59_l25 a0 s3_11 ((Z59_l10 a0 n10)) (Option.elim (a0.l[s3_11]?) 1 (fun x29=>x29.FArgs.l.length+1)) 0)) else(Z59_j7   )
def Z59 (a0:(Sl TDir)):Option Bool:=bif (decide ((16:Int)<((a0.l.length:Nat):Int))) then(some false) else(Z59_l10 a0 (a0.l.length+1) 0)
theorem Z59_walk {a0:Sl TDir}{w0:Option Nat}{r:Bool}(hE:Z59 a0=some r) (H:Heap) :ACalls Tryz.prog 39 [.d (Sl.d 2 TDir.c w0 a0)] H fun v h'=>v=.a (.d (.bool r))/\h'=H:=by
 unfold Z59 at hE;refine ACalls.oW 65 [.tmp 2] Tryz.call39 Tryz.func39 ?_;refine seqR (S As (nil ?_));refine seqK fun K2 hK2=>?_;refine seqR (S Mv ?_);refine sLen (f:=TDir.c) (s:=a0) (TK rfl) rfl rfl rfl rfl fun hL4=>?_;refine S BI (nil ?_);refine cE hE (fun hc5 hE=>?_) (fun hc5 hE=>?_)
 ·refine seqR (S As (nil ?_));exact rt hE
 refine sk hK2 ?_;clear hK2 K2;refine seqJH KeepsT.nil (fun(z:Unit)=>[]) (fun z=>H) (fun z=>Z59_j7 =some r) ?_ ?_
 ·intro K7 hK7;refine seqR (S As (nil ?_));refine block ?_;refine loopH (TA 0 KeepsT.nil) (fun(z:Nat×Nat)=>[(3,.a (.d (.int .i64 ((z.2:Nat):Int))))]) (fun z=>H) (fun z=>z.1) (fun z=>Z59_l10 a0 z.1 z.2=some r) ((a0.l.length+1),0) hE Weak.toA ?_;rintro ⟨n10,s3_11⟩ hE K10 hK10;try dsimp only at hE
  cases n10 with
  | zero=>cases hE
  | succ n10 =>
    rw [Z59_l10] at hE;refine seqK fun K12 hK12=>?_;refine seqR (S Mv (S Mv ?_));refine sLen (f:=TDir.c) (s:=a0) (TK rfl) rfl rfl rfl rfl fun hL14=>?_;refine S BI (nil ?_);refine cE hE (fun hc15 hE=>?_) (fun hc15 hE=>?_)
    ·try dsimp only at hc15
     have hf15:=of_decide_eq_true hc15;refine sk hK12 ?_;clear hK12 K12;refine seqJH (TA 0 (TA 3 KeepsT.nil)) (fun(z:Unit)=>[]) (fun z=>H) (fun z=>Z59_j16 s3_11 ((Z59_l10 a0 n10)) =some r) ?_ ?_
     ·intro K16 hK16;refine block ?_;refine seqK fun K17 hK17=>?_;refine seqR (S Mv (S Mv ?_));obtain⟨x19,gx19,hE⟩:=bO hE;refine S (ix TDir.c s3_11 gx19) (S Fv (S Ld ?_));obtain⟨x20,gx20,hE⟩:=bO hE;refine Sc rfl rfl (Z40_walk gx20) ?_;refine S NB (S Mv (G0 Mv (G0 Mv ?_)));obtain⟨x21,gx21,hE⟩:=gO hE;refine gC rfl rfl (fun hC=>ungdA (k:=23) rfl (ungdA (k:=24) rfl (idxMn (f:=TDir.c) (n:=s3_11) (TK rfl) rfl (TK rfl) rfl rfl rfl (gx21 hC)))) rfl ?_
      refine G1 25 rfl Fv ?_;refine G1 26 rfl Ld ?_;refine gC rfl rfl (fun hC=>ungdA (k:=27) rfl (lenM' (f:=TArg.c) (s:=x21.FArgs) (TK rfl) rfl rfl rfl)) rfl ?_;refine G1 28 rfl BI ?_;refine S PO (nil ?_);refine cE hE (fun hc22 hE=>?_) (fun hc22 hE=>?_)
      ·refine seqR (S As (nil ?_));exact rt hE
      refine sk hK17 ?_;clear hK17 K17;refine seqR (S As (nil ?_));refine block ?_;refine loopH (TA 0 (TA 3 KeepsT.nil)) (fun(z:Nat×Nat)=>[(4,.a (.d (.int .i64 ((z.2:Nat):Int))))]) (fun z=>H) (fun z=>z.1) (fun z=>Z59_l25 a0 s3_11 ((Z59_l10 a0 n10)) z.1 z.2=some r) ((Option.elim (a0.l[s3_11]?) 1 (fun x29=>x29.FArgs.l.length+1)),0) hE Weak.toA ?_;rintro ⟨n25,s4_26⟩ hE K25 hK25;try dsimp only at hE
      cases n25 with
      | zero=>cases hE
      | succ n25 =>
        rw [Z59_l25] at hE;refine seqK fun K27 hK27=>?_;refine seqR (S Mv (S Mv (S Mv ?_)));obtain⟨x29,gx29,hE⟩:=bO hE;refine S (ix TDir.c s3_11 gx29) (S Fv (S Ld ?_));refine sLen (f:=TArg.c) (s:=x29.FArgs) (TK rfl) rfl rfl rfl rfl fun hL30=>?_;refine S BI (nil ?_);refine cE hE (fun hc31 hE=>?_) (fun hc31 hE=>?_)
        ·try dsimp only at hc31
         have hf31:=of_decide_eq_true hc31;refine sk hK27 ?_;clear hK27 K27;refine seqK fun K32 hK32=>?_;refine block ?_;refine seqR (S Mv (S Mv ?_));obtain⟨x34,gx34,hE⟩:=bO hE;refine S (ix TDir.c s3_11 gx34) (S Fv (S Ld (S Mv ?_)));obtain⟨x35,gx35,hE⟩:=bO hE;refine S (ix TArg.c s4_26 gx35) (S Ld ?_);refine Sl ?_;refine Sf ?_;refine nil ?_;refine freezeA 5 _ rfl (KA 0 (KA 3 (KA 4 Keeps.nil))) ?_;refine seqR (S Fv (S Ld ?_))
         obtain⟨x37,gx37,hE⟩:=bO hE;refine Sc rfl rfl (Z40_walk gx37) ?_;refine S NB (S Mv (G0 Fv ?_));refine G1 54 rfl Ld ?_;obtain⟨x38,gx38,hE⟩:=gO hE;refine Gc1 55 rfl rfl rfl rfl rfl (fun hC=>Z44_walk (gx38 hC)) ?_;refine G1 56 rfl NB ?_;refine S PO (S Mv (G0 Fv ?_));refine G1 60 rfl Ld ?_;obtain⟨x39,gx39,hE⟩:=gO hE;refine Gc1 61 rfl rfl rfl rfl rfl (fun hC=>Z57_walk (gx39 hC)) ?_;refine G1 62 rfl NB ?_
         refine S PO (nil ?_);refine cE hE (fun hc40 hE=>?_) (fun hc40 hE=>?_)
         ·refine seqR (S As (nil ?_));exact rt hE
         refine sk hK32 ?_;clear hK32 K32;refine region ?_;refine S Mv ?_;refine SI ?_;refine S As (nil ?_);exact hK25 _ (n25,(s4_26+1)) Weak.toA hE (Nat.lt_succ_self _)
        refine AWp.exit ?_;exact hK16 _ () Weak.toA hE
     rintro _ hE;try dsimp only at hE
     unfold Z59_j16 at hE;refine region ?_;refine S Mv ?_;refine SI ?_;refine S As (nil ?_);exact hK10 _ (n10,(s3_11+1)) Weak.toA hE (Nat.lt_succ_self _)
    refine AWp.exit ?_;exact hK7 _ () Weak.toA hE
 rintro _ hE;try dsimp only at hE
 unfold Z59_j7 at hE;refine seqR (S As (nil ?_));exact rt hE
def Z52_j7  :Option Bool:=some true
def Z52_l10 (a0:TRef) :Nat->Nat->Option Bool
 | 0,_=>none
 | n10+1,s3_11=>bif (decide (((s3_11:Nat):Int)<((a0.FWraps.l.length:Nat):Int))) then((a0.FWraps.l[s3_11]?).bind fun x19=>guardO ((!decide (x19=(1:Int)))) (a0.FWraps.l[s3_11]?) (0:Int) fun x20=>bif ((!decide (x19=(1:Int)))&&(!decide (x20=(2:Int)))) then(some false) else(guardO ((decide ((0:Int)<((s3_11:Nat):Int)))) (a0.FWraps.l[s3_11]?) (0:Int) fun x24=>guardO (((decide ((0:Int)<((s3_11:Nat):Int)))&&(decide (x24=(1:Int))))) (subC ((s3_11:Nat):Int) (1:Int)) (0:Int) fun x25=>guardO (((decide ((0:Int)<((s3_11:Nat):Int)))&&(decide (x24=(1:Int))))) (idxC a0.FWraps.l x25) (0:Int) fun x26=>bif (((decide ((0:Int)<((s3_11:Nat):Int)))&&(decide (x24=(1:Int))))&&(decide (x26=(1:Int)))) then(some false) else((Z52_l10 a0 n10) (s3_11+1)))) else(Z52_j7   )
def Z52 (a0:TRef):Option Bool:=(Z40 a0.FName).bind fun x4=>bif ((!x4)||(decide ((24:Int)<((a0.FWraps.l.length:Nat):Int)))) then(some false) else(Z52_l10 a0 (a0.FWraps.l.length+1) 0)
theorem Z52_walk {a0:TRef}{r:Bool}(hE:Z52 a0=some r) (H:Heap) :ACalls Tryz.prog 6 [.agg (TRef.c a0)] H fun v h'=>v=.a (.d (.bool r))/\h'=H:=by
 unfold Z52 at hE;refine ACalls.oW 54 [.tmp 2] Tryz.call6 Tryz.func6 ?_;refine seqR (S BX (S As (nil ?_)));refine seqK fun K2 hK2=>?_;refine seqR (S Fv (S Ld ?_));obtain⟨x4,gx4,hE⟩:=bO hE;refine Sc rfl rfl (Z40_walk gx4) ?_;refine S NB (S Mv (G0 Fv ?_));refine G1 9 rfl Ld ?_;refine gC rfl rfl (fun hC=>ungdA (k:=10) rfl (lenM' (f:=(intE .i64)) (s:=a0.FWraps) (TK rfl) rfl rfl rfl)) rfl ?_;refine G1 11 rfl BI ?_
 refine S PO (nil ?_);refine cE hE (fun hc5 hE=>?_) (fun hc5 hE=>?_)
 ·refine seqR (S As (nil ?_));exact rt hE
 refine sk hK2 ?_;clear hK2 K2;refine seqJH KeepsT.nil (fun(z:Unit)=>[]) (fun z=>H) (fun z=>Z52_j7 =some r) ?_ ?_
 ·intro K7 hK7;refine seqR (S As (nil ?_));refine block ?_;refine loopH (TA 1 KeepsT.nil) (fun(z:Nat×Nat)=>[(3,.a (.d (.int .i64 ((z.2:Nat):Int))))]) (fun z=>H) (fun z=>z.1) (fun z=>Z52_l10 a0 z.1 z.2=some r) ((a0.FWraps.l.length+1),0) hE Weak.toA ?_;rintro ⟨n10,s3_11⟩ hE K10 hK10;try dsimp only at hE
  cases n10 with
  | zero=>cases hE
  | succ n10 =>
    rw [Z52_l10] at hE;refine seqK fun K12 hK12=>?_;refine seqR (S Mv (S Fv (S Ld ?_)));refine sLen (f:=(intE .i64)) (s:=a0.FWraps) (TK rfl) rfl rfl rfl rfl fun hL14=>?_;refine S BI (nil ?_);refine cE hE (fun hc15 hE=>?_) (fun hc15 hE=>?_)
    ·try dsimp only at hc15
     have hf15:=of_decide_eq_true hc15;refine sk hK12 ?_;clear hK12 K12;refine seqK fun K16 hK16=>?_;refine block ?_;refine seqK fun K17 hK17=>?_;refine seqR (S Fv (S Ld (S Mv ?_)));obtain⟨x19,gx19,hE⟩:=bO hE;refine S (ix (intE .i64) s3_11 gx19) ?_;refine S Ld (S BI (S Mv (G0 Fv ?_)));refine G1 28 rfl Ld ?_;refine G0 Mv ?_;obtain⟨x20,gx20,hE⟩:=gO hE;refine gC rfl rfl (fun hC=>ungdA (k:=29) rfl (ungdA (k:=30) rfl (idxMn (f:=(intE .i64)) (n:=s3_11) (TK rfl) rfl (TK rfl) rfl rfl rfl (gx20 hC)))) rfl ?_
     refine G1 31 rfl Ld ?_;refine G1 32 rfl BI ?_;refine S PA (nil ?_);refine cE hE (fun hc21 hE=>?_) (fun hc21 hE=>?_)
     ·refine seqR (S As (nil ?_));exact rt hE
     refine sk hK17 ?_;clear hK17 K17;refine seqR (S Mv (S BI (S Mv (G0 Fv ?_))));refine G1 38 rfl Ld ?_;refine G0 Mv ?_;obtain⟨x24,gx24,hE⟩:=gO hE;refine gC rfl rfl (fun hC=>ungdA (k:=39) rfl (ungdA (k:=40) rfl (idxMn (f:=(intE .i64)) (n:=s3_11) (TK rfl) rfl (TK rfl) rfl rfl rfl (gx24 hC)))) rfl ?_;refine G1 41 rfl Ld ?_;refine G1 42 rfl BI ?_;refine S PA (S Mv (G0 Fv ?_));refine G1 46 rfl Ld ?_;refine G0 Mv ?_
     obtain⟨x25,gx25,hE⟩:=gO hE;refine gC rfl rfl (fun hC=>ungdA (k:=48) rfl (subM rfl rfl (gx25 hC))) rfl ?_;obtain⟨x26,gx26,hE⟩:=gO hE;refine gC rfl rfl (fun hC=>ungdA (k:=47) rfl (ungdA (k:=49) rfl (idxM (f:=(intE .i64)) (TK rfl) rfl (TK rfl) rfl rfl rfl (gx26 hC)))) rfl ?_;refine G1 50 rfl Ld ?_;refine G1 51 rfl BI ?_;refine S PA (nil ?_);refine cE hE (fun hc27 hE=>?_) (fun hc27 hE=>?_)
     ·refine seqR (S As (nil ?_));exact rt hE
     refine sk hK16 ?_;clear hK16 K16;refine region ?_;refine S Mv ?_;refine SI ?_;refine S As (nil ?_);exact hK10 _ (n10,(s3_11+1)) Weak.toA hE (Nat.lt_succ_self _)
    refine AWp.exit ?_;exact hK7 _ () Weak.toA hE
 rintro _ hE;try dsimp only at hE
 unfold Z52_j7 at hE;refine seqR (S As (nil ?_));exact rt hE
def Z63 (a0:Z9):Option Bool:=some (((((decide (a0.FKind=(0:Int)))&&(decide (a0.FInt=(0:Int))))&&((a0.FText==([]:Bs))))&&(decide (((a0.FItems.l.length:Nat):Int)=(0:Int))))&&(decide (((a0.FKeys.l.length:Nat):Int)=(0:Int))))
theorem Z63_walk {a0:Z9}{r:Bool}(hE:Z63 a0=some r) (H:Heap) :ACalls Tryz.prog 73 [.agg (Z9.c a0)] H fun v h'=>v=.a (.d (.bool r))/\h'=H:=by
 unfold Z63 at hE;refine ACalls.oW 28 [.tmp 2] Tryz.call73 Tryz.func73 ?_;refine seqR (S BX (S As (nil ?_)));refine seqR (S Fv (S Ld (S BI (S Mv (G0 Fv ?_)))));refine G1 7 rfl Ld ?_;refine G1 8 rfl BI ?_;refine S PA (S Mv (G0 Fv ?_));refine G1 12 rfl Ld ?_;refine G1 13 rfl BS ?_;refine S PA (S Mv (G0 Fv ?_));refine gC rfl rfl (fun hC=>ungdA (k:=17) rfl (loadV (TK rfl) rfl rfl (congrArg (fun x=>some (A.d x)) (Z9.FItemsD_eq _)))) rfl ?_
 refine gC rfl rfl (fun hC=>ungdA (k:=18) rfl (lenM' (f:=Z9.c) (s:=a0.FItems) (TK rfl) rfl rfl rfl)) rfl ?_;refine G1 19 rfl BI ?_;refine S PA (S Mv (G0 Fv ?_));refine G1 23 rfl Ld ?_;refine gC rfl rfl (fun hC=>ungdA (k:=24) rfl (lenM' (f:=strE) (s:=a0.FKeys) (TK rfl) rfl rfl rfl)) rfl ?_;refine G1 25 rfl BI ?_;refine S PA (S As (nil ?_));exact rt hE
def Z61_j7  :Option Bool:=some true
def Z61_l10 (a0:(Sl Z6)) :Nat->Nat->Option Bool
 | 0,_=>none
 | n10+1,s3_11=>bif (decide (((s3_11:Nat):Int)<((a0.l.length:Nat):Int))) then((a0.l[s3_11]?).bind fun x18=>(Z40 x18.FName).bind fun x21=>guardO (!(!x21)) (Z52 x18.FType) false fun x22=>guardO (!((!x21)||(!x22))) (Z59 x18.FDirs) false fun x23=>bif (((!x21)||(!x22))||(!x23)) then(some false) else(guardO (x18.FHas) (Z44 x18.FDefault) false fun x27=>guardO ((x18.FHas&&!(!x27))) (Z57 x18.FDefault) false fun x28=>guardO ((!(x18.FHas&&((!x27)||(!x28)))&&(!x18.FHas))) (Z63 x18.FDefault) false fun x29=>bif ((x18.FHas&&((!x27)||(!x28)))||((!x18.FHas)&&(!x29))) then(some false) else((Z61_l10 a0 n10) (s3_11+1)))) else(Z61_j7   )
def Z61 (a0:(Sl Z6)):Option Bool:=bif (decide ((16:Int)<((a0.l.length:Nat):Int))) then(some false) else(Z61_l10 a0 (a0.l.length+1) 0)
theorem Z61_walk {a0:Sl Z6}{w0:Option Nat}{r:Bool}(hE:Z61 a0=some r) (H:Heap) :ACalls Tryz.prog 42 [.d (Sl.d 10 Z6.c w0 a0)] H fun v h'=>v=.a (.d (.bool r))/\h'=H:=by
 unfold Z61 at hE;refine ACalls.oW 59 [.tmp 2] Tryz.call42 Tryz.func42 ?_;refine seqR (S As (nil ?_));refine seqK fun K2 hK2=>?_;refine seqR (S Mv ?_);refine sLen (f:=Z6.c) (s:=a0) (TK rfl) rfl rfl rfl rfl fun hL4=>?_;refine S BI (nil ?_);refine cE hE (fun hc5 hE=>?_) (fun hc5 hE=>?_)
 ·refine seqR (S As (nil ?_));exact rt hE
 refine sk hK2 ?_;clear hK2 K2;refine seqJH KeepsT.nil (fun(z:Unit)=>[]) (fun z=>H) (fun z=>Z61_j7 =some r) ?_ ?_
 ·intro K7 hK7;refine seqR (S As (nil ?_));refine block ?_;refine loopH (TA 0 KeepsT.nil) (fun(z:Nat×Nat)=>[(3,.a (.d (.int .i64 ((z.2:Nat):Int))))]) (fun z=>H) (fun z=>z.1) (fun z=>Z61_l10 a0 z.1 z.2=some r) ((a0.l.length+1),0) hE Weak.toA ?_;rintro ⟨n10,s3_11⟩ hE K10 hK10;try dsimp only at hE
  cases n10 with
  | zero=>cases hE
  | succ n10 =>
    rw [Z61_l10] at hE;refine seqK fun K12 hK12=>?_;refine seqR (S Mv (S Mv ?_));refine sLen (f:=Z6.c) (s:=a0) (TK rfl) rfl rfl rfl rfl fun hL14=>?_;refine S BI (nil ?_);refine cE hE (fun hc15 hE=>?_) (fun hc15 hE=>?_)
    ·try dsimp only at hc15
     have hf15:=of_decide_eq_true hc15;refine sk hK12 ?_;clear hK12 K12;refine seqK fun K16 hK16=>?_;refine block ?_;refine seqR (S Mv (S Mv ?_));obtain⟨x18,gx18,hE⟩:=bO hE;refine S (ix Z6.c s3_11 gx18) (S Ld ?_);refine Sl ?_;refine Sf ?_;refine nil ?_;refine freezeA 4 _ rfl (KA 0 (KA 3 Keeps.nil)) ?_;refine seqK fun K19 hK19=>?_;refine seqR (S Fv (S Ld ?_));obtain⟨x21,gx21,hE⟩:=bO hE;refine Sc rfl rfl (Z40_walk gx21) ?_
     refine S NB (S Mv (G0 Fv ?_));refine G1 23 rfl Ld ?_;obtain⟨x22,gx22,hE⟩:=gO hE;refine Gc1 24 rfl rfl rfl rfl rfl (fun hC=>Z52_walk (gx22 hC)) ?_;refine G1 25 rfl NB ?_;refine S PO (S Mv (G0 Fv ?_));refine G1 29 rfl Ld ?_;obtain⟨x23,gx23,hE⟩:=gO hE;refine Gc1 30 rfl rfl rfl rfl rfl (fun hC=>Z59_walk (gx23 hC)) ?_;refine G1 31 rfl NB ?_;refine S PO (nil ?_);refine cE hE (fun hc24 hE=>?_) (fun hc24 hE=>?_)
     ·refine seqR (S As (nil ?_));exact rt hE
     refine sk hK19 ?_;clear hK19 K19;refine seqR (S Fv (S Ld (S Mv (G0 Fv ?_))));refine G1 37 rfl Ld ?_;obtain⟨x27,gx27,hE⟩:=gO hE;refine Gc1 38 rfl rfl rfl rfl rfl (fun hC=>Z44_walk (gx27 hC)) ?_;refine G1 39 rfl NB ?_;refine G1 40 rfl Mv ?_;refine G0 Fv ?_;refine G1 42 rfl Ld ?_;obtain⟨x28,gx28,hE⟩:=gO hE;refine Gc1 43 rfl rfl rfl rfl rfl (fun hC=>Z57_walk (gx28 hC)) ?_;refine G1 44 rfl NB ?_;refine gC rfl rfl (fun hC=>ungdA (k:=41) rfl (pickOrA rfl rfl rfl)) rfl ?_
     refine S PA (S Mv (G0 Fv ?_));refine G1 49 rfl Ld ?_;refine G1 50 rfl NB ?_;refine G1 51 rfl Mv ?_;refine G0 Fv ?_;refine G1 53 rfl Ld ?_;obtain⟨x29,gx29,hE⟩:=gO hE;refine Gc1 54 rfl rfl rfl rfl rfl (fun hC=>Z63_walk (gx29 hC)) ?_;refine G1 55 rfl NB ?_;refine gC rfl rfl (fun hC=>ungdA (k:=52) rfl (pickAndA rfl rfl rfl)) rfl ?_;refine S PO (nil ?_);refine cE hE (fun hc30 hE=>?_) (fun hc30 hE=>?_)
     ·refine seqR (S As (nil ?_));exact rt hE
     refine sk hK16 ?_;clear hK16 K16;refine region ?_;refine S Mv ?_;refine SI ?_;refine S As (nil ?_);exact hK10 _ (n10,(s3_11+1)) Weak.toA hE (Nat.lt_succ_self _)
    refine AWp.exit ?_;exact hK7 _ () Weak.toA hE
 rintro _ hE;try dsimp only at hE
 unfold Z61_j7 at hE;refine seqR (S As (nil ?_));exact rt hE
def Z60_j7  :Option Bool:=some true
def Z60_l10 (a0:(Sl Z4)) :Nat->Nat->Option Bool
 | 0,_=>none
 | n10+1,s3_11=>bif (decide (((s3_11:Nat):Int)<((a0.l.length:Nat):Int))) then((a0.l[s3_11]?).bind fun x18=>(Z40 x18.FName).bind fun x19=>guardO (!(!x19)) (a0.l[s3_11]?) Z4.zero fun x20=>guardO (!(!x19)) (Z61 x20.FArgs) false fun x21=>guardO (!((!x19)||(!x21))) (a0.l[s3_11]?) Z4.zero fun x22=>guardO (!((!x19)||(!x21))) (Z52 x22.FType) false fun x23=>guardO (!(((!x19)||(!x21))||(!x23))) (a0.l[s3_11]?) Z4.zero fun x24=>guardO (!(((!x19)||(!x21))||(!x23))) (Z59 x24.FDirs) false fun x25=>bif ((((!x19)||(!x21))||(!x23))||(!x25)) then(some false) else((Z60_l10 a0 n10) (s3_11+1))) else(Z60_j7   )
def Z60 (a0:(Sl Z4)):Option Bool:=bif ((decide (((a0.l.length:Nat):Int)<(1:Int)))||(decide ((64:Int)<((a0.l.length:Nat):Int)))) then(some false) else(Z60_l10 a0 (a0.l.length+1) 0)
theorem Z60_walk {a0:Sl Z4}{w0:Option Nat}{r:Bool}(hE:Z60 a0=some r) (H:Heap) :ACalls Tryz.prog 40 [.d (Sl.d 5 Z4.c w0 a0)] H fun v h'=>v=.a (.d (.bool r))/\h'=H:=by
 unfold Z60 at hE;refine ACalls.oW 52 [.tmp 2] Tryz.call40 Tryz.func40 ?_;refine seqR (S As (nil ?_));refine seqK fun K2 hK2=>?_;refine seqR (S Mv ?_);refine sLen (f:=Z4.c) (s:=a0) (TK rfl) rfl rfl rfl rfl fun hL4=>?_;refine S BI (S Mv (G0 Mv ?_));refine gC rfl rfl (fun hC=>ungdA (k:=8) rfl (lenM' (f:=Z4.c) (s:=a0) (TK rfl) rfl rfl rfl)) rfl ?_;refine G1 9 rfl BI ?_;refine S PO (nil ?_);refine cE hE (fun hc5 hE=>?_) (fun hc5 hE=>?_)
 ·refine seqR (S As (nil ?_));exact rt hE
 refine sk hK2 ?_;clear hK2 K2;refine seqJH KeepsT.nil (fun(z:Unit)=>[]) (fun z=>H) (fun z=>Z60_j7 =some r) ?_ ?_
 ·intro K7 hK7;refine seqR (S As (nil ?_));refine block ?_;refine loopH (TA 0 KeepsT.nil) (fun(z:Nat×Nat)=>[(3,.a (.d (.int .i64 ((z.2:Nat):Int))))]) (fun z=>H) (fun z=>z.1) (fun z=>Z60_l10 a0 z.1 z.2=some r) ((a0.l.length+1),0) hE Weak.toA ?_;rintro ⟨n10,s3_11⟩ hE K10 hK10;try dsimp only at hE
  cases n10 with
  | zero=>cases hE
  | succ n10 =>
    rw [Z60_l10] at hE;refine seqK fun K12 hK12=>?_;refine seqR (S Mv (S Mv ?_));refine sLen (f:=Z4.c) (s:=a0) (TK rfl) rfl rfl rfl rfl fun hL14=>?_;refine S BI (nil ?_);refine cE hE (fun hc15 hE=>?_) (fun hc15 hE=>?_)
    ·try dsimp only at hc15
     have hf15:=of_decide_eq_true hc15;refine sk hK12 ?_;clear hK12 K12;refine seqK fun K16 hK16=>?_;refine block ?_;refine seqR (S Mv (S Mv ?_));obtain⟨x18,gx18,hE⟩:=bO hE;refine S (ix Z4.c s3_11 gx18) (S Fv (S Ld ?_));obtain⟨x19,gx19,hE⟩:=bO hE;refine Sc rfl rfl (Z40_walk gx19) ?_;refine S NB (S Mv (G0 Mv (G0 Mv ?_)));obtain⟨x20,gx20,hE⟩:=gO hE;refine gC rfl rfl (fun hC=>ungdA (k:=26) rfl (ungdA (k:=27) rfl (idxMn (f:=Z4.c) (n:=s3_11) (TK rfl) rfl (TK rfl) rfl rfl rfl (gx20 hC)))) rfl ?_
     refine G1 28 rfl Fv ?_;refine G1 29 rfl Ld ?_;obtain⟨x21,gx21,hE⟩:=gO hE;refine Gc1 30 rfl rfl rfl rfl rfl (fun hC=>Z61_walk (gx21 hC)) ?_;refine G1 31 rfl NB ?_;refine S PO (S Mv (G0 Mv (G0 Mv ?_)));obtain⟨x22,gx22,hE⟩:=gO hE;refine gC rfl rfl (fun hC=>ungdA (k:=35) rfl (ungdA (k:=36) rfl (idxMn (f:=Z4.c) (n:=s3_11) (TK rfl) rfl (TK rfl) rfl rfl rfl (gx22 hC)))) rfl ?_;refine G1 37 rfl Fv ?_
     refine G1 38 rfl Ld ?_;obtain⟨x23,gx23,hE⟩:=gO hE;refine Gc1 39 rfl rfl rfl rfl rfl (fun hC=>Z52_walk (gx23 hC)) ?_;refine G1 40 rfl NB ?_;refine S PO (S Mv (G0 Mv (G0 Mv ?_)));obtain⟨x24,gx24,hE⟩:=gO hE;refine gC rfl rfl (fun hC=>ungdA (k:=44) rfl (ungdA (k:=45) rfl (idxMn (f:=Z4.c) (n:=s3_11) (TK rfl) rfl (TK rfl) rfl rfl rfl (gx24 hC)))) rfl ?_;refine G1 46 rfl Fv ?_;refine G1 47 rfl Ld ?_
     obtain⟨x25,gx25,hE⟩:=gO hE;refine Gc1 48 rfl rfl rfl rfl rfl (fun hC=>Z59_walk (gx25 hC)) ?_;refine G1 49 rfl NB ?_;refine S PO (nil ?_);refine cE hE (fun hc26 hE=>?_) (fun hc26 hE=>?_)
     ·refine seqR (S As (nil ?_));exact rt hE
     refine sk hK16 ?_;clear hK16 K16;refine region ?_;refine S Mv ?_;refine SI ?_;refine S As (nil ?_);exact hK10 _ (n10,(s3_11+1)) Weak.toA hE (Nat.lt_succ_self _)
    refine AWp.exit ?_;exact hK7 _ () Weak.toA hE
 rintro _ hE;try dsimp only at hE
 unfold Z60_j7 at hE;refine seqR (S As (nil ?_));exact rt hE
end Go.Proofs

namespace Go.Proofs
open Go Go.Ab
open AOps Cert AWp Keeps KeepsT
variable {lou:Lou}
def Z62_j7  :Option Bool:=some true
def Z62_l10 (a0:(Sl Z7)) (a1:Bool) :Nat->Nat->Option Bool
 | 0,_=>none
 | n10+1,s5_11=>bif (decide (((s5_11:Nat):Int)<((a0.l.length:Nat):Int))) then((a0.l[s5_11]?).bind fun x18=>(Z40 x18.FName).bind fun x19=>guardO (!(!x19)) (a0.l[s5_11]?) Z7.zero fun x20=>guardO (!(!x19)) (Z59 x20.FDirs) false fun x21=>guardO ((!((!x19)||(!x21))&&a1)) (a0.l[s5_11]?) Z7.zero fun x22=>bif (((!x19)||(!x21))||(a1&&(decide ((0:Int)<((x22.FDirs.l.length:Nat):Int))))) then(some false) else((Z62_l10 a0 a1 n10) (s5_11+1))) else(Z62_j7   )
def Z62 (a0:(Sl Z7)) (a1:Bool):Option Bool:=bif ((decide (((a0.l.length:Nat):Int)<(1:Int)))||(decide ((64:Int)<((a0.l.length:Nat):Int)))) then(some false) else(Z62_l10 a0 a1 (a0.l.length+1) 0)
theorem Z62_walk {a0:Sl Z7}{a1:Bool}{w0:Option Nat}{r:Bool}(hE:Z62 a0 a1=some r) (H:Heap) :ACalls Tryz.prog 41 [.d (Sl.d 2 Z7.c w0 a0),.d (.bool a1)] H fun v h'=>v=.a (.d (.bool r))/\h'=H:=by
 unfold Z62 at hE;refine ACalls.oW 48 [.tmp 4] Tryz.call41 Tryz.func41 ?_;refine seqR (S As (nil ?_));refine seqK fun K2 hK2=>?_;refine seqR (S Mv ?_);refine sLen (f:=Z7.c) (s:=a0) (TK rfl) rfl rfl rfl rfl fun hL4=>?_;refine S BI (S Mv (G0 Mv ?_));refine gC rfl rfl (fun hC=>ungdA (k:=10) rfl (lenM' (f:=Z7.c) (s:=a0) (TK rfl) rfl rfl rfl)) rfl ?_;refine G1 11 rfl BI ?_;refine S PO (nil ?_);refine cE hE (fun hc5 hE=>?_) (fun hc5 hE=>?_)
 ·refine seqR (S As (nil ?_));exact rt hE
 refine sk hK2 ?_;clear hK2 K2;refine seqJH KeepsT.nil (fun(z:Unit)=>[]) (fun z=>H) (fun z=>Z62_j7 =some r) ?_ ?_
 ·intro K7 hK7;refine seqR (S As (nil ?_));refine block ?_;refine loopH (TA 0 (TA 1 KeepsT.nil)) (fun(z:Nat×Nat)=>[(5,.a (.d (.int .i64 ((z.2:Nat):Int))))]) (fun z=>H) (fun z=>z.1) (fun z=>Z62_l10 a0 a1 z.1 z.2=some r) ((a0.l.length+1),0) hE Weak.toA ?_;rintro ⟨n10,s5_11⟩ hE K10 hK10;try dsimp only at hE
  cases n10 with
  | zero=>cases hE
  | succ n10 =>
    rw [Z62_l10] at hE;refine seqK fun K12 hK12=>?_;refine seqR (S Mv (S Mv ?_));refine sLen (f:=Z7.c) (s:=a0) (TK rfl) rfl rfl rfl rfl fun hL14=>?_;refine S BI (nil ?_);refine cE hE (fun hc15 hE=>?_) (fun hc15 hE=>?_)
    ·try dsimp only at hc15
     have hf15:=of_decide_eq_true hc15;refine sk hK12 ?_;clear hK12 K12;refine seqK fun K16 hK16=>?_;refine block ?_;refine seqR (S Mv (S Mv ?_));obtain⟨x18,gx18,hE⟩:=bO hE;refine S (ix Z7.c s5_11 gx18) (S Fv (S Ld ?_));obtain⟨x19,gx19,hE⟩:=bO hE;refine Sc rfl rfl (Z40_walk gx19) ?_;refine S NB (S Mv (G0 Mv (G0 Mv ?_)));obtain⟨x20,gx20,hE⟩:=gO hE;refine gC rfl rfl (fun hC=>ungdA (k:=28) rfl (ungdA (k:=29) rfl (idxMn (f:=Z7.c) (n:=s5_11) (TK rfl) rfl (TK rfl) rfl rfl rfl (gx20 hC)))) rfl ?_
     refine G1 30 rfl Fv ?_;refine G1 31 rfl Ld ?_;obtain⟨x21,gx21,hE⟩:=gO hE;refine Gc1 32 rfl rfl rfl rfl rfl (fun hC=>Z59_walk (gx21 hC)) ?_;refine G1 33 rfl NB ?_;refine S PO (S Mv (G0 Mv ?_));refine G1 37 rfl Mv ?_;refine G0 Mv (G0 Mv ?_);obtain⟨x22,gx22,hE⟩:=gO hE;refine gC rfl rfl (fun hC=>ungdA (k:=39) rfl (ungdA (k:=40) rfl (idxMn (f:=Z7.c) (n:=s5_11) (TK rfl) rfl (TK rfl) rfl rfl rfl (gx22 hC)))) rfl ?_
     refine G1 41 rfl Fv ?_;refine G1 42 rfl Ld ?_;refine gC rfl rfl (fun hC=>ungdA (k:=43) rfl (lenM' (f:=TDir.c) (s:=x22.FDirs) (TK rfl) rfl rfl rfl)) rfl ?_;refine G1 44 rfl BI ?_;refine gC rfl rfl (fun hC=>ungdA (k:=38) rfl (pickAndA rfl rfl rfl)) rfl ?_;refine S PO (nil ?_);refine cE hE (fun hc23 hE=>?_) (fun hc23 hE=>?_)
     ·refine seqR (S As (nil ?_));exact rt hE
     refine sk hK16 ?_;clear hK16 K16;refine region ?_;refine S Mv ?_;refine SI ?_;refine S As (nil ?_);exact hK10 _ (n10,(s5_11+1)) Weak.toA hE (Nat.lt_succ_self _)
    refine AWp.exit ?_;exact hK7 _ () Weak.toA hE
 rintro _ hE;try dsimp only at hE
 unfold Z62_j7 at hE;refine seqR (S As (nil ?_));exact rt hE
def Z58_j8 (a0:TDef)  :Option Bool:=bif (decide (a0.FKind=(1:Int))) then((Z60 a0.FFields).bind fun x15=>some ((x15&&(decide (((a0.FMembers.l.length:Nat):Int)=(0:Int))))&&(decide (((a0.FInputs.l.length:Nat):Int)=(0:Int))))) else(bif (decide (a0.FKind=(2:Int))) then(guardO ((decide (((a0.FImplements.l.length:Nat):Int)=(0:Int)))) (Z60 a0.FFields) false fun x19=>some ((((decide (((a0.FImplements.l.length:Nat):Int)=(0:Int)))&&x19)&&(decide (((a0.FMembers.l.length:Nat):Int)=(0:Int))))&&(decide (((a0.FInputs.l.length:Nat):Int)=(0:Int))))) else(bif (decide (a0.FKind=(3:Int))) then(guardO (((decide (((a0.FImplements.l.length:Nat):Int)=(0:Int)))&&(decide (((a0.FFields.l.length:Nat):Int)=(0:Int))))) (Z62 a0.FMembers true) false fun x23=>some ((((decide (((a0.FImplements.l.length:Nat):Int)=(0:Int)))&&(decide (((a0.FFields.l.length:Nat):Int)=(0:Int))))&&x23)&&(decide (((a0.FInputs.l.length:Nat):Int)=(0:Int))))) else(bif (decide (a0.FKind=(4:Int))) then(guardO (((decide (((a0.FImplements.l.length:Nat):Int)=(0:Int)))&&(decide (((a0.FFields.l.length:Nat):Int)=(0:Int))))) (Z62 a0.FMembers false) false fun x27=>some ((((decide (((a0.FImplements.l.length:Nat):Int)=(0:Int)))&&(decide (((a0.FFields.l.length:Nat):Int)=(0:Int))))&&x27)&&(decide (((a0.FInputs.l.length:Nat):Int)=(0:Int))))) else(bif (decide (a0.FKind=(5:Int))) then(guardO (((((decide (((a0.FImplements.l.length:Nat):Int)=(0:Int)))&&(decide (((a0.FFields.l.length:Nat):Int)=(0:Int))))&&(decide (((a0.FMembers.l.length:Nat):Int)=(0:Int))))&&(decide ((0:Int)<((a0.FInputs.l.length:Nat):Int))))) (Z61 a0.FInputs) false fun x31=>some (((((decide (((a0.FImplements.l.length:Nat):Int)=(0:Int)))&&(decide (((a0.FFields.l.length:Nat):Int)=(0:Int))))&&(decide (((a0.FMembers.l.length:Nat):Int)=(0:Int))))&&(decide ((0:Int)<((a0.FInputs.l.length:Nat):Int))))&&x31)) else(some false)))))
def Z58_l34 (a0:TDef) :Nat->Nat->Option Bool
 | 0,_=>none
 | n34+1,s3_35=>bif (decide (((s3_35:Nat):Int)<((a0.FImplements.l.length:Nat):Int))) then((a0.FImplements.l[s3_35]?).bind fun x42=>(Z40 x42).bind fun x43=>bif (!x43) then(some false) else((Z58_l34 a0 n34) (s3_35+1))) else(Z58_j8 a0  )
def Z58 (a0:TDef):Option Bool:=(Z40 a0.FName).bind fun x4=>guardO (!(!x4)) (Z59 a0.FDirs) false fun x5=>bif (((!x4)||(!x5))||(decide ((64:Int)<((a0.FImplements.l.length:Nat):Int)))) then(some false) else(Z58_l34 a0 (a0.FImplements.l.length+1) 0)
theorem Z58_walk {a0:TDef}{r:Bool}(hE:Z58 a0=some r) (H:Heap) :ACalls Tryz.prog 18 [.agg (TDef.c a0)] H fun v h'=>v=.a (.d (.bool r))/\h'=H:=by
 unfold Z58 at hE;refine ACalls.oW 129 [.tmp 2] Tryz.call18 Tryz.func18 ?_;refine seqR (S BX (S As (nil ?_)));refine seqK fun K2 hK2=>?_;refine seqR (S Fv (S Ld ?_));obtain⟨x4,gx4,hE⟩:=bO hE;refine Sc rfl rfl (Z40_walk gx4) ?_;refine S NB (S Mv (G0 Fv ?_));refine G1 13 rfl Ld ?_;obtain⟨x5,gx5,hE⟩:=gO hE;refine Gc1 14 rfl rfl rfl rfl rfl (fun hC=>Z59_walk (gx5 hC)) ?_;refine G1 15 rfl NB ?_;refine S PO (S Mv (G0 Fv ?_))
 refine G1 19 rfl Ld ?_;refine gC rfl rfl (fun hC=>ungdA (k:=20) rfl (lenM' (f:=strE) (s:=a0.FImplements) (TK rfl) rfl rfl rfl)) rfl ?_;refine G1 21 rfl BI ?_;refine S PO (nil ?_);refine cE hE (fun hc6 hE=>?_) (fun hc6 hE=>?_)
 ·refine seqR (S As (nil ?_));exact rt hE
 refine sk hK2 ?_;clear hK2 K2;refine seqJH (TA 1 KeepsT.nil) (fun(z:Unit)=>[]) (fun z=>H) (fun z=>Z58_j8 a0 =some r) ?_ ?_
 ·intro K8 hK8;refine seqR (S As (nil ?_));refine block ?_;refine loopH (TA 1 KeepsT.nil) (fun(z:Nat×Nat)=>[(3,.a (.d (.int .i64 ((z.2:Nat):Int))))]) (fun z=>H) (fun z=>z.1) (fun z=>Z58_l34 a0 z.1 z.2=some r) ((a0.FImplements.l.length+1),0) hE Weak.toA ?_;rintro ⟨n34,s3_35⟩ hE K34 hK34;try dsimp only at hE
  cases n34 with
  | zero=>cases hE
  | succ n34 =>
    rw [Z58_l34] at hE;refine seqK fun K36 hK36=>?_;refine seqR (S Mv (S Fv (S Ld ?_)));refine sLen (f:=strE) (s:=a0.FImplements) (TK rfl) rfl rfl rfl rfl fun hL38=>?_;refine S BI (nil ?_);refine cE hE (fun hc39 hE=>?_) (fun hc39 hE=>?_)
    ·try dsimp only at hc39
     have hf39:=of_decide_eq_true hc39;refine sk hK36 ?_;clear hK36 K36;refine seqK fun K40 hK40=>?_;refine block ?_;refine seqR (S Fv (S Ld (S Mv ?_)));obtain⟨x42,gx42,hE⟩:=bO hE;refine S (ix strE s3_35 gx42) (S Ld ?_);obtain⟨x43,gx43,hE⟩:=bO hE;refine Sc rfl rfl (Z40_walk gx43) ?_;refine S NB (nil ?_);refine cE hE (fun hc44 hE=>?_) (fun hc44 hE=>?_)
     ·refine seqR (S As (nil ?_));exact rt hE
     refine sk hK40 ?_;clear hK40 K40;refine region ?_;refine S Mv ?_;refine SI ?_;refine S As (nil ?_);exact hK34 _ (n34,(s3_35+1)) Weak.toA hE (Nat.lt_succ_self _)
    refine AWp.exit ?_;exact hK8 _ () Weak.toA hE
 rintro _ hE;try dsimp only at hE
 unfold Z58_j8 at hE;refine AWp.seqD (Sd Fv (Sd Ld ?_));refine DOps.s0 (lenM' (f:=strE) (s:=a0.FImplements) (TK rfl) rfl rfl rfl) rfl ?_;refine Sd BI (Sd Fv (Sd Ld ?_));refine DOps.s0 (lenM' (f:=Z4.c) (s:=a0.FFields) (TK rfl) rfl rfl rfl) rfl ?_;refine Sd BI (Sd Fv (Sd Ld ?_));refine DOps.s0 (lenM' (f:=Z7.c) (s:=a0.FMembers) (TK rfl) rfl rfl rfl) rfl ?_;refine Sd BI (Sd Fv (Sd Ld ?_));refine DOps.s0 (lenM' (f:=Z6.c) (s:=a0.FInputs) (TK rfl) rfl rfl rfl) rfl ?_
 refine Sd BI (Sd As (Sd As (Sd As (Sd As ?_))));refine DOps.nil (by decide +kernel) ?_;refine seqK fun K10 hK10=>?_;refine seqR (S Fv (S Ld (nil ?_)));refine block ?_;refine seqR (S BI (S As (nil ?_)));refine cE hE (fun hc13 hE=>?_) (fun hc13 hE=>?_)
 ·refine seqR (S Fv (S Ld ?_));obtain⟨x15,gx15,hE⟩:=bO hE;refine Sc rfl rfl (Z60_walk gx15) ?_;refine S Mv (G0 Mv (S PA (S Mv (G0 Mv (S PA (S As (nil ?_)))))));exact rt hE
 refine seqR (S BI (S As (nil ?_)));refine cE hE (fun hc17 hE=>?_) (fun hc17 hE=>?_)
 ·refine seqR (S Mv (S Mv (G0 Fv ?_)));refine G1 71 rfl Ld ?_;obtain⟨x19,gx19,hE⟩:=gO hE;refine Gc1 72 rfl rfl rfl rfl rfl (fun hC=>Z60_walk (gx19 hC)) ?_;refine S PA (S Mv (G0 Mv (S PA (S Mv (G0 Mv (S PA (S As (nil ?_))))))));exact rt hE
 refine seqR (S BI (S As (nil ?_)));refine cE hE (fun hc21 hE=>?_) (fun hc21 hE=>?_)
 ·refine seqR (S Mv (S Mv (G0 Mv (S PA (S Mv (G0 Fv ?_))))));refine G1 88 rfl Ld ?_;obtain⟨x23,gx23,hE⟩:=gO hE;refine Gc1 89 rfl rfl rfl rfl rfl (fun hC=>Z62_walk (gx23 hC)) ?_;refine S PA (S Mv (G0 Mv (S PA (S As (nil ?_)))));exact rt hE
 refine seqR (S BI (S As (nil ?_)));refine cE hE (fun hc25 hE=>?_) (fun hc25 hE=>?_)
 ·refine seqR (S Mv (S Mv (G0 Mv (S PA (S Mv (G0 Fv ?_))))));refine G1 102 rfl Ld ?_;obtain⟨x27,gx27,hE⟩:=gO hE;refine Gc1 103 rfl rfl rfl rfl rfl (fun hC=>Z62_walk (gx27 hC)) ?_;refine S PA (S Mv (G0 Mv (S PA (S As (nil ?_)))));exact rt hE
 refine seqR (S BI (S As (nil ?_)));refine cE hE (fun hc29 hE=>?_) (fun hc29 hE=>?_)
 ·refine seqR (S Mv (S Mv (G0 Mv (S PA (S Mv (G0 Mv (S PA (S Mv (G0 Fv ?_)))))))));refine G1 119 rfl Ld ?_;refine gC rfl rfl (fun hC=>ungdA (k:=120) rfl (lenM' (f:=Z6.c) (s:=a0.FInputs) (TK rfl) rfl rfl rfl)) rfl ?_;refine G1 121 rfl BI ?_;refine S PA (S Mv (G0 Fv ?_));refine G1 125 rfl Ld ?_;obtain⟨x31,gx31,hE⟩:=gO hE;refine Gc1 126 rfl rfl rfl rfl rfl (fun hC=>Z61_walk (gx31 hC)) ?_;refine S PA (S As (nil ?_))
  exact rt hE
 refine sk hK10 ?_;clear hK10 K10;refine seqR (S As (nil ?_));exact rt hE
def Z56_j7  :Option Bool:=some true
def Z56_l10 (a0:TDoc) :Nat->Nat->Option Bool
 | 0,_=>none
 | n10+1,s3_11=>bif (decide (((s3_11:Nat):Int)<((a0.FDefs.l.length:Nat):Int))) then((a0.FDefs.l[s3_11]?).bind fun x18=>(Z58 x18).bind fun x19=>bif (!x19) then(some false) else((Z56_l10 a0 n10) (s3_11+1))) else(Z56_j7   )
def Z56 (a0:TDoc):Option Bool:=bif ((decide (((a0.FDefs.l.length:Nat):Int)<(1:Int)))||(decide ((64:Int)<((a0.FDefs.l.length:Nat):Int)))) then(some false) else(Z56_l10 a0 (a0.FDefs.l.length+1) 0)
theorem Z56_walk {a0:TDoc}{r:Bool}(hE:Z56 a0=some r) (H:Heap) :ACalls Tryz.prog 5 [.agg (TDoc.c a0)] H fun v h'=>v=.a (.d (.bool r))/\h'=H:=by
 unfold Z56 at hE;refine ACalls.oW 28 [.tmp 2] Tryz.call5 Tryz.func5 ?_;refine seqR (S BX (S As (nil ?_)));refine seqK fun K2 hK2=>?_;refine seqR (S Fv (S Ld ?_));refine sLen (f:=TDef.c) (s:=a0.FDefs) (TK rfl) rfl rfl rfl rfl fun hL4=>?_;refine S BI (S Mv (G0 Fv ?_));refine G1 9 rfl Ld ?_;refine gC rfl rfl (fun hC=>ungdA (k:=10) rfl (lenM' (f:=TDef.c) (s:=a0.FDefs) (TK rfl) rfl rfl rfl)) rfl ?_;refine G1 11 rfl BI ?_
 refine S PO (nil ?_);refine cE hE (fun hc5 hE=>?_) (fun hc5 hE=>?_)
 ·refine seqR (S As (nil ?_));exact rt hE
 refine sk hK2 ?_;clear hK2 K2;refine seqJH KeepsT.nil (fun(z:Unit)=>[]) (fun z=>H) (fun z=>Z56_j7 =some r) ?_ ?_
 ·intro K7 hK7;refine seqR (S As (nil ?_));refine block ?_;refine loopH (TA 1 KeepsT.nil) (fun(z:Nat×Nat)=>[(3,.a (.d (.int .i64 ((z.2:Nat):Int))))]) (fun z=>H) (fun z=>z.1) (fun z=>Z56_l10 a0 z.1 z.2=some r) ((a0.FDefs.l.length+1),0) hE Weak.toA ?_;rintro ⟨n10,s3_11⟩ hE K10 hK10;try dsimp only at hE
  cases n10 with
  | zero=>cases hE
  | succ n10 =>
    rw [Z56_l10] at hE;refine seqK fun K12 hK12=>?_;refine seqR (S Mv (S Fv (S Ld ?_)));refine sLen (f:=TDef.c) (s:=a0.FDefs) (TK rfl) rfl rfl rfl rfl fun hL14=>?_;refine S BI (nil ?_);refine cE hE (fun hc15 hE=>?_) (fun hc15 hE=>?_)
    ·try dsimp only at hc15
     have hf15:=of_decide_eq_true hc15;refine sk hK12 ?_;clear hK12 K12;refine seqK fun K16 hK16=>?_;refine block ?_;refine seqR (S Fv (S Ld (S Mv ?_)));obtain⟨x18,gx18,hE⟩:=bO hE;refine S (ix TDef.c s3_11 gx18) (S Ld ?_);obtain⟨x19,gx19,hE⟩:=bO hE;refine Sc rfl rfl (Z58_walk gx19) ?_;refine S NB (nil ?_);refine cE hE (fun hc20 hE=>?_) (fun hc20 hE=>?_)
     ·refine seqR (S As (nil ?_));exact rt hE
     refine sk hK16 ?_;clear hK16 K16;refine region ?_;refine S Mv ?_;refine SI ?_;refine S As (nil ?_);exact hK10 _ (n10,(s3_11+1)) Weak.toA hE (Nat.lt_succ_self _)
    refine AWp.exit ?_;exact hK7 _ () Weak.toA hE
 rintro _ hE;try dsimp only at hE
 unfold Z56_j7 at hE;refine seqR (S As (nil ?_));exact rt hE
def Z37_j2 (a0:Z9)  :Option Bool:=some (!decide (a0.FKind=(7:Int)))
def Z37_l5 (a0:Z9) (k_rec_9:Z9->Option Bool):Nat->Nat->Option Bool
 | 0,_=>none
 | n5+1,s3_6=>bif (decide (((s3_6:Nat):Int)<((a0.FItems.l.length:Nat):Int))) then((a0.FItems.l[s3_6]?).bind fun x13=>(k_rec_9 x13).bind fun x14=>bif (!x14) then(some false) else((Z37_l5 a0 k_rec_9 n5) (s3_6+1))) else(Z37_j2 a0  )
def Z37_n:Nat->Z9->Option Bool
 | 0,_=>none
 | n+1,a0=>Z37_l5 a0 (Z37_n n) (a0.FItems.l.length+1) 0
theorem Z37_step (n:Nat) (ih_9:∀{a0:Z9}{r:Bool},Z37_n n a0=some r->∀(H:Heap),ACalls Tryz.prog 9 [.agg (Z9.c a0)] H fun v h'=>v=.a (.d (.bool r))/\h'=H):∀{a0:Z9}{r:Bool},Z37_n (n+1) a0=some r->∀(H:Heap),ACalls Tryz.prog 9 [.agg (Z9.c a0)] H fun v h'=>v=.a (.d (.bool r))/\h'=H:=by
 intro a0   r hE H ;rw [Z37_n] at hE;refine ACalls.oW 21 [.tmp 2] Tryz.call9 Tryz.func9 ?_;refine seqR (S BX (S As (nil ?_)));refine seqJH (TA 1 KeepsT.nil) (fun(z:Unit)=>[]) (fun z=>H) (fun z=>Z37_j2 a0 =some r) ?_ ?_
 ·intro K2 hK2;refine seqR (S As (nil ?_));refine block ?_;refine loopH (TA 1 KeepsT.nil) (fun(z:Nat×Nat)=>[(3,.a (.d (.int .i64 ((z.2:Nat):Int))))]) (fun z=>H) (fun z=>z.1) (fun z=>Z37_l5 a0 (Z37_n n) z.1 z.2=some r) ((a0.FItems.l.length+1),0) hE Weak.toA ?_;rintro ⟨n5,s3_6⟩ hE K5 hK5;try dsimp only at hE
  cases n5 with
  | zero=>cases hE
  | succ n5 =>
    rw [Z37_l5] at hE;refine seqK fun K7 hK7=>?_;refine seqR (S Mv (S Fv ?_));refine s0 (loadV (TK rfl) rfl rfl (congrArg (fun x=>some (A.d x)) (Z9.FItemsD_eq _))) rfl ?_;refine sLen (f:=Z9.c) (s:=a0.FItems) (TK rfl) rfl rfl rfl rfl fun hL9=>?_;refine S BI (nil ?_);refine cE hE (fun hc10 hE=>?_) (fun hc10 hE=>?_)
    ·try dsimp only at hc10
     have hf10:=of_decide_eq_true hc10;refine sk hK7 ?_;clear hK7 K7;refine seqK fun K11 hK11=>?_;refine block ?_;refine seqR (S Fv ?_);refine s0 (loadV (TK rfl) rfl rfl (congrArg (fun x=>some (A.d x)) (Z9.FItemsD_eq _))) rfl ?_;refine S Mv ?_;obtain⟨x13,gx13,hE⟩:=bO hE;refine S (ix Z9.c s3_6 gx13) (S Ld ?_);obtain⟨x14,gx14,hE⟩:=bO hE;refine Sc rfl rfl (ih_9 gx14) ?_;refine S NB (nil ?_);refine cE hE (fun hc15 hE=>?_) (fun hc15 hE=>?_)
     ·refine seqR (S As (nil ?_));exact rt hE
     refine sk hK11 ?_;clear hK11 K11;refine region ?_;refine S Mv ?_;refine SI ?_;refine S As (nil ?_);exact hK5 _ (n5,(s3_6+1)) Weak.toA hE (Nat.lt_succ_self _)
    refine AWp.exit ?_;exact hK2 _ () Weak.toA hE
 rintro _ hE;try dsimp only at hE
 unfold Z37_j2 at hE;refine seqR (S Fv (S Ld (S BI (S As (nil ?_)))));exact rt hE
theorem Z37_all:∀(n:Nat),(∀{a0:Z9}{r:Bool},Z37_n n a0=some r->∀(H:Heap),ACalls Tryz.prog 9 [.agg (Z9.c a0)] H fun v h'=>v=.a (.d (.bool r))/\h'=H)
 | 0=>fun hE=>by first|cases hE|(rw [Z37_n] at hE; cases hE)
 | n+1=>Z37_step n (Z37_all n)
def Z37 (a0:Z9):Option Bool:=Z37_n F0 a0
theorem Z37_walk {a0:Z9}{r:Bool}(hE:Z37 a0=some r) (H:Heap) :ACalls Tryz.prog 9 [.agg (Z9.c a0)] H fun v h'=>v=.a (.d (.bool r))/\h'=H:=(Z37_all F0) hE H 
def Z50 (a0:Bs):Option TRef:=some (TRef.mk a0 (Sl.nil:Sl Int))
theorem Z50_walk {a0:Bs}{r:TRef}(hE:Z50 a0=some r) (H:Heap) :ACalls Tryz.prog 15 [.d (.str a0)] H fun v h'=>v=.a (.agg (TRef.c r))/\h'=H:=by
 unfold Z50 at hE;refine ACalls.oW 5 [.cell 2 27] Tryz.call15 Tryz.func15 ?_;refine seqR ?_;refine Sl ?_;refine nil ?_;refine seqR (S Mv (S BU ?_));refine Sf ?_;refine nil ?_;exact rt hE
def Z69_j2  (y3_l0:TDef):Option (TDef×Bool):=some ((TDef.mk (0:Int) ([]:Bs) (Sl.nil:Sl Bs) (Sl.nil:Sl TDir) (Sl.nil:Sl Z4) (Sl.nil:Sl Z7) (Sl.nil:Sl Z6)),false)
def Z69_l7 (a0:TDoc) (a1:Bs) :Nat->Nat->TDef->Option (TDef×Bool)
 | 0,_,_=>none
 | n7+1,s11_8,y9_l0=>bif (decide (((s11_8:Nat):Int)<((a0.FDefs.l.length:Nat):Int))) then((a0.FDefs.l[s11_8]?).bind fun x15=>bif ((x15.FName==a1)) then(some (x15,true)) else((Z69_l7 a0 a1 n7) (s11_8+1) y9_l0)) else(Z69_j2   y9_l0)
def Z69 (a0:TDoc) (a1:Bs):Option (TDef×Bool):=Z69_l7 a0 a1 (a0.FDefs.l.length+1) 0 TDef.zero
theorem Z69_walk {a0:TDoc}{a1:Bs}{r:TDef×Bool}(hE:Z69 a0 a1=some r) (H:Heap) :ACalls Tryz.prog 14 [.agg (TDoc.c a0),.d (.str a1)] H fun v h'=>v=.tup [.agg (TDef.c r.1),.d (.bool r.2)]/\h'=H:=by
 unfold Z69 at hE;refine ACalls.oW 22 [.cell 4 46,.tmp 5] Tryz.call14 Tryz.func14 ?_;refine seqR (S BX ?_);refine Sl ?_;refine S As (nil ?_);refine seqJ (TA 4 KeepsT.nil) (fun(z:TDef)=>[]) (fun z=>[TDef.c z]) (fun z=>H) (fun z=>Z69_j2 z=some r) ?_ ?_
 ·intro K2 hK2;refine seqR (S Fv (S Ld ?_));refine sLen (f:=TDef.c) (s:=a0.FDefs) (TK rfl) rfl rfl rfl rfl fun hL6=>?_;refine S Mv (nil ?_);refine block ?_;refine loopO (TA 1 (TA 4 (TA 9 (TA 10 KeepsT.nil)))) (fun(z:Nat×Nat×TDef)=>[(11,.a (.d (.int .i64 ((z.2.1:Nat):Int))))]) (fun z=>[TDef.c z.2.2]) (fun z=>H) (fun z=>z.1) (fun z=>Z69_l7 a0 a1 z.1 z.2.1 z.2.2=some r) ((a0.FDefs.l.length+1),0,TDef.zero) hE Weak.toA ?_
  rintro ⟨n7,s11_8,y9_l0⟩ hE K7 hK7;try dsimp only at hE
  cases n7 with
  | zero=>cases hE
  | succ n7 =>
    rw [Z69_l7] at hE;refine seqR (S BI (nil ?_));refine seqK fun K11 hK11=>?_;refine cE hE (fun hc12 hE=>?_) (fun hc12 hE=>?_)
    ·try dsimp only at hc12
     have hf12:=of_decide_eq_true hc12;refine sk hK11 ?_;clear hK11 K11;refine seqK fun K13 hK13=>?_;refine block ?_;refine seqR ?_;obtain⟨x15,gx15,hE⟩:=bO hE;refine S (ix TDef.c s11_8 gx15) (S Ld ?_);refine Sl ?_;refine Sf ?_;refine nil ?_;refine freezeA 7 _ rfl (KA 1 (KA 4 (KA 9 (KA 10 (KA 11 Keeps.nil))))) ?_;refine seqR (S Fv (S Ld (S Mv (S BS (nil ?_)))));refine cE hE (fun hc17 hE=>?_) (fun hc17 hE=>?_)
     ·refine seqR (S Ld ?_);refine Sf ?_;refine S As (nil ?_);exact rt hE
     refine sk hK13 ?_;clear hK13 K13;refine region ?_;refine SI ?_;refine S Mv (nil ?_);exact hK7 _ (n7,(s11_8+1),y9_l0) Weak.toA hE (Nat.lt_succ_self _)
    refine AWp.exit ?_;exact hK2 _ y9_l0 Weak.toA hE
 rintro y3_l0 hE;try dsimp only at hE
 unfold Z69_j2 at hE;refine seqR (S BU ?_);refine Sf ?_;refine S As (nil ?_);exact rt hE
end Go.Proofs
