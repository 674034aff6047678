import Derived.Test.YtbcphmbgonamlaaGreatDoorE3
import Derived.Test.YtbcphmbgonamlaaGreatDoorTab
set_option maxRecDepth 100000
set_option maxHeartbeats 2000000
set_option linter.unusedVariables false
set_option linter.unusedSimpArgs false
namespace Go.Proofs
open Go Go.Ab
inductive Z7 where
 | mk (FKind:Int) (FInt:Int) (FText:Bs) (FItems_nl:Bool) (FItems_l:List Z7) (FKeys:(Sl Bs))
def Z7.FKind:Z7->Int|.mk x _ _ _ _ _=>x
def Z7.FInt:Z7->Int|.mk _ x _ _ _ _=>x
def Z7.FText:Z7->Bs|.mk _ _ x _ _ _=>x
def Z7.FItems:Z7->(Sl Z7)|.mk _ _ _ nl l _=>⟨nl,l⟩
def Z7.FKeys:Z7->(Sl Bs)|.mk _ _ _ _ _ x=>x
noncomputable def Z7.FItemsD:Z7->D:=@Z7.rec (fun _=>D) (fun _=>List (List D)) (fun _ _ _ nl _ _ ih=>.slice 5 none nl ih) [] (fun v _ ih ihl=>((intE .i64) v.FKind++(intE .i64) v.FInt++strE v.FText++[ih]++(fun s=>[Sl.d 1 strE none s]) v.FKeys)::ihl)
noncomputable def Z7.c (v:Z7):List D:=(intE .i64) v.FKind++(intE .i64) v.FInt++strE v.FText++[v.FItemsD]++(fun s=>[Sl.d 1 strE none s]) v.FKeys
theorem Z7.FItemsD_eq (v:Z7):v.FItemsD=Sl.d 5 Z7.c none v.FItems:=by
 cases v with
 | mk y_Kind y_Int y_Text nl l y_Keys =>
  show D.slice 5 none nl _=D.slice 5 none nl (l.map Z7.c)
  congr 1
  induction l with
  | nil=>rfl
  | cons a r ih=>exact congrArg (Z7.c a::·) ih
def Z7.zero:Z7:=.mk (0:Int) (0:Int) ([]:Bs) true [] (Sl.nil:Sl Bs)
structure TArg where
 FName:Bs
 FValue:Z7
noncomputable def TArg.c (x:TArg):List D:=strE x.FName++Z7.c x.FValue
structure TDir where
 FName:Bs
 FArgs:(Sl TArg)
noncomputable def TDir.c (x:TDir):List D:=[.str x.FName,Sl.d 6 TArg.c none x.FArgs]
def TDir.zero:TDir:=⟨([]:Bs),(Sl.nil:Sl TArg)⟩
structure TRef where
 FName:Bs
 FWraps:(Sl Int)
noncomputable def TRef.c (x:TRef):List D:=[.str x.FName,Sl.d 1 (intE .i64) none x.FWraps]
def TRef.zero:TRef:=⟨([]:Bs),(Sl.nil:Sl Int)⟩
structure Z5 where
 FName:Bs
 FType:TRef
 FHas:Bool
 FDefault:Z7
 FDirs:(Sl TDir)
noncomputable def Z5.c (x:Z5):List D:=strE x.FName++TRef.c x.FType++boolE x.FHas++Z7.c x.FDefault++(fun s=>[Sl.d 2 TDir.c none s]) x.FDirs
def Z5.zero:Z5:=⟨([]:Bs),TRef.zero,false,Z7.zero,(Sl.nil:Sl TDir)⟩
structure Z4 where
 FName:Bs
 FArgs:(Sl Z5)
 FType:TRef
 FDirs:(Sl TDir)
noncomputable def Z4.c (x:Z4):List D:=strE x.FName++(fun s=>[Sl.d 10 Z5.c none s]) x.FArgs++TRef.c x.FType++(fun s=>[Sl.d 2 TDir.c none s]) x.FDirs
def Z4.zero:Z4:=⟨([]:Bs),(Sl.nil:Sl Z5),TRef.zero,(Sl.nil:Sl TDir)⟩
structure Z6 where
 FName:Bs
 FDirs:(Sl TDir)
noncomputable def Z6.c (x:Z6):List D:=[.str x.FName,Sl.d 2 TDir.c none x.FDirs]
def Z6.zero:Z6:=⟨([]:Bs),(Sl.nil:Sl TDir)⟩
structure TDef where
 FKind:Int
 FName:Bs
 FImplements:(Sl Bs)
 FDirs:(Sl TDir)
 FFields:(Sl Z4)
 FMembers:(Sl Z6)
 FInputs:(Sl Z5)
noncomputable def TDef.c (x:TDef):List D:=[.int .i64 x.FKind,.str x.FName,Sl.d 1 strE none x.FImplements,Sl.d 2 TDir.c none x.FDirs,Sl.d 5 Z4.c none x.FFields,Sl.d 2 Z6.c none x.FMembers,Sl.d 10 Z5.c none x.FInputs]
def TDef.zero:TDef:=⟨(0:Int),([]:Bs),(Sl.nil:Sl Bs),(Sl.nil:Sl TDir),(Sl.nil:Sl Z4),(Sl.nil:Sl Z6),(Sl.nil:Sl Z5)⟩
structure TDoc where
 FDefs:(Sl TDef)
noncomputable def TDoc.c (x:TDoc):List D:=[Sl.d 7 TDef.c none x.FDefs]
structure Z2 where
 FKind:Int
 FType:Bs
 FField:Bs
 FArg:Bs
 FFrom:Bs
 FTo:Bs
def Z2.c (x:Z2):List D:=[.int .i64 x.FKind,.str x.FType,.str x.FField,.str x.FArg,.str x.FFrom,.str x.FTo]
def Z2.zero:Z2:=⟨(0:Int),([]:Bs),([]:Bs),([]:Bs),([]:Bs),([]:Bs)⟩
structure Z3 where
 FErr:Int
 FAt:Bs
def Z3.c (x:Z3):List D:=[.int .i64 x.FErr,.str x.FAt]
structure Z0 where
 Fname:Bs
 Fout:(Sl Z2)
noncomputable def Z0.cg (t1:Option Nat) (x:Z0):List D:=strE x.Fname++[Sl.d 6 Z2.c t1 x.Fout]
structure Z1 where
 Fgone:Int
 Fadd:Int
 Ftyp:Int
 Fdef:Int
def Z1.c (x:Z1):List D:=[.int .i64 x.Fgone,.int .i64 x.Fadd,.int .i64 x.Ftyp,.int .i64 x.Fdef]
structure Z8 where
 FKind:Int
 FText:Bs
 FAt:Int
def Z8.c (x:Z8):List D:=[.int .i64 x.FKind,.str x.FText,.int .i64 x.FAt]
def Z8.zero:Z8:=⟨(0:Int),([]:Bs),(0:Int)⟩
end Go.Proofs

namespace Go.Proofs
open Go Go.Ab Go.RowKit
section
variable {H:Type}{B:DataW H->Nat}(hB:Bulk B)
noncomputable def Z7.sz:Z7->Nat:=@Z7.rec (fun _=>Nat) (fun _=>Nat) (fun y_Kind y_Int y_Text nl l y_Keys ih=>(fun _=>1) y_Kind+((fun _=>1) y_Int+(Bs.sz y_Text+((1+ih)+((Sl.sz Bs.sz) y_Keys+(0)))))) 0 (fun _ _ ih ihl=>ih+ihl)
noncomputable def Z7.szL:List Z7->Nat:=@Z7.rec_1 (fun _=>Nat) (fun _=>Nat) (fun y_Kind y_Int y_Text nl l y_Keys ih=>(fun _=>1) y_Kind+((fun _=>1) y_Int+(Bs.sz y_Text+((1+ih)+((Sl.sz Bs.sz) y_Keys+(0)))))) 0 (fun _ _ ih ihl=>ih+ihl)
theorem Z7.szL_eq (l:List Z7):Z7.szL l=(l.map Z7.sz).sum:=by
 induction l with
 | nil=>rfl
 | cons a r ih=>exact congrArg (Z7.sz a+·) ih
theorem Z7.sz_eq (x:Z7):x.sz=(fun _=>1) x.FKind+((fun _=>1) x.FInt+(Bs.sz x.FText+((Sl.sz Z7.sz) x.FItems+((Sl.sz Bs.sz) x.FKeys+(0))))):=by
 cases x with
 | mk y_Kind y_Int y_Text nl l y_Keys =>
  show (fun _=>1) y_Kind+((fun _=>1) y_Int+(Bs.sz y_Text+((1+Z7.szL l)+((Sl.sz Bs.sz) y_Keys+(0)))))=_;rw [Z7.szL_eq]; rfl
def Z7.wf:Z7->Prop:=@Z7.rec (fun _=>Prop) (fun _=>Prop) (fun y_Kind y_Int y_Text nl l y_Keys ih=>i64 y_Kind/\(i64 y_Int/\((fun _=>True) y_Text/\(((nl=true->l=[])/\l.length<=maxN/\ih)/\((Sl.wf (fun _=>True)) y_Keys/\(True)))))) True (fun _ _ ih ihl=>ih/\ihl)
def Z7.wfL:List Z7->Prop:=@Z7.rec_1 (fun _=>Prop) (fun _=>Prop) (fun y_Kind y_Int y_Text nl l y_Keys ih=>i64 y_Kind/\(i64 y_Int/\((fun _=>True) y_Text/\(((nl=true->l=[])/\l.length<=maxN/\ih)/\((Sl.wf (fun _=>True)) y_Keys/\(True)))))) True (fun _ _ ih ihl=>ih/\ihl)
theorem Z7.wfL_iff (l:List Z7):Z7.wfL l↔∀x∈l,Z7.wf x:=by
 induction l with
 | nil=>exact⟨fun _ _ h=>(by cases h),fun _=>trivial⟩
 | cons a r ih =>
  show (Z7.wf a/\Z7.wfL r)↔_;rw [ih]; simp
theorem Z7.wf_iff (x:Z7):x.wf↔i64 x.FKind/\(i64 x.FInt/\((fun _=>True) x.FText/\((Sl.wf Z7.wf) x.FItems/\((Sl.wf (fun _=>True)) x.FKeys/\(True))))):=by
 cases x with
 | mk y_Kind y_Int y_Text nl l y_Keys =>
  show (i64 y_Kind/\(i64 y_Int/\((fun _=>True) y_Text/\(((nl=true->l=[])/\l.length<=maxN/\Z7.wfL l)/\((Sl.wf (fun _=>True)) y_Keys/\(True))))))↔_;rw [Z7.wfL_iff]; exact Iff.rfl
include hB in
theorem rd_TValue_104:∀N,RdN Tryz.prog B N 104 Z7.c Z7.sz Z7.wf:=by
 have key:∀N M,M<=N->RdN Tryz.prog B M 104 Z7.c Z7.sz Z7.wf:=by
  intro N;induction N with
  | zero=>intro M hM; rw [Nat.le_zero.1 hM]; exact .zero
  | succ N ih =>
   intro M hM;cases M with
   | zero=>exact .zero
   | succ N_ =>
    have hit:RdN Tryz.prog B N_ 102 (fun s:Sl Z7=>[Sl.d 5 Z7.c none s]) (Sl.sz Z7.sz) (Sl.wf Z7.wf):=by
     cases N_ with
     | zero=>exact .zero
     | succ M=>exact RdS.sliceN hB (Tryz.tab_ok 102 _ rfl) rfl (Tryz.tab_ok 104 _ rfl) rfl (by decide) (fun _=>rfl) (ih M (by omega))
    refine RdN.struct hB (Tryz.tab_ok 104 _ rfl) rfl (RdP.cons (n:=5) (o:=0) (o':=1) (Tryz.tab_ok 3 _ rfl) rfl ((RdS.int hB (Tryz.tab_ok 3 _ rfl) rfl) N_) (RdP.cons (n:=5) (o:=1) (o':=2) (Tryz.tab_ok 3 _ rfl) rfl ((RdS.int hB (Tryz.tab_ok 3 _ rfl) rfl) N_) (RdP.cons (n:=5) (o:=2) (o':=3) (Tryz.tab_ok 9 _ rfl) rfl ((RdS.str hB (Tryz.tab_ok 9 _ rfl) rfl) N_) (RdP.cons (n:=5) (o:=3) (o':=4) (Tryz.tab_ok 102 _ rfl) rfl hit (RdP.cons (n:=5) (o:=4) (o':=5) (Tryz.tab_ok 55 _ rfl) rfl ((RdS.slice hB (Tryz.tab_ok 55 _ rfl) rfl (Tryz.tab_ok 9 _ rfl) rfl (by decide) (fun _=>rfl) (RdS.str hB (Tryz.tab_ok 9 _ rfl) rfl)) N_) (RdP.nil (n:=5))))))) (fun a=>Z7.mk a.1 a.2.1 a.2.2.1 a.2.2.2.1.nl a.2.2.2.1.l a.2.2.2.2.1) (fun a=>?_) (fun a=>by rw [Z7.sz_eq]; exact Nat.le_refl _) (fun a h=>by rw [Z7.wf_iff]; exact h)
    unfold Z7.c;rw [Z7.FItemsD_eq];rfl
 exact fun N=>key N N (Nat.le_refl _)
noncomputable def TArg.sz (x:TArg):Nat:=Bs.sz x.FName+(Z7.sz x.FValue+(0))
def TArg.wf (x:TArg):Prop:=(fun _=>True) x.FName/\(Z7.wf x.FValue/\(True))
include hB in
theorem rd_TArg_194:∀N,RdN Tryz.prog B N 194 TArg.c TArg.sz TArg.wf:=RdA.struct hB (Tryz.tab_ok 194 _ rfl) rfl (fun N_=>(RdP.cons (n:=6) (o:=0) (o':=1) (Tryz.tab_ok 9 _ rfl) rfl ((RdS.str hB (Tryz.tab_ok 9 _ rfl) rfl) N_) (RdP.cons (n:=6) (o:=1) (o':=6) (Tryz.tab_ok 104 _ rfl) rfl ((rd_TValue_104 hB) N_) (RdP.nil (n:=6))))) (fun a=>(⟨a.1,a.2.1⟩:TArg)) (fun _=>rfl) (fun _=>Nat.le_refl _) (fun _ h=>h)
noncomputable def TDir.sz (x:TDir):Nat:=Bs.sz x.FName+((Sl.sz TArg.sz) x.FArgs+(0))
def TDir.wf (x:TDir):Prop:=(fun _=>True) x.FName/\((Sl.wf TArg.wf) x.FArgs/\(True))
include hB in
theorem rd_TDir_191:∀N,RdN Tryz.prog B N 191 TDir.c TDir.sz TDir.wf:=RdA.struct hB (Tryz.tab_ok 191 _ rfl) rfl (fun N_=>(RdP.cons (n:=2) (o:=0) (o':=1) (Tryz.tab_ok 9 _ rfl) rfl ((RdS.str hB (Tryz.tab_ok 9 _ rfl) rfl) N_) (RdP.cons (n:=2) (o:=1) (o':=2) (Tryz.tab_ok 154 _ rfl) rfl ((RdS.slice hB (Tryz.tab_ok 154 _ rfl) rfl (Tryz.tab_ok 194 _ rfl) rfl (by decide) (fun _=>rfl) (rd_TArg_194 hB)) N_) (RdP.nil (n:=2))))) (fun a=>(⟨a.1,a.2.1⟩:TDir)) (fun _=>rfl) (fun _=>Nat.le_refl _) (fun _ h=>h)
noncomputable def TRef.sz (x:TRef):Nat:=Bs.sz x.FName+((Sl.sz (fun _=>1)) x.FWraps+(0))
def TRef.wf (x:TRef):Prop:=(fun _=>True) x.FName/\((Sl.wf i64) x.FWraps/\(True))
include hB in
theorem rd_TRef_49:∀N,RdN Tryz.prog B N 49 TRef.c TRef.sz TRef.wf:=RdA.struct hB (Tryz.tab_ok 49 _ rfl) rfl (fun N_=>(RdP.cons (n:=2) (o:=0) (o':=1) (Tryz.tab_ok 9 _ rfl) rfl ((RdS.str hB (Tryz.tab_ok 9 _ rfl) rfl) N_) (RdP.cons (n:=2) (o:=1) (o':=2) (Tryz.tab_ok 47 _ rfl) rfl ((RdS.slice hB (Tryz.tab_ok 47 _ rfl) rfl (Tryz.tab_ok 3 _ rfl) rfl (by decide) (fun _=>rfl) (RdS.int hB (Tryz.tab_ok 3 _ rfl) rfl)) N_) (RdP.nil (n:=2))))) (fun a=>(⟨a.1,a.2.1⟩:TRef)) (fun _=>rfl) (fun _=>Nat.le_refl _) (fun _ h=>h)
noncomputable def Z5.sz (x:Z5):Nat:=Bs.sz x.FName+(TRef.sz x.FType+((fun _=>1) x.FHas+(Z7.sz x.FDefault+((Sl.sz TDir.sz) x.FDirs+(0)))))
def Z5.wf (x:Z5):Prop:=(fun _=>True) x.FName/\(TRef.wf x.FType/\((fun _=>True) x.FHas/\(Z7.wf x.FDefault/\((Sl.wf TDir.wf) x.FDirs/\(True)))))
include hB in
theorem rd_TInput_113:∀N,RdN Tryz.prog B N 113 Z5.c Z5.sz Z5.wf:=RdA.struct hB (Tryz.tab_ok 113 _ rfl) rfl (fun N_=>(RdP.cons (n:=10) (o:=0) (o':=1) (Tryz.tab_ok 9 _ rfl) rfl ((RdS.str hB (Tryz.tab_ok 9 _ rfl) rfl) N_) (RdP.cons (n:=10) (o:=1) (o':=3) (Tryz.tab_ok 49 _ rfl) rfl ((rd_TRef_49 hB) N_) (RdP.cons (n:=10) (o:=3) (o':=4) (Tryz.tab_ok 4 _ rfl) rfl ((RdS.bool hB (Tryz.tab_ok 4 _ rfl) rfl) N_) (RdP.cons (n:=10) (o:=4) (o':=9) (Tryz.tab_ok 104 _ rfl) rfl ((rd_TValue_104 hB) N_) (RdP.cons (n:=10) (o:=9) (o':=10) (Tryz.tab_ok 51 _ rfl) rfl ((RdS.slice hB (Tryz.tab_ok 51 _ rfl) rfl (Tryz.tab_ok 191 _ rfl) rfl (by decide) (fun _=>rfl) (rd_TDir_191 hB)) N_) (RdP.nil (n:=10)))))))) (fun a=>(⟨a.1,a.2.1,a.2.2.1,a.2.2.2.1,a.2.2.2.2.1⟩:Z5)) (fun _=>rfl) (fun _=>Nat.le_refl _) (fun _ h=>h)
noncomputable def Z4.sz (x:Z4):Nat:=Bs.sz x.FName+((Sl.sz Z5.sz) x.FArgs+(TRef.sz x.FType+((Sl.sz TDir.sz) x.FDirs+(0))))
def Z4.wf (x:Z4):Prop:=(fun _=>True) x.FName/\((Sl.wf Z5.wf) x.FArgs/\(TRef.wf x.FType/\((Sl.wf TDir.wf) x.FDirs/\(True))))
include hB in
theorem rd_TField_53:∀N,RdN Tryz.prog B N 53 Z4.c Z4.sz Z4.wf:=RdA.struct hB (Tryz.tab_ok 53 _ rfl) rfl (fun N_=>(RdP.cons (n:=5) (o:=0) (o':=1) (Tryz.tab_ok 9 _ rfl) rfl ((RdS.str hB (Tryz.tab_ok 9 _ rfl) rfl) N_) (RdP.cons (n:=5) (o:=1) (o':=2) (Tryz.tab_ok 50 _ rfl) rfl ((RdS.slice hB (Tryz.tab_ok 50 _ rfl) rfl (Tryz.tab_ok 113 _ rfl) rfl (by decide) (fun _=>rfl) (rd_TInput_113 hB)) N_) (RdP.cons (n:=5) (o:=2) (o':=4) (Tryz.tab_ok 49 _ rfl) rfl ((rd_TRef_49 hB) N_) (RdP.cons (n:=5) (o:=4) (o':=5) (Tryz.tab_ok 51 _ rfl) rfl ((RdS.slice hB (Tryz.tab_ok 51 _ rfl) rfl (Tryz.tab_ok 191 _ rfl) rfl (by decide) (fun _=>rfl) (rd_TDir_191 hB)) N_) (RdP.nil (n:=5))))))) (fun a=>(⟨a.1,a.2.1,a.2.2.1,a.2.2.2.1⟩:Z4)) (fun _=>rfl) (fun _=>Nat.le_refl _) (fun _ h=>h)
noncomputable def Z6.sz (x:Z6):Nat:=Bs.sz x.FName+((Sl.sz TDir.sz) x.FDirs+(0))
def Z6.wf (x:Z6):Prop:=(fun _=>True) x.FName/\((Sl.wf TDir.wf) x.FDirs/\(True))
include hB in
theorem rd_TMember_122:∀N,RdN Tryz.prog B N 122 Z6.c Z6.sz Z6.wf:=RdA.struct hB (Tryz.tab_ok 122 _ rfl) rfl (fun N_=>(RdP.cons (n:=2) (o:=0) (o':=1) (Tryz.tab_ok 9 _ rfl) rfl ((RdS.str hB (Tryz.tab_ok 9 _ rfl) rfl) N_) (RdP.cons (n:=2) (o:=1) (o':=2) (Tryz.tab_ok 51 _ rfl) rfl ((RdS.slice hB (Tryz.tab_ok 51 _ rfl) rfl (Tryz.tab_ok 191 _ rfl) rfl (by decide) (fun _=>rfl) (rd_TDir_191 hB)) N_) (RdP.nil (n:=2))))) (fun a=>(⟨a.1,a.2.1⟩:Z6)) (fun _=>rfl) (fun _=>Nat.le_refl _) (fun _ h=>h)
noncomputable def TDef.sz (x:TDef):Nat:=(fun _=>1) x.FKind+(Bs.sz x.FName+((Sl.sz Bs.sz) x.FImplements+((Sl.sz TDir.sz) x.FDirs+((Sl.sz Z4.sz) x.FFields+((Sl.sz Z6.sz) x.FMembers+((Sl.sz Z5.sz) x.FInputs+(0)))))))
def TDef.wf (x:TDef):Prop:=i64 x.FKind/\((fun _=>True) x.FName/\((Sl.wf (fun _=>True)) x.FImplements/\((Sl.wf TDir.wf) x.FDirs/\((Sl.wf Z4.wf) x.FFields/\((Sl.wf Z6.wf) x.FMembers/\((Sl.wf Z5.wf) x.FInputs/\(True)))))))
include hB in
theorem rd_TDef_58:∀N,RdN Tryz.prog B N 58 TDef.c TDef.sz TDef.wf:=RdA.struct hB (Tryz.tab_ok 58 _ rfl) rfl (fun N_=>(RdP.cons (n:=7) (o:=0) (o':=1) (Tryz.tab_ok 3 _ rfl) rfl ((RdS.int hB (Tryz.tab_ok 3 _ rfl) rfl) N_) (RdP.cons (n:=7) (o:=1) (o':=2) (Tryz.tab_ok 9 _ rfl) rfl ((RdS.str hB (Tryz.tab_ok 9 _ rfl) rfl) N_) (RdP.cons (n:=7) (o:=2) (o':=3) (Tryz.tab_ok 55 _ rfl) rfl ((RdS.slice hB (Tryz.tab_ok 55 _ rfl) rfl (Tryz.tab_ok 9 _ rfl) rfl (by decide) (fun _=>rfl) (RdS.str hB (Tryz.tab_ok 9 _ rfl) rfl)) N_) (RdP.cons (n:=7) (o:=3) (o':=4) (Tryz.tab_ok 51 _ rfl) rfl ((RdS.slice hB (Tryz.tab_ok 51 _ rfl) rfl (Tryz.tab_ok 191 _ rfl) rfl (by decide) (fun _=>rfl) (rd_TDir_191 hB)) N_) (RdP.cons (n:=7) (o:=4) (o':=5) (Tryz.tab_ok 54 _ rfl) rfl ((RdS.slice hB (Tryz.tab_ok 54 _ rfl) rfl (Tryz.tab_ok 53 _ rfl) rfl (by decide) (fun _=>rfl) (rd_TField_53 hB)) N_) (RdP.cons (n:=7) (o:=5) (o':=6) (Tryz.tab_ok 56 _ rfl) rfl ((RdS.slice hB (Tryz.tab_ok 56 _ rfl) rfl (Tryz.tab_ok 122 _ rfl) rfl (by decide) (fun _=>rfl) (rd_TMember_122 hB)) N_) (RdP.cons (n:=7) (o:=6) (o':=7) (Tryz.tab_ok 50 _ rfl) rfl ((RdS.slice hB (Tryz.tab_ok 50 _ rfl) rfl (Tryz.tab_ok 113 _ rfl) rfl (by decide) (fun _=>rfl) (rd_TInput_113 hB)) N_) (RdP.nil (n:=7)))))))))) (fun a=>(⟨a.1,a.2.1,a.2.2.1,a.2.2.2.1,a.2.2.2.2.1,a.2.2.2.2.2.1,a.2.2.2.2.2.2.1⟩:TDef)) (fun _=>rfl) (fun _=>Nat.le_refl _) (fun _ h=>h)
noncomputable def TDoc.sz (x:TDoc):Nat:=(Sl.sz TDef.sz) x.FDefs+(0)
def TDoc.wf (x:TDoc):Prop:=(Sl.wf TDef.wf) x.FDefs/\(True)
include hB in
theorem rd_TDoc_24:∀N,RdN Tryz.prog B N 24 TDoc.c TDoc.sz TDoc.wf:=RdA.struct hB (Tryz.tab_ok 24 _ rfl) rfl (fun N_=>(RdP.cons (n:=1) (o:=0) (o':=1) (Tryz.tab_ok 22 _ rfl) rfl ((RdS.slice hB (Tryz.tab_ok 22 _ rfl) rfl (Tryz.tab_ok 58 _ rfl) rfl (by decide) (fun _=>rfl) (rd_TDef_58 hB)) N_) (RdP.nil (n:=1)))) (fun a=>(⟨a.1⟩:TDoc)) (fun _=>rfl) (fun _=>Nat.le_refl _) (fun _ h=>h)
end
theorem Z7.sz_def (x:Z7):x.sz=0+1+1+Bs.sz x.FText+(Sl.sz Z7.sz) x.FItems+(Sl.sz Bs.sz) x.FKeys:=by
 rw [Z7.sz_eq]; try dsimp only
 omega
theorem Z7.pos (x:Z7):1<=x.sz:=by
 rw [Z7.sz_def]; have:=Bs.sz_pos x.FText; omega
theorem TArg.sz_def (x:TArg):x.sz=0+Bs.sz x.FName+Z7.sz x.FValue:=by
 unfold TArg.sz; try dsimp only
 omega
theorem TDir.sz_def (x:TDir):x.sz=0+Bs.sz x.FName+(Sl.sz TArg.sz) x.FArgs:=by
 unfold TDir.sz; try dsimp only
 omega
theorem TRef.sz_def (x:TRef):x.sz=0+Bs.sz x.FName+(Sl.sz (fun _=>1)) x.FWraps:=by
 unfold TRef.sz; try dsimp only
 omega
theorem Z5.sz_def (x:Z5):x.sz=0+Bs.sz x.FName+TRef.sz x.FType+1+Z7.sz x.FDefault+(Sl.sz TDir.sz) x.FDirs:=by
 unfold Z5.sz; try dsimp only
 omega
theorem Z5.pos (x:Z5):1<=x.sz:=by
 rw [Z5.sz_def]; have:=Bs.sz_pos x.FName; omega
theorem Z4.sz_def (x:Z4):x.sz=0+Bs.sz x.FName+(Sl.sz Z5.sz) x.FArgs+TRef.sz x.FType+(Sl.sz TDir.sz) x.FDirs:=by
 unfold Z4.sz; try dsimp only
 omega
theorem Z6.sz_def (x:Z6):x.sz=0+Bs.sz x.FName+(Sl.sz TDir.sz) x.FDirs:=by
 unfold Z6.sz; try dsimp only
 omega
theorem Z6.pos (x:Z6):1<=x.sz:=by
 rw [Z6.sz_def]; have:=Bs.sz_pos x.FName; omega
theorem TDef.sz_def (x:TDef):x.sz=0+1+Bs.sz x.FName+(Sl.sz Bs.sz) x.FImplements+(Sl.sz TDir.sz) x.FDirs+(Sl.sz Z4.sz) x.FFields+(Sl.sz Z6.sz) x.FMembers+(Sl.sz Z5.sz) x.FInputs:=by
 unfold TDef.sz; try dsimp only
 omega
theorem TDef.pos (x:TDef):1<=x.sz:=by
 rw [TDef.sz_def]; have:=Bs.sz_pos x.FName; omega
theorem TDoc.sz_def (x:TDoc):x.sz=0+(Sl.sz TDef.sz) x.FDefs:=by
 unfold TDoc.sz; try dsimp only
 omega
end Go.Proofs

namespace Go.Proofs
open Go Go.Ab
open AOps Cert AWp Keeps KeepsT
variable {lou:Lou}
def Z42 (a0:Int):Option Bool:=some ((((decide ((65:Int)<=a0))&&(decide (a0<=(90:Int))))||((decide ((97:Int)<=a0))&&(decide (a0<=(122:Int)))))||(decide (a0=(95:Int))))
theorem Z42_walk {a0:Int}{r:Bool}(hE:Z42 a0=some r) (H:Heap) :ACalls Tryz.prog 87 [.d (.int .u8 a0)] H fun v h'=>v=.a (.d (.bool r))/\h'=H:=by
 unfold Z42 at hE;refine ACalls.oW 21 [.tmp 2] Tryz.call87 Tryz.func87 ?_;refine seqR (S As (nil ?_));refine seqR (S Mv (S BI (S Mv (G0 Mv ?_))));refine G1 6 rfl BI ?_;refine S PA (S Mv (G0 Mv ?_));refine G1 10 rfl BI ?_;refine G1 11 rfl Mv ?_;refine G0 Mv ?_;refine G1 13 rfl BI ?_;refine gC rfl rfl (fun hC=>ungdA (k:=12) rfl (pickAndA rfl rfl rfl)) rfl ?_;refine S PO (S Mv (G0 Mv ?_));refine G1 18 rfl BI ?_
 refine S PO (S As (nil ?_));exact rt hE
def Z38 (a0:Int):Option Bool:=some ((decide ((48:Int)<=a0))&&(decide (a0<=(57:Int))))
theorem Z38_walk {a0:Int}{r:Bool}(hE:Z38 a0=some r) (H:Heap) :ACalls Tryz.prog 88 [.d (.int .u8 a0)] H fun v h'=>v=.a (.d (.bool r))/\h'=H:=by
 unfold Z38 at hE;refine ACalls.oW 9 [.tmp 2] Tryz.call88 Tryz.func88 ?_;refine seqR (S As (nil ?_));refine seqR (S Mv (S BI (S Mv (G0 Mv ?_))));refine G1 6 rfl BI ?_;refine S PA (S As (nil ?_));exact rt hE
def Z35_j7  :Option Bool:=some true
def Z35_l10 (a0:Bs) :Nat->Nat->Option Bool
 | 0,_=>none
 | n10+1,s3_11=>bif (decide (((s3_11:Nat):Int)<((a0.length:Nat):Int))) then((a0[s3_11]?).bind fun x18=>(Z42 ((x18.toNat:Nat):Int)).bind fun x19=>guardO (((!x19)&&!(decide (((s3_11:Nat):Int)=(0:Int))))) (a0[s3_11]?) (0:UInt8) fun x20=>guardO (((!x19)&&!(decide (((s3_11:Nat):Int)=(0:Int))))) (Z38 ((x20.toNat:Nat):Int)) false fun x21=>bif ((!x19)&&((decide (((s3_11:Nat):Int)=(0:Int)))||(!x21))) then(some false) else((Z35_l10 a0 n10) (s3_11+1))) else(Z35_j7   )
def Z35 (a0:Bs):Option Bool:=bif ((decide (((a0.length:Nat):Int)<(1:Int)))||(decide ((64:Int)<((a0.length:Nat):Int)))) then(some false) else(Z35_l10 a0 (a0.length+1) 0)
theorem Z35_walk {a0:Bs}{r:Bool}(hE:Z35 a0=some r) (H:Heap) :ACalls Tryz.prog 38 [.d (.str a0)] H fun v h'=>v=.a (.d (.bool r))/\h'=H:=by
 unfold Z35 at hE;refine ACalls.oW 34 [.tmp 2] Tryz.call38 Tryz.func38 ?_;refine seqR (S As (nil ?_));refine seqK fun K2 hK2=>?_;refine seqR (S Mv ?_);refine sLenS (TK rfl) rfl rfl rfl rfl fun hL4=>?_;refine S BI (S Mv (G0 Mv ?_));refine gC rfl rfl (fun hC=>ungdA (k:=8) rfl (lenS (TK rfl) rfl rfl rfl)) rfl ?_;refine G1 9 rfl BI ?_;refine S PO (nil ?_);refine cE hE (fun hc5 hE=>?_) (fun hc5 hE=>?_)
 ·refine seqR (S As (nil ?_));exact rt hE
 refine sk hK2 ?_;clear hK2 K2;refine seqJH KeepsT.nil (fun(z:Unit)=>[]) (fun z=>H) (fun z=>Z35_j7 =some r) ?_ ?_
 ·intro K7 hK7;refine seqR (S As (nil ?_));refine block ?_;refine loopH (TA 0 KeepsT.nil) (fun(z:Nat×Nat)=>[(3,.a (.d (.int .i64 ((z.2:Nat):Int))))]) (fun z=>H) (fun z=>z.1) (fun z=>Z35_l10 a0 z.1 z.2=some r) ((a0.length+1),0) hE Weak.toA ?_;rintro ⟨n10,s3_11⟩ hE K10 hK10;try dsimp only at hE
  cases n10 with
  | zero=>cases hE
  | succ n10 =>
    rw [Z35_l10] at hE;refine seqK fun K12 hK12=>?_;refine seqR (S Mv (S Mv ?_));refine sLenS (TK rfl) rfl rfl rfl rfl fun hL14=>?_;refine S BI (nil ?_);refine cE hE (fun hc15 hE=>?_) (fun hc15 hE=>?_)
    ·try dsimp only at hc15
     have hf15:=of_decide_eq_true hc15;refine sk hK12 ?_;clear hK12 K12;refine seqK fun K16 hK16=>?_;refine block ?_;refine seqR (S Mv (S Mv ?_));obtain⟨x18,gx18,hE⟩:=bO hE;refine s0 (idxSn (n:=s3_11) (TK rfl) rfl rfl rfl gx18) rfl ?_;obtain⟨x19,gx19,hE⟩:=bO hE;refine Sc rfl rfl (Z42_walk gx19) ?_;refine S NB (S Mv (G0 Mv ?_));refine G1 24 rfl BI ?_;refine G1 25 rfl Mv ?_;refine G0 Mv (G0 Mv ?_);obtain⟨x20,gx20,hE⟩:=gO hE
     refine gC rfl rfl (fun hC=>ungdA (k:=27) rfl (ungdA (k:=28) rfl (idxSn (n:=s3_11) (TK rfl) rfl rfl rfl (gx20 hC)))) rfl ?_;obtain⟨x21,gx21,hE⟩:=gO hE;refine Gc1 29 rfl rfl rfl rfl rfl (fun hC=>Z38_walk (gx21 hC)) ?_;refine G1 30 rfl NB ?_;refine gC rfl rfl (fun hC=>ungdA (k:=26) rfl (pickOrA rfl rfl rfl)) rfl ?_;refine S PA (nil ?_);refine cE hE (fun hc22 hE=>?_) (fun hc22 hE=>?_)
     ·refine seqR (S As (nil ?_));exact rt hE
     refine sk hK16 ?_;clear hK16 K16;refine region ?_;refine S Mv ?_;refine SI ?_;refine S As (nil ?_);exact hK10 _ (n10,(s3_11+1)) Weak.toA hE (Nat.lt_succ_self _)
    refine AWp.exit ?_;exact hK7 _ () Weak.toA hE
 rintro _ hE;try dsimp only at hE
 unfold Z35_j7 at hE;refine seqR (S As (nil ?_));exact rt hE
def Z47_j3  (s3_4:Int):Option Int:=some s3_4
def Z47_l7 (a0:Z7) (k_rec_160:Z7->Option Int):Nat->Int->Nat->Option Int
 | 0,_,_=>none
 | n7+1,s3_8,s4_9=>bif (decide (((s4_9:Nat):Int)<((a0.FItems.l.length:Nat):Int))) then((a0.FItems.l[s4_9]?).bind fun x15=>(k_rec_160 x15).bind fun x16=>(addC s3_8 x16).bind fun x17=>(Z47_l7 a0 k_rec_160 n7) x17 (s4_9+1)) else(Z47_j3   s3_8)
def Z47_n:Nat->Z7->Option Int
 | 0,_=>none
 | n+1,a0=>Z47_l7 a0 (Z47_n n) (a0.FItems.l.length+1) (1:Int) 0
theorem Z47_step (n:Nat) (ih_160:∀{a0:Z7}{r:Int},Z47_n n a0=some r->∀(H:Heap),ACalls Tryz.prog 160 [.agg (Z7.c a0)] H fun v h'=>v=.a (.d (.int .i64 r))/\h'=H):∀{a0:Z7}{r:Int},Z47_n (n+1) a0=some r->∀(H:Heap),ACalls Tryz.prog 160 [.agg (Z7.c a0)] H fun v h'=>v=.a (.d (.int .i64 r))/\h'=H:=by
 intro a0   r hE H ;rw [Z47_n] at hE;refine ACalls.oW 21 [.tmp 2] Tryz.call160 Tryz.func160 ?_;refine seqR (S BX (S As (nil ?_)));refine seqR (S As (nil ?_));refine seqJH KeepsT.nil (fun(z:Int)=>[(3,.a (.d (.int .i64 z)))]) (fun z=>H) (fun z=>Z47_j3 z=some r) ?_ ?_
 ·intro K3 hK3;refine seqR (S As (nil ?_));refine block ?_;refine loopH (TA 1 KeepsT.nil) (fun(z:Nat×Int×Nat)=>[(3,.a (.d (.int .i64 z.2.1))),(4,.a (.d (.int .i64 ((z.2.2:Nat):Int))))]) (fun z=>H) (fun z=>z.1) (fun z=>Z47_l7 a0 (Z47_n n) z.1 z.2.1 z.2.2=some r) ((a0.FItems.l.length+1),(1:Int),0) hE Weak.toA ?_;rintro ⟨n7,s3_8,s4_9⟩ hE K7 hK7;try dsimp only at hE
  cases n7 with
  | zero=>cases hE
  | succ n7 =>
    rw [Z47_l7] at hE;refine seqK fun K10 hK10=>?_;refine seqR (S Mv (S Fv ?_));refine s0 (loadV (TK rfl) rfl rfl (congrArg (fun x=>some (A.d x)) (Z7.FItemsD_eq _))) rfl ?_;refine sLen (f:=Z7.c) (s:=a0.FItems) (TK rfl) rfl rfl rfl rfl fun hL12=>?_;refine S BI (nil ?_);refine cE hE (fun hc13 hE=>?_) (fun hc13 hE=>?_)
    ·try dsimp only at hc13
     have hf13:=of_decide_eq_true hc13;refine sk hK10 ?_;clear hK10 K10;refine seqK fun K14 hK14=>?_;refine block ?_;refine region ?_;refine S Mv (S Fv ?_);refine s0 (loadV (TK rfl) rfl rfl (congrArg (fun x=>some (A.d x)) (Z7.FItemsD_eq _))) rfl ?_;refine S Mv ?_;obtain⟨x15,gx15,hE⟩:=bO hE;refine S (ix Z7.c s4_9 gx15) (S Ld ?_);obtain⟨x16,gx16,hE⟩:=bO hE;refine Sc rfl rfl (ih_160 gx16) ?_;obtain⟨x17,gx17,hE⟩:=bO hE
     refine s0 (addM rfl rfl gx17) rfl ?_;refine S As (nil ?_);refine hK14 _ ?_;clear hK14 K14;refine region ?_;refine S Mv ?_;refine SI ?_;refine S As (nil ?_);exact hK7 _ (n7,x17,(s4_9+1)) Weak.toA hE (Nat.lt_succ_self _)
    refine AWp.exit ?_;exact hK3 _ s3_8 Weak.toA hE
 rintro s3_4 hE;try dsimp only at hE
 unfold Z47_j3 at hE;refine seqR (S Mv (S As (nil ?_)));exact rt hE
theorem Z47_all:∀(n:Nat),(∀{a0:Z7}{r:Int},Z47_n n a0=some r->∀(H:Heap),ACalls Tryz.prog 160 [.agg (Z7.c a0)] H fun v h'=>v=.a (.d (.int .i64 r))/\h'=H)
 | 0=>fun hE=>by first|cases hE|(rw [Z47_n] at hE; cases hE)
 | n+1=>Z47_step n (Z47_all n)
def Z47 (a0:Z7):Option Int:=Z47_n F0 a0
theorem Z47_walk {a0:Z7}{r:Int}(hE:Z47 a0=some r) (H:Heap) :ACalls Tryz.prog 160 [.agg (Z7.c a0)] H fun v h'=>v=.a (.d (.int .i64 r))/\h'=H:=(Z47_all F0) hE H 
def Z44_j3  (s3_4:Int):Option Int:=(addC s3_4 (1:Int)).bind fun x6=>some x6
def Z44_l8 (a0:Z7) (k_rec_161:Z7->Option Int):Nat->Int->Nat->Option Int
 | 0,_,_=>none
 | n8+1,s3_9,s4_10=>bif (decide (((s4_10:Nat):Int)<((a0.FItems.l.length:Nat):Int))) then((a0.FItems.l[s4_10]?).bind fun x16=>(k_rec_161 x16).bind fun x17=>(Z44_l8 a0 k_rec_161 n8) (if x17>s3_9 then x17 else s3_9) (s4_10+1)) else(Z44_j3   s3_9)
def Z44_n:Nat->Z7->Option Int
 | 0,_=>none
 | n+1,a0=>Z44_l8 a0 (Z44_n n) (a0.FItems.l.length+1) (0:Int) 0
theorem Z44_step (n:Nat) (ih_161:∀{a0:Z7}{r:Int},Z44_n n a0=some r->∀(H:Heap),ACalls Tryz.prog 161 [.agg (Z7.c a0)] H fun v h'=>v=.a (.d (.int .i64 r))/\h'=H):∀{a0:Z7}{r:Int},Z44_n (n+1) a0=some r->∀(H:Heap),ACalls Tryz.prog 161 [.agg (Z7.c a0)] H fun v h'=>v=.a (.d (.int .i64 r))/\h'=H:=by
 intro a0   r hE H ;rw [Z44_n] at hE;refine ACalls.oW 22 [.tmp 2] Tryz.call161 Tryz.func161 ?_;refine seqR (S BX (S As (nil ?_)));refine seqR (S As (nil ?_));refine seqJH KeepsT.nil (fun(z:Int)=>[(3,.a (.d (.int .i64 z)))]) (fun z=>H) (fun z=>Z44_j3 z=some r) ?_ ?_
 ·intro K3 hK3;refine seqR (S As (nil ?_));refine block ?_;refine loopH (TA 1 KeepsT.nil) (fun(z:Nat×Int×Nat)=>[(3,.a (.d (.int .i64 z.2.1))),(4,.a (.d (.int .i64 ((z.2.2:Nat):Int))))]) (fun z=>H) (fun z=>z.1) (fun z=>Z44_l8 a0 (Z44_n n) z.1 z.2.1 z.2.2=some r) ((a0.FItems.l.length+1),(0:Int),0) hE Weak.toA ?_;rintro ⟨n8,s3_9,s4_10⟩ hE K8 hK8;try dsimp only at hE
  cases n8 with
  | zero=>cases hE
  | succ n8 =>
    rw [Z44_l8] at hE;refine seqK fun K11 hK11=>?_;refine seqR (S Mv (S Fv ?_));refine s0 (loadV (TK rfl) rfl rfl (congrArg (fun x=>some (A.d x)) (Z7.FItemsD_eq _))) rfl ?_;refine sLen (f:=Z7.c) (s:=a0.FItems) (TK rfl) rfl rfl rfl rfl fun hL13=>?_;refine S BI (nil ?_);refine cE hE (fun hc14 hE=>?_) (fun hc14 hE=>?_)
    ·try dsimp only at hc14
     have hf14:=of_decide_eq_true hc14;refine sk hK11 ?_;clear hK11 K11;refine seqK fun K15 hK15=>?_;refine block ?_;refine region ?_;refine S Mv (S Fv ?_);refine s0 (loadV (TK rfl) rfl rfl (congrArg (fun x=>some (A.d x)) (Z7.FItemsD_eq _))) rfl ?_;refine S Mv ?_;obtain⟨x16,gx16,hE⟩:=bO hE;refine S (ix Z7.c s4_10 gx16) (S Ld ?_);obtain⟨x17,gx17,hE⟩:=bO hE;refine Sc rfl rfl (ih_161 gx17) ?_;refine s0 (maxM rfl rfl) rfl ?_
     refine S As (nil ?_);refine hK15 _ ?_;clear hK15 K15;refine region ?_;refine S Mv ?_;refine SI ?_;refine S As (nil ?_);exact hK8 _ (n8,(if x17>s3_9 then x17 else s3_9),(s4_10+1)) Weak.toA hE (Nat.lt_succ_self _)
    refine AWp.exit ?_;exact hK3 _ s3_9 Weak.toA hE
 rintro s3_4 hE;try dsimp only at hE
 unfold Z44_j3 at hE;refine seqR (S Mv ?_);obtain⟨x6,gx6,hE⟩:=bO hE;refine s0 (addM rfl rfl gx6) rfl ?_;refine S As (nil ?_);exact rt hE
theorem Z44_all:∀(n:Nat),(∀{a0:Z7}{r:Int},Z44_n n a0=some r->∀(H:Heap),ACalls Tryz.prog 161 [.agg (Z7.c a0)] H fun v h'=>v=.a (.d (.int .i64 r))/\h'=H)
 | 0=>fun hE=>by first|cases hE|(rw [Z44_n] at hE; cases hE)
 | n+1=>Z44_step n (Z44_all n)
def Z44 (a0:Z7):Option Int:=Z44_n F0 a0
theorem Z44_walk {a0:Z7}{r:Int}(hE:Z44 a0=some r) (H:Heap) :ACalls Tryz.prog 161 [.agg (Z7.c a0)] H fun v h'=>v=.a (.d (.int .i64 r))/\h'=H:=(Z44_all F0) hE H 
def Z52_j2  :Option Bool:=some false
def Z52_j11 (s3_6:Nat) (k_next_5:Nat->Option Bool) :Option Bool:=k_next_5 (s3_6+1)
def Z52_l13 (a0:(Sl Bs)) (s3_6:Nat) (k_next_5:Nat->Option Bool):Nat->Nat->Option Bool
 | 0,_=>none
 | n13+1,s4_14=>bif (decide (((s4_14:Nat):Int)<((s3_6:Nat):Int))) then((a0.l[s3_6]?).bind fun x20=>(a0.l[s4_14]?).bind fun x21=>bif ((x20==x21)) then(some true) else((Z52_l13 a0 s3_6 k_next_5 n13) (s4_14+1))) else(Z52_j11 s3_6 k_next_5 )
def Z52_l5 (a0:(Sl Bs)) :Nat->Nat->Option Bool
 | 0,_=>none
 | n5+1,s3_6=>bif (decide (((s3_6:Nat):Int)<((a0.l.length:Nat):Int))) then(Z52_l13 a0 s3_6 ((Z52_l5 a0 n5)) (s3_6+1) 0) else(Z52_j2   )
def Z52 (a0:(Sl Bs)):Option Bool:=Z52_l5 a0 (a0.l.length+1) 0
theorem Z52_walk {a0:Sl Bs}{w0:Option Nat}{r:Bool}(hE:Z52 a0=some r) (H:Heap) :ACalls Tryz.prog 267 [.d (Sl.d 1 strE w0 a0)] H fun v h'=>v=.a (.d (.bool r))/\h'=H:=by
 unfold Z52 at hE;refine ACalls.oW 25 [.tmp 2] Tryz.call267 Tryz.func267 ?_;refine seqR (S As (nil ?_));refine seqJH KeepsT.nil (fun(z:Unit)=>[]) (fun z=>H) (fun z=>Z52_j2 =some r) ?_ ?_
 ·intro K2 hK2;refine seqR (S As (nil ?_));refine block ?_;refine loopH (TA 0 KeepsT.nil) (fun(z:Nat×Nat)=>[(3,.a (.d (.int .i64 ((z.2:Nat):Int))))]) (fun z=>H) (fun z=>z.1) (fun z=>Z52_l5 a0 z.1 z.2=some r) ((a0.l.length+1),0) hE Weak.toA ?_;rintro ⟨n5,s3_6⟩ hE K5 hK5;try dsimp only at hE
  cases n5 with
  | zero=>cases hE
  | succ n5 =>
    rw [Z52_l5] at hE;refine seqK fun K7 hK7=>?_;refine seqR (S Mv (S Mv ?_));refine sLen (f:=strE) (s:=a0) (TK rfl) rfl rfl rfl rfl fun hL9=>?_;refine S BI (nil ?_);refine cE hE (fun hc10 hE=>?_) (fun hc10 hE=>?_)
    ·try dsimp only at hc10
     have hf10:=of_decide_eq_true hc10;refine sk hK7 ?_;clear hK7 K7;refine seqJH (TA 0 (TA 3 KeepsT.nil)) (fun(z:Unit)=>[]) (fun z=>H) (fun z=>Z52_j11 s3_6 ((Z52_l5 a0 n5)) =some r) ?_ ?_
     ·intro K11 hK11;refine block ?_;refine seqR (S As (nil ?_));refine block ?_;refine loopH (TA 0 (TA 3 KeepsT.nil)) (fun(z:Nat×Nat)=>[(4,.a (.d (.int .i64 ((z.2:Nat):Int))))]) (fun z=>H) (fun z=>z.1) (fun z=>Z52_l13 a0 s3_6 ((Z52_l5 a0 n5)) z.1 z.2=some r) ((s3_6+1),0) hE Weak.toA ?_;rintro ⟨n13,s4_14⟩ hE K13 hK13;try dsimp only at hE
      cases n13 with
      | zero=>cases hE
      | succ n13 =>
        rw [Z52_l13] at hE;refine seqK fun K15 hK15=>?_;refine seqR (S Mv (S Mv (S BI (nil ?_))));refine cE hE (fun hc17 hE=>?_) (fun hc17 hE=>?_)
        ·try dsimp only at hc17
         have hf17:=of_decide_eq_true hc17;refine sk hK15 ?_;clear hK15 K15;refine seqK fun K18 hK18=>?_;refine block ?_;refine AWp.seqD (Sd Mv (Sd Mv ?_));obtain⟨x20,gx20,hE⟩:=bO hE;refine Sd (ix strE s3_6 gx20) (Sd Ld (Sd Mv (Sd Mv ?_)));obtain⟨x21,gx21,hE⟩:=bO hE;refine Sd (ix strE s4_14 gx21) (Sd Ld (Sd BS ?_));refine DOps.nil (by decide +kernel) ?_;refine cE hE (fun hc22 hE=>?_) (fun hc22 hE=>?_)
         ·refine seqR (S As (nil ?_));exact rt hE
         refine sk hK18 ?_;clear hK18 K18;refine region ?_;refine S Mv ?_;refine SI ?_;refine S As (nil ?_);exact hK13 _ (n13,(s4_14+1)) Weak.toA hE (Nat.lt_succ_self _)
        refine AWp.exit ?_;exact hK11 _ () Weak.toA hE
     rintro _ hE;try dsimp only at hE
     unfold Z52_j11 at hE;refine region ?_;refine S Mv ?_;refine SI ?_;refine S As (nil ?_);exact hK5 _ (n5,(s3_6+1)) Weak.toA hE (Nat.lt_succ_self _)
    refine AWp.exit ?_;exact hK2 _ () Weak.toA hE
 rintro _ hE;try dsimp only at hE
 unfold Z52_j2 at hE;refine seqR (S As (nil ?_));exact rt hE
end Go.Proofs

namespace Go.Proofs
open Go Go.Ab
open AOps Cert AWp Keeps KeepsT
variable {lou:Lou}
def Z50 (a0:Z7) (a1:Bool):Option Bool:=bif (decide (a0.FKind=(0:Int))) then(some ((((decide (a0.FInt=(0:Int)))&&((a0.FText==([]:Bs))))&&(decide (((a0.FItems.l.length:Nat):Int)=(0:Int))))&&(decide (((a0.FKeys.l.length:Nat):Int)=(0:Int))))) else(bif (decide (a0.FKind=(1:Int))) then(some (((((decide (a0.FInt=(0:Int)))||(decide (a0.FInt=(1:Int))))&&((a0.FText==([]:Bs))))&&(decide (((a0.FItems.l.length:Nat):Int)=(0:Int))))&&(decide (((a0.FKeys.l.length:Nat):Int)=(0:Int))))) else(bif (decide (a0.FKind=(2:Int))) then(some ((((a0.FText==([]:Bs)))&&(decide (((a0.FItems.l.length:Nat):Int)=(0:Int))))&&(decide (((a0.FKeys.l.length:Nat):Int)=(0:Int))))) else(bif (decide (a0.FKind=(3:Int))) then(some (((decide (a0.FInt=(0:Int)))&&(decide (((a0.FItems.l.length:Nat):Int)=(0:Int))))&&(decide (((a0.FKeys.l.length:Nat):Int)=(0:Int))))) else(bif (decide (a0.FKind=(4:Int))) then(guardO ((((decide (a0.FInt=(0:Int)))&&(decide (((a0.FItems.l.length:Nat):Int)=(0:Int))))&&(decide (((a0.FKeys.l.length:Nat):Int)=(0:Int))))) (Z35 a0.FText) false fun x19=>some (((((((decide (a0.FInt=(0:Int)))&&(decide (((a0.FItems.l.length:Nat):Int)=(0:Int))))&&(decide (((a0.FKeys.l.length:Nat):Int)=(0:Int))))&&x19)&&(!(a0.FText==([116,114,117,101]:Bs))))&&(!(a0.FText==([102,97,108,115,101]:Bs))))&&(!(a0.FText==([110,117,108,108]:Bs))))) else(bif (decide (a0.FKind=(5:Int))) then(some (((decide (a0.FInt=(0:Int)))&&((a0.FText==([]:Bs))))&&(decide (((a0.FKeys.l.length:Nat):Int)=(0:Int))))) else(bif (decide (a0.FKind=(6:Int))) then(guardO ((((decide (a0.FInt=(0:Int)))&&((a0.FText==([]:Bs))))&&(decide (((a0.FKeys.l.length:Nat):Int)=((a0.FItems.l.length:Nat):Int))))) (Z52 a0.FKeys) false fun x26=>some ((((decide (a0.FInt=(0:Int)))&&((a0.FText==([]:Bs))))&&(decide (((a0.FKeys.l.length:Nat):Int)=((a0.FItems.l.length:Nat):Int))))&&(!x26))) else(bif (decide (a0.FKind=(7:Int))) then(guardO ((((a1&&(decide (a0.FInt=(0:Int))))&&(decide (((a0.FItems.l.length:Nat):Int)=(0:Int))))&&(decide (((a0.FKeys.l.length:Nat):Int)=(0:Int))))) (Z35 a0.FText) false fun x30=>some ((((a1&&(decide (a0.FInt=(0:Int))))&&(decide (((a0.FItems.l.length:Nat):Int)=(0:Int))))&&(decide (((a0.FKeys.l.length:Nat):Int)=(0:Int))))&&x30)) else(some false))))))))
theorem Z50_walk {a0:Z7}{a1 r:Bool}(hE:Z50 a0 a1=some r) (H:Heap) :ACalls Tryz.prog 216 [.agg (Z7.c a0),.d (.bool a1)] H fun v h'=>v=.a (.d (.bool r))/\h'=H:=by
 unfold Z50 at hE;refine ACalls.oW 193 [.tmp 4] Tryz.call216 Tryz.func216 ?_;refine seqR (S BX (S As (nil ?_)));refine seqK fun K2 hK2=>?_;refine seqR (S Fv (S Ld (nil ?_)));refine block ?_;refine seqR (S BI (S As (nil ?_)));refine cE hE (fun hc5 hE=>?_) (fun hc5 hE=>?_)
 ·refine seqR (S Fv (S Ld (S BI (S Mv (G0 Fv ?_)))));refine G1 13 rfl Ld ?_;refine G1 14 rfl BS ?_;refine S PA (S Mv (G0 Fv ?_));refine gC rfl rfl (fun hC=>ungdA (k:=18) rfl (loadV (TK rfl) rfl rfl (congrArg (fun x=>some (A.d x)) (Z7.FItemsD_eq _)))) rfl ?_;refine gC rfl rfl (fun hC=>ungdA (k:=19) rfl (lenM' (f:=Z7.c) (s:=a0.FItems) (TK rfl) rfl rfl rfl)) rfl ?_;refine G1 20 rfl BI ?_;refine S PA (S Mv (G0 Fv ?_))
  refine G1 24 rfl Ld ?_;refine gC rfl rfl (fun hC=>ungdA (k:=25) rfl (lenM' (f:=strE) (s:=a0.FKeys) (TK rfl) rfl rfl rfl)) rfl ?_;refine G1 26 rfl BI ?_;refine S PA (S As (nil ?_));exact rt hE
 refine seqR (S BI (S As (nil ?_)));refine cE hE (fun hc8 hE=>?_) (fun hc8 hE=>?_)
 ·refine seqR (S Fv (S Ld (S BI (S Mv (G0 Fv ?_)))));refine G1 35 rfl Ld ?_;refine G1 36 rfl BI ?_;refine S PO (S Mv (G0 Fv ?_));refine G1 40 rfl Ld ?_;refine G1 41 rfl BS ?_;refine S PA (S Mv (G0 Fv ?_));refine gC rfl rfl (fun hC=>ungdA (k:=45) rfl (loadV (TK rfl) rfl rfl (congrArg (fun x=>some (A.d x)) (Z7.FItemsD_eq _)))) rfl ?_;refine gC rfl rfl (fun hC=>ungdA (k:=46) rfl (lenM' (f:=Z7.c) (s:=a0.FItems) (TK rfl) rfl rfl rfl)) rfl ?_
  refine G1 47 rfl BI ?_;refine S PA (S Mv (G0 Fv ?_));refine G1 51 rfl Ld ?_;refine gC rfl rfl (fun hC=>ungdA (k:=52) rfl (lenM' (f:=strE) (s:=a0.FKeys) (TK rfl) rfl rfl rfl)) rfl ?_;refine G1 53 rfl BI ?_;refine S PA (S As (nil ?_));exact rt hE
 refine seqR (S BI (S As (nil ?_)));refine cE hE (fun hc11 hE=>?_) (fun hc11 hE=>?_)
 ·refine seqR (S Fv (S Ld (S BS (S Mv (G0 Fv ?_)))));refine gC rfl rfl (fun hC=>ungdA (k:=62) rfl (loadV (TK rfl) rfl rfl (congrArg (fun x=>some (A.d x)) (Z7.FItemsD_eq _)))) rfl ?_;refine gC rfl rfl (fun hC=>ungdA (k:=63) rfl (lenM' (f:=Z7.c) (s:=a0.FItems) (TK rfl) rfl rfl rfl)) rfl ?_;refine G1 64 rfl BI ?_;refine S PA (S Mv (G0 Fv ?_));refine G1 68 rfl Ld ?_;refine gC rfl rfl (fun hC=>ungdA (k:=69) rfl (lenM' (f:=strE) (s:=a0.FKeys) (TK rfl) rfl rfl rfl)) rfl ?_
  refine G1 70 rfl BI ?_;refine S PA (S As (nil ?_));exact rt hE
 refine seqR (S BI (S As (nil ?_)));refine cE hE (fun hc14 hE=>?_) (fun hc14 hE=>?_)
 ·refine seqR (S Fv (S Ld (S BI (S Mv (G0 Fv ?_)))));refine gC rfl rfl (fun hC=>ungdA (k:=79) rfl (loadV (TK rfl) rfl rfl (congrArg (fun x=>some (A.d x)) (Z7.FItemsD_eq _)))) rfl ?_;refine gC rfl rfl (fun hC=>ungdA (k:=80) rfl (lenM' (f:=Z7.c) (s:=a0.FItems) (TK rfl) rfl rfl rfl)) rfl ?_;refine G1 81 rfl BI ?_;refine S PA (S Mv (G0 Fv ?_));refine G1 85 rfl Ld ?_;refine gC rfl rfl (fun hC=>ungdA (k:=86) rfl (lenM' (f:=strE) (s:=a0.FKeys) (TK rfl) rfl rfl rfl)) rfl ?_
  refine G1 87 rfl BI ?_;refine S PA (S As (nil ?_));exact rt hE
 refine seqR (S BI (S As (nil ?_)));refine cE hE (fun hc17 hE=>?_) (fun hc17 hE=>?_)
 ·refine seqR (S Fv (S Ld (S BI (S Mv (G0 Fv ?_)))));refine gC rfl rfl (fun hC=>ungdA (k:=96) rfl (loadV (TK rfl) rfl rfl (congrArg (fun x=>some (A.d x)) (Z7.FItemsD_eq _)))) rfl ?_;refine gC rfl rfl (fun hC=>ungdA (k:=97) rfl (lenM' (f:=Z7.c) (s:=a0.FItems) (TK rfl) rfl rfl rfl)) rfl ?_;refine G1 98 rfl BI ?_;refine S PA (S Mv (G0 Fv ?_));refine G1 102 rfl Ld ?_;refine gC rfl rfl (fun hC=>ungdA (k:=103) rfl (lenM' (f:=strE) (s:=a0.FKeys) (TK rfl) rfl rfl rfl)) rfl ?_
  refine G1 104 rfl BI ?_;refine S PA (S Mv (G0 Fv ?_));refine G1 108 rfl Ld ?_;obtain⟨x19,gx19,hE⟩:=gO hE;refine Gc1 109 rfl rfl rfl rfl rfl (fun hC=>Z35_walk (gx19 hC)) ?_;refine S PA (S Mv (G0 Fv ?_));refine G1 113 rfl Ld ?_;refine G1 114 rfl BS ?_;refine S PA (S Mv (G0 Fv ?_));refine G1 118 rfl Ld ?_;refine G1 119 rfl BS ?_;refine S PA (S Mv (G0 Fv ?_));refine G1 123 rfl Ld ?_;refine G1 124 rfl BS ?_
  refine S PA (S As (nil ?_));exact rt hE
 refine seqR (S BI (S As (nil ?_)));refine cE hE (fun hc21 hE=>?_) (fun hc21 hE=>?_)
 ·refine seqR (S Fv (S Ld (S BI (S Mv (G0 Fv ?_)))));refine G1 133 rfl Ld ?_;refine G1 134 rfl BS ?_;refine S PA (S Mv (G0 Fv ?_));refine G1 138 rfl Ld ?_;refine gC rfl rfl (fun hC=>ungdA (k:=139) rfl (lenM' (f:=strE) (s:=a0.FKeys) (TK rfl) rfl rfl rfl)) rfl ?_;refine G1 140 rfl BI ?_;refine S PA (S As (nil ?_));exact rt hE
 refine seqR (S BI (S As (nil ?_)));refine cE hE (fun hc24 hE=>?_) (fun hc24 hE=>?_)
 ·refine seqR (S Fv (S Ld (S BI (S Mv (G0 Fv ?_)))));refine G1 149 rfl Ld ?_;refine G1 150 rfl BS ?_;refine S PA (S Mv (G0 Fv ?_));refine G1 154 rfl Ld ?_;refine gC rfl rfl (fun hC=>ungdA (k:=155) rfl (lenM' (f:=strE) (s:=a0.FKeys) (TK rfl) rfl rfl rfl)) rfl ?_;refine G0 Fv ?_;refine gC rfl rfl (fun hC=>ungdA (k:=157) rfl (loadV (TK rfl) rfl rfl (congrArg (fun x=>some (A.d x)) (Z7.FItemsD_eq _)))) rfl ?_
  refine gC rfl rfl (fun hC=>ungdA (k:=158) rfl (lenM' (f:=Z7.c) (s:=a0.FItems) (TK rfl) rfl rfl rfl)) rfl ?_;refine G2 156 159 rfl rfl BI ?_;refine S PA (S Mv (G0 Fv ?_));refine G1 163 rfl Ld ?_;obtain⟨x26,gx26,hE⟩:=gO hE;refine Gc1 164 rfl rfl rfl rfl rfl (fun hC=>Z52_walk (gx26 hC)) ?_;refine G1 165 rfl NB ?_;refine S PA (S As (nil ?_));exact rt hE
 refine seqR (S BI (S As (nil ?_)));refine cE hE (fun hc28 hE=>?_) (fun hc28 hE=>?_)
 ·refine seqR (S Mv (S Mv (G0 Fv ?_)));refine G1 172 rfl Ld ?_;refine G1 173 rfl BI ?_;refine S PA (S Mv (G0 Fv ?_));refine gC rfl rfl (fun hC=>ungdA (k:=177) rfl (loadV (TK rfl) rfl rfl (congrArg (fun x=>some (A.d x)) (Z7.FItemsD_eq _)))) rfl ?_;refine gC rfl rfl (fun hC=>ungdA (k:=178) rfl (lenM' (f:=Z7.c) (s:=a0.FItems) (TK rfl) rfl rfl rfl)) rfl ?_;refine G1 179 rfl BI ?_;refine S PA (S Mv (G0 Fv ?_))
  refine G1 183 rfl Ld ?_;refine gC rfl rfl (fun hC=>ungdA (k:=184) rfl (lenM' (f:=strE) (s:=a0.FKeys) (TK rfl) rfl rfl rfl)) rfl ?_;refine G1 185 rfl BI ?_;refine S PA (S Mv (G0 Fv ?_));refine G1 189 rfl Ld ?_;obtain⟨x30,gx30,hE⟩:=gO hE;refine Gc1 190 rfl rfl rfl rfl rfl (fun hC=>Z35_walk (gx30 hC)) ?_;refine S PA (S As (nil ?_));exact rt hE
 refine sk hK2 ?_;clear hK2 K2;refine seqR (S As (nil ?_));exact rt hE
def Z53_j8  :Option Bool:=some true
def Z53_l11 (a0:Z7) (a1:Bool) (k_rec_162:Z7->Bool->Option Bool):Nat->Nat->Option Bool
 | 0,_=>none
 | n11+1,s6_12=>bif (decide (((s6_12:Nat):Int)<((a0.FItems.l.length:Nat):Int))) then((a0.FItems.l[s6_12]?).bind fun x19=>(k_rec_162 x19 a1).bind fun x20=>bif (!x20) then(some false) else((Z53_l11 a0 a1 k_rec_162 n11) (s6_12+1))) else(Z53_j8   )
def Z53_j7 (a0:Z7) (a1:Bool) (k_rec_162:Z7->Bool->Option Bool) :Option Bool:=Z53_l11 a0 a1 k_rec_162 (a0.FItems.l.length+1) 0
def Z53_l24 (a0:Z7) (a1:Bool) (k_rec_162:Z7->Bool->Option Bool):Nat->Nat->Option Bool
 | 0,_=>none
 | n24+1,s5_25=>bif (decide (((s5_25:Nat):Int)<((a0.FKeys.l.length:Nat):Int))) then(guardO (a1) (a0.FKeys.l[s5_25]?) ([]:Bs) fun x32=>guardO (a1) (Z35 x32) false fun x33=>bif (a1&&(!x33)) then(some false) else((Z53_l24 a0 a1 k_rec_162 n24) (s5_25+1))) else(Z53_j7 a0 a1 k_rec_162 )
def Z53_n:Nat->Z7->Bool->Option Bool
 | 0,_,_=>none
 | n+1,a0,a1=>(Z50 a0 a1).bind fun x4=>bif (!x4) then(some false) else(Z53_l24 a0 a1 (Z53_n n) (a0.FKeys.l.length+1) 0)
theorem Z53_step (n:Nat) (ih_162:∀{a0:Z7}{a1 r:Bool},Z53_n n a0 a1=some r->∀(H:Heap),ACalls Tryz.prog 162 [.agg (Z7.c a0),.d (.bool a1)] H fun v h'=>v=.a (.d (.bool r))/\h'=H):∀{a0:Z7}{a1 r:Bool},Z53_n (n+1) a0 a1=some r->∀(H:Heap),ACalls Tryz.prog 162 [.agg (Z7.c a0),.d (.bool a1)] H fun v h'=>v=.a (.d (.bool r))/\h'=H:=by
 intro a0 a1   r hE H ;rw [Z53_n] at hE;refine ACalls.oW 43 [.tmp 4] Tryz.call162 Tryz.func162 ?_;refine seqR (S BX (S As (nil ?_)));refine seqK fun K2 hK2=>?_;refine seqR (S Ld (S Mv ?_));obtain⟨x4,gx4,hE⟩:=bO hE;refine Sc rfl rfl (Z50_walk gx4) ?_;refine S NB (nil ?_);refine cE hE (fun hc5 hE=>?_) (fun hc5 hE=>?_)
 ·refine seqR (S As (nil ?_));exact rt hE
 refine sk hK2 ?_;clear hK2 K2;refine seqJH (TA 1 (TA 2 KeepsT.nil)) (fun(z:Unit)=>[]) (fun z=>H) (fun z=>Z53_j7 a0 a1 (Z53_n n) =some r) ?_ ?_
 ·intro K7 hK7;refine seqR (S As (nil ?_));refine block ?_;refine loopH (TA 1 (TA 2 KeepsT.nil)) (fun(z:Nat×Nat)=>[(5,.a (.d (.int .i64 ((z.2:Nat):Int))))]) (fun z=>H) (fun z=>z.1) (fun z=>Z53_l24 a0 a1 (Z53_n n) z.1 z.2=some r) ((a0.FKeys.l.length+1),0) hE Weak.toA ?_;rintro ⟨n24,s5_25⟩ hE K24 hK24;try dsimp only at hE
  cases n24 with
  | zero=>cases hE
  | succ n24 =>
    rw [Z53_l24] at hE;refine seqK fun K26 hK26=>?_;refine seqR (S Mv (S Fv (S Ld ?_)));refine sLen (f:=strE) (s:=a0.FKeys) (TK rfl) rfl rfl rfl rfl fun hL28=>?_;refine S BI (nil ?_);refine cE hE (fun hc29 hE=>?_) (fun hc29 hE=>?_)
    ·try dsimp only at hc29
     have hf29:=of_decide_eq_true hc29;refine sk hK26 ?_;clear hK26 K26;refine seqK fun K30 hK30=>?_;refine block ?_;refine seqR (S Mv (S Mv (G0 Fv ?_)));refine G1 20 rfl Ld ?_;refine G0 Mv ?_;obtain⟨x32,gx32,hE⟩:=gO hE;refine gC rfl rfl (fun hC=>ungdA (k:=21) rfl (ungdA (k:=22) rfl (idxMn (f:=strE) (n:=s5_25) (TK rfl) rfl (TK rfl) rfl rfl rfl (gx32 hC)))) rfl ?_;refine G1 23 rfl Ld ?_;obtain⟨x33,gx33,hE⟩:=gO hE
     refine Gc1 24 rfl rfl rfl rfl rfl (fun hC=>Z35_walk (gx33 hC)) ?_;refine G1 25 rfl NB ?_;refine S PA (nil ?_);refine cE hE (fun hc34 hE=>?_) (fun hc34 hE=>?_)
     ·refine seqR (S As (nil ?_));exact rt hE
     refine sk hK30 ?_;clear hK30 K30;refine region ?_;refine S Mv ?_;refine SI ?_;refine S As (nil ?_);exact hK24 _ (n24,(s5_25+1)) Weak.toA hE (Nat.lt_succ_self _)
    refine AWp.exit ?_;exact hK7 _ () Weak.toA hE
 rintro _ hE;try dsimp only at hE
 unfold Z53_j7 at hE;refine seqJH KeepsT.nil (fun(z:Unit)=>[]) (fun z=>H) (fun z=>Z53_j8 =some r) ?_ ?_
 ·intro K8 hK8;refine seqR (S As (nil ?_));refine block ?_;refine loopH (TA 1 (TA 2 KeepsT.nil)) (fun(z:Nat×Nat)=>[(6,.a (.d (.int .i64 ((z.2:Nat):Int))))]) (fun z=>H) (fun z=>z.1) (fun z=>Z53_l11 a0 a1 (Z53_n n) z.1 z.2=some r) ((a0.FItems.l.length+1),0) hE Weak.toA ?_;rintro ⟨n11,s6_12⟩ hE K11 hK11;try dsimp only at hE
  cases n11 with
  | zero=>cases hE
  | succ n11 =>
    rw [Z53_l11] at hE;refine seqK fun K13 hK13=>?_;refine seqR (S Mv (S Fv ?_));refine s0 (loadV (TK rfl) rfl rfl (congrArg (fun x=>some (A.d x)) (Z7.FItemsD_eq _))) rfl ?_;refine sLen (f:=Z7.c) (s:=a0.FItems) (TK rfl) rfl rfl rfl rfl fun hL15=>?_;refine S BI (nil ?_);refine cE hE (fun hc16 hE=>?_) (fun hc16 hE=>?_)
    ·try dsimp only at hc16
     have hf16:=of_decide_eq_true hc16;refine sk hK13 ?_;clear hK13 K13;refine seqK fun K17 hK17=>?_;refine block ?_;refine seqR (S Fv ?_);refine s0 (loadV (TK rfl) rfl rfl (congrArg (fun x=>some (A.d x)) (Z7.FItemsD_eq _))) rfl ?_;refine S Mv ?_;obtain⟨x19,gx19,hE⟩:=bO hE;refine S (ix Z7.c s6_12 gx19) (S Ld (S Mv ?_));obtain⟨x20,gx20,hE⟩:=bO hE;refine Sc rfl rfl (ih_162 gx20) ?_;refine S NB (nil ?_)
     refine cE hE (fun hc21 hE=>?_) (fun hc21 hE=>?_)
     ·refine seqR (S As (nil ?_));exact rt hE
     refine sk hK17 ?_;clear hK17 K17;refine region ?_;refine S Mv ?_;refine SI ?_;refine S As (nil ?_);exact hK11 _ (n11,(s6_12+1)) Weak.toA hE (Nat.lt_succ_self _)
    refine AWp.exit ?_;exact hK8 _ () Weak.toA hE
 rintro _ hE;try dsimp only at hE
 unfold Z53_j8 at hE;refine seqR (S As (nil ?_));exact rt hE
theorem Z53_all:∀(n:Nat),(∀{a0:Z7}{a1 r:Bool},Z53_n n a0 a1=some r->∀(H:Heap),ACalls Tryz.prog 162 [.agg (Z7.c a0),.d (.bool a1)] H fun v h'=>v=.a (.d (.bool r))/\h'=H)
 | 0=>fun hE=>by first|cases hE|(rw [Z53_n] at hE; cases hE)
 | n+1=>Z53_step n (Z53_all n)
def Z53 (a0:Z7) (a1:Bool):Option Bool:=Z53_n F0 a0 a1
theorem Z53_walk {a0:Z7}{a1 r:Bool}(hE:Z53 a0 a1=some r) (H:Heap) :ACalls Tryz.prog 162 [.agg (Z7.c a0),.d (.bool a1)] H fun v h'=>v=.a (.d (.bool r))/\h'=H:=(Z53_all F0) hE H 
def Z45 (a0:Z7):Option Bool:=(Z47 a0).bind fun x3=>guardO ((decide (x3<=(4096:Int)))) (Z44 a0) (0:Int) fun x4=>guardO (((decide (x3<=(4096:Int)))&&(decide (x4<=(24:Int))))) (Z53 a0 true) false fun x5=>some (((decide (x3<=(4096:Int)))&&(decide (x4<=(24:Int))))&&x5)
theorem Z45_walk {a0:Z7}{r:Bool}(hE:Z45 a0=some r) (H:Heap) :ACalls Tryz.prog 90 [.agg (Z7.c a0)] H fun v h'=>v=.a (.d (.bool r))/\h'=H:=by
 unfold Z45 at hE;refine ACalls.oW 15 [.tmp 2] Tryz.call90 Tryz.func90 ?_;refine seqR (S BX (S As (nil ?_)));refine seqR (S Ld ?_);obtain⟨x3,gx3,hE⟩:=bO hE;refine Sc rfl rfl (Z47_walk gx3) ?_;refine S BI (S Mv (G0 Ld ?_));obtain⟨x4,gx4,hE⟩:=gO hE;refine Gc1 7 rfl rfl rfl rfl rfl (fun hC=>Z44_walk (gx4 hC)) ?_;refine G1 8 rfl BI ?_;refine S PA (S Mv (G0 Ld ?_));obtain⟨x5,gx5,hE⟩:=gO hE;refine Gc1 12 rfl rfl rfl rfl rfl (fun hC=>Z53_walk (gx5 hC)) ?_
 refine S PA (S As (nil ?_));exact rt hE
def Z66_j2 (a0:Z7)  :Option Bool:=some (!decide (a0.FKind=(7:Int)))
def Z66_l5 (a0:Z7) (k_rec_157:Z7->Option Bool):Nat->Nat->Option Bool
 | 0,_=>none
 | n5+1,s3_6=>bif (decide (((s3_6:Nat):Int)<((a0.FItems.l.length:Nat):Int))) then((a0.FItems.l[s3_6]?).bind fun x13=>(k_rec_157 x13).bind fun x14=>bif (!x14) then(some false) else((Z66_l5 a0 k_rec_157 n5) (s3_6+1))) else(Z66_j2 a0  )
def Z66_n:Nat->Z7->Option Bool
 | 0,_=>none
 | n+1,a0=>Z66_l5 a0 (Z66_n n) (a0.FItems.l.length+1) 0
theorem Z66_step (n:Nat) (ih_157:∀{a0:Z7}{r:Bool},Z66_n n a0=some r->∀(H:Heap),ACalls Tryz.prog 157 [.agg (Z7.c a0)] H fun v h'=>v=.a (.d (.bool r))/\h'=H):∀{a0:Z7}{r:Bool},Z66_n (n+1) a0=some r->∀(H:Heap),ACalls Tryz.prog 157 [.agg (Z7.c a0)] H fun v h'=>v=.a (.d (.bool r))/\h'=H:=by
 intro a0   r hE H ;rw [Z66_n] at hE;refine ACalls.oW 21 [.tmp 2] Tryz.call157 Tryz.func157 ?_;refine seqR (S BX (S As (nil ?_)));refine seqJH (TA 1 KeepsT.nil) (fun(z:Unit)=>[]) (fun z=>H) (fun z=>Z66_j2 a0 =some r) ?_ ?_
 ·intro K2 hK2;refine seqR (S As (nil ?_));refine block ?_;refine loopH (TA 1 KeepsT.nil) (fun(z:Nat×Nat)=>[(3,.a (.d (.int .i64 ((z.2:Nat):Int))))]) (fun z=>H) (fun z=>z.1) (fun z=>Z66_l5 a0 (Z66_n n) z.1 z.2=some r) ((a0.FItems.l.length+1),0) hE Weak.toA ?_;rintro ⟨n5,s3_6⟩ hE K5 hK5;try dsimp only at hE
  cases n5 with
  | zero=>cases hE
  | succ n5 =>
    rw [Z66_l5] at hE;refine seqK fun K7 hK7=>?_;refine seqR (S Mv (S Fv ?_));refine s0 (loadV (TK rfl) rfl rfl (congrArg (fun x=>some (A.d x)) (Z7.FItemsD_eq _))) rfl ?_;refine sLen (f:=Z7.c) (s:=a0.FItems) (TK rfl) rfl rfl rfl rfl fun hL9=>?_;refine S BI (nil ?_);refine cE hE (fun hc10 hE=>?_) (fun hc10 hE=>?_)
    ·try dsimp only at hc10
     have hf10:=of_decide_eq_true hc10;refine sk hK7 ?_;clear hK7 K7;refine seqK fun K11 hK11=>?_;refine block ?_;refine seqR (S Fv ?_);refine s0 (loadV (TK rfl) rfl rfl (congrArg (fun x=>some (A.d x)) (Z7.FItemsD_eq _))) rfl ?_;refine S Mv ?_;obtain⟨x13,gx13,hE⟩:=bO hE;refine S (ix Z7.c s3_6 gx13) (S Ld ?_);obtain⟨x14,gx14,hE⟩:=bO hE;refine Sc rfl rfl (ih_157 gx14) ?_;refine S NB (nil ?_);refine cE hE (fun hc15 hE=>?_) (fun hc15 hE=>?_)
     ·refine seqR (S As (nil ?_));exact rt hE
     refine sk hK11 ?_;clear hK11 K11;refine region ?_;refine S Mv ?_;refine SI ?_;refine S As (nil ?_);exact hK5 _ (n5,(s3_6+1)) Weak.toA hE (Nat.lt_succ_self _)
    refine AWp.exit ?_;exact hK2 _ () Weak.toA hE
 rintro _ hE;try dsimp only at hE
 unfold Z66_j2 at hE;refine seqR (S Fv (S Ld (S BI (S As (nil ?_)))));exact rt hE
theorem Z66_all:∀(n:Nat),(∀{a0:Z7}{r:Bool},Z66_n n a0=some r->∀(H:Heap),ACalls Tryz.prog 157 [.agg (Z7.c a0)] H fun v h'=>v=.a (.d (.bool r))/\h'=H)
 | 0=>fun hE=>by first|cases hE|(rw [Z66_n] at hE; cases hE)
 | n+1=>Z66_step n (Z66_all n)
def Z66 (a0:Z7):Option Bool:=Z66_n F0 a0
theorem Z66_walk {a0:Z7}{r:Bool}(hE:Z66 a0=some r) (H:Heap) :ACalls Tryz.prog 157 [.agg (Z7.c a0)] H fun v h'=>v=.a (.d (.bool r))/\h'=H:=(Z66_all F0) hE H 
end Go.Proofs

namespace Go.Proofs
open Go Go.Ab
open AOps Cert AWp Keeps KeepsT
variable {lou:Lou}
def Z68_j7  :Option Bool:=some true
def Z68_j16 (s3_11:Nat) (k_next_10:Nat->Option Bool) :Option Bool:=k_next_10 (s3_11+1)
def Z68_l25 (a0:(Sl TDir)) (s3_11:Nat) (k_next_10:Nat->Option Bool):Nat->Nat->Option Bool
 | 0,_=>none
 | n25+1,s4_26=>(a0.l[s3_11]?).bind fun x29=>bif (decide (((s4_26:Nat):Int)<((x29.FArgs.l.length:Nat):Int))) then((a0.l[s3_11]?).bind fun x34=>(x34.FArgs.l[s4_26]?).bind fun x35=>(Z35 x35.FName).bind fun x37=>guardO (!(!x37)) (Z45 x35.FValue) false fun x38=>guardO (!((!x37)||(!x38))) (Z66 x35.FValue) false fun x39=>bif (((!x37)||(!x38))||(!x39)) then(some false) else((Z68_l25 a0 s3_11 k_next_10 n25) (s4_26+1))) else(Z68_j16 s3_11 k_next_10 )
def Z68_l10 (a0:(Sl TDir)) :Nat->Nat->Option Bool
 | 0,_=>none
 | n10+1,s3_11=>bif (decide (((s3_11:Nat):Int)<((a0.l.length:Nat):Int))) then((a0.l[s3_11]?).bind fun x19=>(Z35 x19.FName).bind fun x20=>guardO (!(!x20)) (a0.l[s3_11]?) TDir.zero fun x21=>bif ((!x20)||(decide ((16:Int)<((x21.FArgs.l.length:Nat):Int)))) then(some false) else(Z68_l25 a0 s3_11 ((Z68_l10 a0 n10)) (Option.elim (a0.l[s3_11]?) 1 (fun x29=>x29.FArgs.l.length+1)) 0)) else(Z68_j7   )
def Z68 (a0:(Sl TDir)):Option Bool:=bif (decide ((16:Int)<((a0.l.length:Nat):Int))) then(some false) else(Z68_l10 a0 (a0.l.length+1) 0)
theorem Z68_walk {a0:Sl TDir}{w0:Option Nat}{r:Bool}(hE:Z68 a0=some r) (H:Heap) :ACalls Tryz.prog 82 [.d (Sl.d 2 TDir.c w0 a0)] H fun v h'=>v=.a (.d (.bool r))/\h'=H:=by
 unfold Z68 at hE;refine ACalls.oW 65 [.tmp 2] Tryz.call82 Tryz.func82 ?_;refine seqR (S As (nil ?_));refine seqK fun K2 hK2=>?_;refine seqR (S Mv ?_);refine sLen (f:=TDir.c) (s:=a0) (TK rfl) rfl rfl rfl rfl fun hL4=>?_;refine S BI (nil ?_);refine cE hE (fun hc5 hE=>?_) (fun hc5 hE=>?_)
 ·refine seqR (S As (nil ?_));exact rt hE
 refine sk hK2 ?_;clear hK2 K2;refine seqJH KeepsT.nil (fun(z:Unit)=>[]) (fun z=>H) (fun z=>Z68_j7 =some r) ?_ ?_
 ·intro K7 hK7;refine seqR (S As (nil ?_));refine block ?_;refine loopH (TA 0 KeepsT.nil) (fun(z:Nat×Nat)=>[(3,.a (.d (.int .i64 ((z.2:Nat):Int))))]) (fun z=>H) (fun z=>z.1) (fun z=>Z68_l10 a0 z.1 z.2=some r) ((a0.l.length+1),0) hE Weak.toA ?_;rintro ⟨n10,s3_11⟩ hE K10 hK10;try dsimp only at hE
  cases n10 with
  | zero=>cases hE
  | succ n10 =>
    rw [Z68_l10] at hE;refine seqK fun K12 hK12=>?_;refine seqR (S Mv (S Mv ?_));refine sLen (f:=TDir.c) (s:=a0) (TK rfl) rfl rfl rfl rfl fun hL14=>?_;refine S BI (nil ?_);refine cE hE (fun hc15 hE=>?_) (fun hc15 hE=>?_)
    ·try dsimp only at hc15
     have hf15:=of_decide_eq_true hc15;refine sk hK12 ?_;clear hK12 K12;refine seqJH (TA 0 (TA 3 KeepsT.nil)) (fun(z:Unit)=>[]) (fun z=>H) (fun z=>Z68_j16 s3_11 ((Z68_l10 a0 n10)) =some r) ?_ ?_
     ·intro K16 hK16;refine block ?_;refine seqK fun K17 hK17=>?_;refine seqR (S Mv (S Mv ?_));obtain⟨x19,gx19,hE⟩:=bO hE;refine S (ix TDir.c s3_11 gx19) (S Fv (S Ld ?_));obtain⟨x20,gx20,hE⟩:=bO hE;refine Sc rfl rfl (Z35_walk gx20) ?_;refine S NB (S Mv (G0 Mv (G0 Mv ?_)));obtain⟨x21,gx21,hE⟩:=gO hE;refine gC rfl rfl (fun hC=>ungdA (k:=23) rfl (ungdA (k:=24) rfl (idxMn (f:=TDir.c) (n:=s3_11) (TK rfl) rfl (TK rfl) rfl rfl rfl (gx21 hC)))) rfl ?_
      refine G1 25 rfl Fv ?_;refine G1 26 rfl Ld ?_;refine gC rfl rfl (fun hC=>ungdA (k:=27) rfl (lenM' (f:=TArg.c) (s:=x21.FArgs) (TK rfl) rfl rfl rfl)) rfl ?_;refine G1 28 rfl BI ?_;refine S PO (nil ?_);refine cE hE (fun hc22 hE=>?_) (fun hc22 hE=>?_)
      ·refine seqR (S As (nil ?_));exact rt hE
      refine sk hK17 ?_;clear hK17 K17;refine seqR (S As (nil ?_));refine block ?_;refine loopH (TA 0 (TA 3 KeepsT.nil)) (fun(z:Nat×Nat)=>[(4,.a (.d (.int .i64 ((z.2:Nat):Int))))]) (fun z=>H) (fun z=>z.1) (fun z=>Z68_l25 a0 s3_11 ((Z68_l10 a0 n10)) z.1 z.2=some r) ((Option.elim (a0.l[s3_11]?) 1 (fun x29=>x29.FArgs.l.length+1)),0) hE Weak.toA ?_;rintro ⟨n25,s4_26⟩ hE K25 hK25;try dsimp only at hE
      cases n25 with
      | zero=>cases hE
      | succ n25 =>
        rw [Z68_l25] at hE;refine seqK fun K27 hK27=>?_;refine seqR (S Mv (S Mv (S Mv ?_)));obtain⟨x29,gx29,hE⟩:=bO hE;refine S (ix TDir.c s3_11 gx29) (S Fv (S Ld ?_));refine sLen (f:=TArg.c) (s:=x29.FArgs) (TK rfl) rfl rfl rfl rfl fun hL30=>?_;refine S BI (nil ?_);refine cE hE (fun hc31 hE=>?_) (fun hc31 hE=>?_)
        ·try dsimp only at hc31
         have hf31:=of_decide_eq_true hc31;refine sk hK27 ?_;clear hK27 K27;refine seqK fun K32 hK32=>?_;refine block ?_;refine seqR (S Mv (S Mv ?_));obtain⟨x34,gx34,hE⟩:=bO hE;refine S (ix TDir.c s3_11 gx34) (S Fv (S Ld (S Mv ?_)));obtain⟨x35,gx35,hE⟩:=bO hE;refine S (ix TArg.c s4_26 gx35) (S Ld ?_);refine Sl ?_;refine Sf ?_;refine nil ?_;refine freezeA 5 _ rfl (KA 0 (KA 3 (KA 4 Keeps.nil))) ?_;refine seqR (S Fv (S Ld ?_))
         obtain⟨x37,gx37,hE⟩:=bO hE;refine Sc rfl rfl (Z35_walk gx37) ?_;refine S NB (S Mv (G0 Fv ?_));refine G1 54 rfl Ld ?_;obtain⟨x38,gx38,hE⟩:=gO hE;refine Gc1 55 rfl rfl rfl rfl rfl (fun hC=>Z45_walk (gx38 hC)) ?_;refine G1 56 rfl NB ?_;refine S PO (S Mv (G0 Fv ?_));refine G1 60 rfl Ld ?_;obtain⟨x39,gx39,hE⟩:=gO hE;refine Gc1 61 rfl rfl rfl rfl rfl (fun hC=>Z66_walk (gx39 hC)) ?_;refine G1 62 rfl NB ?_
         refine S PO (nil ?_);refine cE hE (fun hc40 hE=>?_) (fun hc40 hE=>?_)
         ·refine seqR (S As (nil ?_));exact rt hE
         refine sk hK32 ?_;clear hK32 K32;refine region ?_;refine S Mv ?_;refine SI ?_;refine S As (nil ?_);exact hK25 _ (n25,(s4_26+1)) Weak.toA hE (Nat.lt_succ_self _)
        refine AWp.exit ?_;exact hK16 _ () Weak.toA hE
     rintro _ hE;try dsimp only at hE
     unfold Z68_j16 at hE;refine region ?_;refine S Mv ?_;refine SI ?_;refine S As (nil ?_);exact hK10 _ (n10,(s3_11+1)) Weak.toA hE (Nat.lt_succ_self _)
    refine AWp.exit ?_;exact hK7 _ () Weak.toA hE
 rintro _ hE;try dsimp only at hE
 unfold Z68_j7 at hE;refine seqR (S As (nil ?_));exact rt hE
def Z60_j7  :Option Bool:=some true
def Z60_l10 (a0:TRef) :Nat->Nat->Option Bool
 | 0,_=>none
 | n10+1,s3_11=>bif (decide (((s3_11:Nat):Int)<((a0.FWraps.l.length:Nat):Int))) then((a0.FWraps.l[s3_11]?).bind fun x19=>guardO ((!decide (x19=(1:Int)))) (a0.FWraps.l[s3_11]?) (0:Int) fun x20=>bif ((!decide (x19=(1:Int)))&&(!decide (x20=(2:Int)))) then(some false) else(guardO ((decide ((0:Int)<((s3_11:Nat):Int)))) (a0.FWraps.l[s3_11]?) (0:Int) fun x24=>guardO (((decide ((0:Int)<((s3_11:Nat):Int)))&&(decide (x24=(1:Int))))) (subC ((s3_11:Nat):Int) (1:Int)) (0:Int) fun x25=>guardO (((decide ((0:Int)<((s3_11:Nat):Int)))&&(decide (x24=(1:Int))))) (idxC a0.FWraps.l x25) (0:Int) fun x26=>bif (((decide ((0:Int)<((s3_11:Nat):Int)))&&(decide (x24=(1:Int))))&&(decide (x26=(1:Int)))) then(some false) else((Z60_l10 a0 n10) (s3_11+1)))) else(Z60_j7   )
def Z60 (a0:TRef):Option Bool:=(Z35 a0.FName).bind fun x4=>bif ((!x4)||(decide ((24:Int)<((a0.FWraps.l.length:Nat):Int)))) then(some false) else(Z60_l10 a0 (a0.FWraps.l.length+1) 0)
theorem Z60_walk {a0:TRef}{r:Bool}(hE:Z60 a0=some r) (H:Heap) :ACalls Tryz.prog 89 [.agg (TRef.c a0)] H fun v h'=>v=.a (.d (.bool r))/\h'=H:=by
 unfold Z60 at hE;refine ACalls.oW 54 [.tmp 2] Tryz.call89 Tryz.func89 ?_;refine seqR (S BX (S As (nil ?_)));refine seqK fun K2 hK2=>?_;refine seqR (S Fv (S Ld ?_));obtain⟨x4,gx4,hE⟩:=bO hE;refine Sc rfl rfl (Z35_walk gx4) ?_;refine S NB (S Mv (G0 Fv ?_));refine G1 9 rfl Ld ?_;refine gC rfl rfl (fun hC=>ungdA (k:=10) rfl (lenM' (f:=(intE .i64)) (s:=a0.FWraps) (TK rfl) rfl rfl rfl)) rfl ?_;refine G1 11 rfl BI ?_
 refine S PO (nil ?_);refine cE hE (fun hc5 hE=>?_) (fun hc5 hE=>?_)
 ·refine seqR (S As (nil ?_));exact rt hE
 refine sk hK2 ?_;clear hK2 K2;refine seqJH KeepsT.nil (fun(z:Unit)=>[]) (fun z=>H) (fun z=>Z60_j7 =some r) ?_ ?_
 ·intro K7 hK7;refine seqR (S As (nil ?_));refine block ?_;refine loopH (TA 1 KeepsT.nil) (fun(z:Nat×Nat)=>[(3,.a (.d (.int .i64 ((z.2:Nat):Int))))]) (fun z=>H) (fun z=>z.1) (fun z=>Z60_l10 a0 z.1 z.2=some r) ((a0.FWraps.l.length+1),0) hE Weak.toA ?_;rintro ⟨n10,s3_11⟩ hE K10 hK10;try dsimp only at hE
  cases n10 with
  | zero=>cases hE
  | succ n10 =>
    rw [Z60_l10] at hE;refine seqK fun K12 hK12=>?_;refine seqR (S Mv (S Fv (S Ld ?_)));refine sLen (f:=(intE .i64)) (s:=a0.FWraps) (TK rfl) rfl rfl rfl rfl fun hL14=>?_;refine S BI (nil ?_);refine cE hE (fun hc15 hE=>?_) (fun hc15 hE=>?_)
    ·try dsimp only at hc15
     have hf15:=of_decide_eq_true hc15;refine sk hK12 ?_;clear hK12 K12;refine seqK fun K16 hK16=>?_;refine block ?_;refine seqK fun K17 hK17=>?_;refine seqR (S Fv (S Ld (S Mv ?_)));obtain⟨x19,gx19,hE⟩:=bO hE;refine S (ix (intE .i64) s3_11 gx19) ?_;refine S Ld (S BI (S Mv (G0 Fv ?_)));refine G1 28 rfl Ld ?_;refine G0 Mv ?_;obtain⟨x20,gx20,hE⟩:=gO hE;refine gC rfl rfl (fun hC=>ungdA (k:=29) rfl (ungdA (k:=30) rfl (idxMn (f:=(intE .i64)) (n:=s3_11) (TK rfl) rfl (TK rfl) rfl rfl rfl (gx20 hC)))) rfl ?_
     refine G1 31 rfl Ld ?_;refine G1 32 rfl BI ?_;refine S PA (nil ?_);refine cE hE (fun hc21 hE=>?_) (fun hc21 hE=>?_)
     ·refine seqR (S As (nil ?_));exact rt hE
     refine sk hK17 ?_;clear hK17 K17;refine seqR (S Mv (S BI (S Mv (G0 Fv ?_))));refine G1 38 rfl Ld ?_;refine G0 Mv ?_;obtain⟨x24,gx24,hE⟩:=gO hE;refine gC rfl rfl (fun hC=>ungdA (k:=39) rfl (ungdA (k:=40) rfl (idxMn (f:=(intE .i64)) (n:=s3_11) (TK rfl) rfl (TK rfl) rfl rfl rfl (gx24 hC)))) rfl ?_;refine G1 41 rfl Ld ?_;refine G1 42 rfl BI ?_;refine S PA (S Mv (G0 Fv ?_));refine G1 46 rfl Ld ?_;refine G0 Mv ?_
     obtain⟨x25,gx25,hE⟩:=gO hE;refine gC rfl rfl (fun hC=>ungdA (k:=48) rfl (subM rfl rfl (gx25 hC))) rfl ?_;obtain⟨x26,gx26,hE⟩:=gO hE;refine gC rfl rfl (fun hC=>ungdA (k:=47) rfl (ungdA (k:=49) rfl (idxM (f:=(intE .i64)) (TK rfl) rfl (TK rfl) rfl rfl rfl (gx26 hC)))) rfl ?_;refine G1 50 rfl Ld ?_;refine G1 51 rfl BI ?_;refine S PA (nil ?_);refine cE hE (fun hc27 hE=>?_) (fun hc27 hE=>?_)
     ·refine seqR (S As (nil ?_));exact rt hE
     refine sk hK16 ?_;clear hK16 K16;refine region ?_;refine S Mv ?_;refine SI ?_;refine S As (nil ?_);exact hK10 _ (n10,(s3_11+1)) Weak.toA hE (Nat.lt_succ_self _)
    refine AWp.exit ?_;exact hK7 _ () Weak.toA hE
 rintro _ hE;try dsimp only at hE
 unfold Z60_j7 at hE;refine seqR (S As (nil ?_));exact rt hE
def Z72 (a0:Z7):Option Bool:=some (((((decide (a0.FKind=(0:Int)))&&(decide (a0.FInt=(0:Int))))&&((a0.FText==([]:Bs))))&&(decide (((a0.FItems.l.length:Nat):Int)=(0:Int))))&&(decide (((a0.FKeys.l.length:Nat):Int)=(0:Int))))
theorem Z72_walk {a0:Z7}{r:Bool}(hE:Z72 a0=some r) (H:Heap) :ACalls Tryz.prog 158 [.agg (Z7.c a0)] H fun v h'=>v=.a (.d (.bool r))/\h'=H:=by
 unfold Z72 at hE;refine ACalls.oW 28 [.tmp 2] Tryz.call158 Tryz.func158 ?_;refine seqR (S BX (S As (nil ?_)));refine seqR (S Fv (S Ld (S BI (S Mv (G0 Fv ?_)))));refine G1 7 rfl Ld ?_;refine G1 8 rfl BI ?_;refine S PA (S Mv (G0 Fv ?_));refine G1 12 rfl Ld ?_;refine G1 13 rfl BS ?_;refine S PA (S Mv (G0 Fv ?_));refine gC rfl rfl (fun hC=>ungdA (k:=17) rfl (loadV (TK rfl) rfl rfl (congrArg (fun x=>some (A.d x)) (Z7.FItemsD_eq _)))) rfl ?_
 refine gC rfl rfl (fun hC=>ungdA (k:=18) rfl (lenM' (f:=Z7.c) (s:=a0.FItems) (TK rfl) rfl rfl rfl)) rfl ?_;refine G1 19 rfl BI ?_;refine S PA (S Mv (G0 Fv ?_));refine G1 23 rfl Ld ?_;refine gC rfl rfl (fun hC=>ungdA (k:=24) rfl (lenM' (f:=strE) (s:=a0.FKeys) (TK rfl) rfl rfl rfl)) rfl ?_;refine G1 25 rfl BI ?_;refine S PA (S As (nil ?_));exact rt hE
def Z70_j7  :Option Bool:=some true
def Z70_l10 (a0:(Sl Z5)) :Nat->Nat->Option Bool
 | 0,_=>none
 | n10+1,s3_11=>bif (decide (((s3_11:Nat):Int)<((a0.l.length:Nat):Int))) then((a0.l[s3_11]?).bind fun x18=>(Z35 x18.FName).bind fun x21=>guardO (!(!x21)) (Z60 x18.FType) false fun x22=>guardO (!((!x21)||(!x22))) (Z68 x18.FDirs) false fun x23=>bif (((!x21)||(!x22))||(!x23)) then(some false) else(guardO (x18.FHas) (Z45 x18.FDefault) false fun x27=>guardO ((x18.FHas&&!(!x27))) (Z66 x18.FDefault) false fun x28=>guardO ((!(x18.FHas&&((!x27)||(!x28)))&&(!x18.FHas))) (Z72 x18.FDefault) false fun x29=>bif ((x18.FHas&&((!x27)||(!x28)))||((!x18.FHas)&&(!x29))) then(some false) else((Z70_l10 a0 n10) (s3_11+1)))) else(Z70_j7   )
def Z70 (a0:(Sl Z5)):Option Bool:=bif (decide ((16:Int)<((a0.l.length:Nat):Int))) then(some false) else(Z70_l10 a0 (a0.l.length+1) 0)
theorem Z70_walk {a0:Sl Z5}{w0:Option Nat}{r:Bool}(hE:Z70 a0=some r) (H:Heap) :ACalls Tryz.prog 85 [.d (Sl.d 10 Z5.c w0 a0)] H fun v h'=>v=.a (.d (.bool r))/\h'=H:=by
 unfold Z70 at hE;refine ACalls.oW 59 [.tmp 2] Tryz.call85 Tryz.func85 ?_;refine seqR (S As (nil ?_));refine seqK fun K2 hK2=>?_;refine seqR (S Mv ?_);refine sLen (f:=Z5.c) (s:=a0) (TK rfl) rfl rfl rfl rfl fun hL4=>?_;refine S BI (nil ?_);refine cE hE (fun hc5 hE=>?_) (fun hc5 hE=>?_)
 ·refine seqR (S As (nil ?_));exact rt hE
 refine sk hK2 ?_;clear hK2 K2;refine seqJH KeepsT.nil (fun(z:Unit)=>[]) (fun z=>H) (fun z=>Z70_j7 =some r) ?_ ?_
 ·intro K7 hK7;refine seqR (S As (nil ?_));refine block ?_;refine loopH (TA 0 KeepsT.nil) (fun(z:Nat×Nat)=>[(3,.a (.d (.int .i64 ((z.2:Nat):Int))))]) (fun z=>H) (fun z=>z.1) (fun z=>Z70_l10 a0 z.1 z.2=some r) ((a0.l.length+1),0) hE Weak.toA ?_;rintro ⟨n10,s3_11⟩ hE K10 hK10;try dsimp only at hE
  cases n10 with
  | zero=>cases hE
  | succ n10 =>
    rw [Z70_l10] at hE;refine seqK fun K12 hK12=>?_;refine seqR (S Mv (S Mv ?_));refine sLen (f:=Z5.c) (s:=a0) (TK rfl) rfl rfl rfl rfl fun hL14=>?_;refine S BI (nil ?_);refine cE hE (fun hc15 hE=>?_) (fun hc15 hE=>?_)
    ·try dsimp only at hc15
     have hf15:=of_decide_eq_true hc15;refine sk hK12 ?_;clear hK12 K12;refine seqK fun K16 hK16=>?_;refine block ?_;refine seqR (S Mv (S Mv ?_));obtain⟨x18,gx18,hE⟩:=bO hE;refine S (ix Z5.c s3_11 gx18) (S Ld ?_);refine Sl ?_;refine Sf ?_;refine nil ?_;refine freezeA 4 _ rfl (KA 0 (KA 3 Keeps.nil)) ?_;refine seqK fun K19 hK19=>?_;refine seqR (S Fv (S Ld ?_));obtain⟨x21,gx21,hE⟩:=bO hE;refine Sc rfl rfl (Z35_walk gx21) ?_
     refine S NB (S Mv (G0 Fv ?_));refine G1 23 rfl Ld ?_;obtain⟨x22,gx22,hE⟩:=gO hE;refine Gc1 24 rfl rfl rfl rfl rfl (fun hC=>Z60_walk (gx22 hC)) ?_;refine G1 25 rfl NB ?_;refine S PO (S Mv (G0 Fv ?_));refine G1 29 rfl Ld ?_;obtain⟨x23,gx23,hE⟩:=gO hE;refine Gc1 30 rfl rfl rfl rfl rfl (fun hC=>Z68_walk (gx23 hC)) ?_;refine G1 31 rfl NB ?_;refine S PO (nil ?_);refine cE hE (fun hc24 hE=>?_) (fun hc24 hE=>?_)
     ·refine seqR (S As (nil ?_));exact rt hE
     refine sk hK19 ?_;clear hK19 K19;refine seqR (S Fv (S Ld (S Mv (G0 Fv ?_))));refine G1 37 rfl Ld ?_;obtain⟨x27,gx27,hE⟩:=gO hE;refine Gc1 38 rfl rfl rfl rfl rfl (fun hC=>Z45_walk (gx27 hC)) ?_;refine G1 39 rfl NB ?_;refine G1 40 rfl Mv ?_;refine G0 Fv ?_;refine G1 42 rfl Ld ?_;obtain⟨x28,gx28,hE⟩:=gO hE;refine Gc1 43 rfl rfl rfl rfl rfl (fun hC=>Z66_walk (gx28 hC)) ?_;refine G1 44 rfl NB ?_;refine gC rfl rfl (fun hC=>ungdA (k:=41) rfl (pickOrA rfl rfl rfl)) rfl ?_
     refine S PA (S Mv (G0 Fv ?_));refine G1 49 rfl Ld ?_;refine G1 50 rfl NB ?_;refine G1 51 rfl Mv ?_;refine G0 Fv ?_;refine G1 53 rfl Ld ?_;obtain⟨x29,gx29,hE⟩:=gO hE;refine Gc1 54 rfl rfl rfl rfl rfl (fun hC=>Z72_walk (gx29 hC)) ?_;refine G1 55 rfl NB ?_;refine gC rfl rfl (fun hC=>ungdA (k:=52) rfl (pickAndA rfl rfl rfl)) rfl ?_;refine S PO (nil ?_);refine cE hE (fun hc30 hE=>?_) (fun hc30 hE=>?_)
     ·refine seqR (S As (nil ?_));exact rt hE
     refine sk hK16 ?_;clear hK16 K16;refine region ?_;refine S Mv ?_;refine SI ?_;refine S As (nil ?_);exact hK10 _ (n10,(s3_11+1)) Weak.toA hE (Nat.lt_succ_self _)
    refine AWp.exit ?_;exact hK7 _ () Weak.toA hE
 rintro _ hE;try dsimp only at hE
 unfold Z70_j7 at hE;refine seqR (S As (nil ?_));exact rt hE
def Z69_j7  :Option Bool:=some true
def Z69_l10 (a0:(Sl Z4)) :Nat->Nat->Option Bool
 | 0,_=>none
 | n10+1,s3_11=>bif (decide (((s3_11:Nat):Int)<((a0.l.length:Nat):Int))) then((a0.l[s3_11]?).bind fun x18=>(Z35 x18.FName).bind fun x19=>guardO (!(!x19)) (a0.l[s3_11]?) Z4.zero fun x20=>guardO (!(!x19)) (Z70 x20.FArgs) false fun x21=>guardO (!((!x19)||(!x21))) (a0.l[s3_11]?) Z4.zero fun x22=>guardO (!((!x19)||(!x21))) (Z60 x22.FType) false fun x23=>guardO (!(((!x19)||(!x21))||(!x23))) (a0.l[s3_11]?) Z4.zero fun x24=>guardO (!(((!x19)||(!x21))||(!x23))) (Z68 x24.FDirs) false fun x25=>bif ((((!x19)||(!x21))||(!x23))||(!x25)) then(some false) else((Z69_l10 a0 n10) (s3_11+1))) else(Z69_j7   )
def Z69 (a0:(Sl Z4)):Option Bool:=bif ((decide (((a0.l.length:Nat):Int)<(1:Int)))||(decide ((64:Int)<((a0.l.length:Nat):Int)))) then(some false) else(Z69_l10 a0 (a0.l.length+1) 0)
theorem Z69_walk {a0:Sl Z4}{w0:Option Nat}{r:Bool}(hE:Z69 a0=some r) (H:Heap) :ACalls Tryz.prog 83 [.d (Sl.d 5 Z4.c w0 a0)] H fun v h'=>v=.a (.d (.bool r))/\h'=H:=by
 unfold Z69 at hE;refine ACalls.oW 52 [.tmp 2] Tryz.call83 Tryz.func83 ?_;refine seqR (S As (nil ?_));refine seqK fun K2 hK2=>?_;refine seqR (S Mv ?_);refine sLen (f:=Z4.c) (s:=a0) (TK rfl) rfl rfl rfl rfl fun hL4=>?_;refine S BI (S Mv (G0 Mv ?_));refine gC rfl rfl (fun hC=>ungdA (k:=8) rfl (lenM' (f:=Z4.c) (s:=a0) (TK rfl) rfl rfl rfl)) rfl ?_;refine G1 9 rfl BI ?_;refine S PO (nil ?_);refine cE hE (fun hc5 hE=>?_) (fun hc5 hE=>?_)
 ·refine seqR (S As (nil ?_));exact rt hE
 refine sk hK2 ?_;clear hK2 K2;refine seqJH KeepsT.nil (fun(z:Unit)=>[]) (fun z=>H) (fun z=>Z69_j7 =some r) ?_ ?_
 ·intro K7 hK7;refine seqR (S As (nil ?_));refine block ?_;refine loopH (TA 0 KeepsT.nil) (fun(z:Nat×Nat)=>[(3,.a (.d (.int .i64 ((z.2:Nat):Int))))]) (fun z=>H) (fun z=>z.1) (fun z=>Z69_l10 a0 z.1 z.2=some r) ((a0.l.length+1),0) hE Weak.toA ?_;rintro ⟨n10,s3_11⟩ hE K10 hK10;try dsimp only at hE
  cases n10 with
  | zero=>cases hE
  | succ n10 =>
    rw [Z69_l10] at hE;refine seqK fun K12 hK12=>?_;refine seqR (S Mv (S Mv ?_));refine sLen (f:=Z4.c) (s:=a0) (TK rfl) rfl rfl rfl rfl fun hL14=>?_;refine S BI (nil ?_);refine cE hE (fun hc15 hE=>?_) (fun hc15 hE=>?_)
    ·try dsimp only at hc15
     have hf15:=of_decide_eq_true hc15;refine sk hK12 ?_;clear hK12 K12;refine seqK fun K16 hK16=>?_;refine block ?_;refine seqR (S Mv (S Mv ?_));obtain⟨x18,gx18,hE⟩:=bO hE;refine S (ix Z4.c s3_11 gx18) (S Fv (S Ld ?_));obtain⟨x19,gx19,hE⟩:=bO hE;refine Sc rfl rfl (Z35_walk gx19) ?_;refine S NB (S Mv (G0 Mv (G0 Mv ?_)));obtain⟨x20,gx20,hE⟩:=gO hE;refine gC rfl rfl (fun hC=>ungdA (k:=26) rfl (ungdA (k:=27) rfl (idxMn (f:=Z4.c) (n:=s3_11) (TK rfl) rfl (TK rfl) rfl rfl rfl (gx20 hC)))) rfl ?_
     refine G1 28 rfl Fv ?_;refine G1 29 rfl Ld ?_;obtain⟨x21,gx21,hE⟩:=gO hE;refine Gc1 30 rfl rfl rfl rfl rfl (fun hC=>Z70_walk (gx21 hC)) ?_;refine G1 31 rfl NB ?_;refine S PO (S Mv (G0 Mv (G0 Mv ?_)));obtain⟨x22,gx22,hE⟩:=gO hE;refine gC rfl rfl (fun hC=>ungdA (k:=35) rfl (ungdA (k:=36) rfl (idxMn (f:=Z4.c) (n:=s3_11) (TK rfl) rfl (TK rfl) rfl rfl rfl (gx22 hC)))) rfl ?_;refine G1 37 rfl Fv ?_
     refine G1 38 rfl Ld ?_;obtain⟨x23,gx23,hE⟩:=gO hE;refine Gc1 39 rfl rfl rfl rfl rfl (fun hC=>Z60_walk (gx23 hC)) ?_;refine G1 40 rfl NB ?_;refine S PO (S Mv (G0 Mv (G0 Mv ?_)));obtain⟨x24,gx24,hE⟩:=gO hE;refine gC rfl rfl (fun hC=>ungdA (k:=44) rfl (ungdA (k:=45) rfl (idxMn (f:=Z4.c) (n:=s3_11) (TK rfl) rfl (TK rfl) rfl rfl rfl (gx24 hC)))) rfl ?_;refine G1 46 rfl Fv ?_;refine G1 47 rfl Ld ?_
     obtain⟨x25,gx25,hE⟩:=gO hE;refine Gc1 48 rfl rfl rfl rfl rfl (fun hC=>Z68_walk (gx25 hC)) ?_;refine G1 49 rfl NB ?_;refine S PO (nil ?_);refine cE hE (fun hc26 hE=>?_) (fun hc26 hE=>?_)
     ·refine seqR (S As (nil ?_));exact rt hE
     refine sk hK16 ?_;clear hK16 K16;refine region ?_;refine S Mv ?_;refine SI ?_;refine S As (nil ?_);exact hK10 _ (n10,(s3_11+1)) Weak.toA hE (Nat.lt_succ_self _)
    refine AWp.exit ?_;exact hK7 _ () Weak.toA hE
 rintro _ hE;try dsimp only at hE
 unfold Z69_j7 at hE;refine seqR (S As (nil ?_));exact rt hE
end Go.Proofs

namespace Go.Proofs
open Go Go.Ab
open AOps Cert AWp Keeps KeepsT
variable {lou:Lou}
def Z71_j7  :Option Bool:=some true
def Z71_l10 (a0:(Sl Z6)) (a1:Bool) :Nat->Nat->Option Bool
 | 0,_=>none
 | n10+1,s5_11=>bif (decide (((s5_11:Nat):Int)<((a0.l.length:Nat):Int))) then((a0.l[s5_11]?).bind fun x18=>(Z35 x18.FName).bind fun x19=>guardO (!(!x19)) (a0.l[s5_11]?) Z6.zero fun x20=>guardO (!(!x19)) (Z68 x20.FDirs) false fun x21=>guardO ((!((!x19)||(!x21))&&a1)) (a0.l[s5_11]?) Z6.zero fun x22=>bif (((!x19)||(!x21))||(a1&&(decide ((0:Int)<((x22.FDirs.l.length:Nat):Int))))) then(some false) else((Z71_l10 a0 a1 n10) (s5_11+1))) else(Z71_j7   )
def Z71 (a0:(Sl Z6)) (a1:Bool):Option Bool:=bif ((decide (((a0.l.length:Nat):Int)<(1:Int)))||(decide ((64:Int)<((a0.l.length:Nat):Int)))) then(some false) else(Z71_l10 a0 a1 (a0.l.length+1) 0)
theorem Z71_walk {a0:Sl Z6}{a1:Bool}{w0:Option Nat}{r:Bool}(hE:Z71 a0 a1=some r) (H:Heap) :ACalls Tryz.prog 84 [.d (Sl.d 2 Z6.c w0 a0),.d (.bool a1)] H fun v h'=>v=.a (.d (.bool r))/\h'=H:=by
 unfold Z71 at hE;refine ACalls.oW 48 [.tmp 4] Tryz.call84 Tryz.func84 ?_;refine seqR (S As (nil ?_));refine seqK fun K2 hK2=>?_;refine seqR (S Mv ?_);refine sLen (f:=Z6.c) (s:=a0) (TK rfl) rfl rfl rfl rfl fun hL4=>?_;refine S BI (S Mv (G0 Mv ?_));refine gC rfl rfl (fun hC=>ungdA (k:=10) rfl (lenM' (f:=Z6.c) (s:=a0) (TK rfl) rfl rfl rfl)) rfl ?_;refine G1 11 rfl BI ?_;refine S PO (nil ?_);refine cE hE (fun hc5 hE=>?_) (fun hc5 hE=>?_)
 ·refine seqR (S As (nil ?_));exact rt hE
 refine sk hK2 ?_;clear hK2 K2;refine seqJH KeepsT.nil (fun(z:Unit)=>[]) (fun z=>H) (fun z=>Z71_j7 =some r) ?_ ?_
 ·intro K7 hK7;refine seqR (S As (nil ?_));refine block ?_;refine loopH (TA 0 (TA 1 KeepsT.nil)) (fun(z:Nat×Nat)=>[(5,.a (.d (.int .i64 ((z.2:Nat):Int))))]) (fun z=>H) (fun z=>z.1) (fun z=>Z71_l10 a0 a1 z.1 z.2=some r) ((a0.l.length+1),0) hE Weak.toA ?_;rintro ⟨n10,s5_11⟩ hE K10 hK10;try dsimp only at hE
  cases n10 with
  | zero=>cases hE
  | succ n10 =>
    rw [Z71_l10] at hE;refine seqK fun K12 hK12=>?_;refine seqR (S Mv (S Mv ?_));refine sLen (f:=Z6.c) (s:=a0) (TK rfl) rfl rfl rfl rfl fun hL14=>?_;refine S BI (nil ?_);refine cE hE (fun hc15 hE=>?_) (fun hc15 hE=>?_)
    ·try dsimp only at hc15
     have hf15:=of_decide_eq_true hc15;refine sk hK12 ?_;clear hK12 K12;refine seqK fun K16 hK16=>?_;refine block ?_;refine seqR (S Mv (S Mv ?_));obtain⟨x18,gx18,hE⟩:=bO hE;refine S (ix Z6.c s5_11 gx18) (S Fv (S Ld ?_));obtain⟨x19,gx19,hE⟩:=bO hE;refine Sc rfl rfl (Z35_walk gx19) ?_;refine S NB (S Mv (G0 Mv (G0 Mv ?_)));obtain⟨x20,gx20,hE⟩:=gO hE;refine gC rfl rfl (fun hC=>ungdA (k:=28) rfl (ungdA (k:=29) rfl (idxMn (f:=Z6.c) (n:=s5_11) (TK rfl) rfl (TK rfl) rfl rfl rfl (gx20 hC)))) rfl ?_
     refine G1 30 rfl Fv ?_;refine G1 31 rfl Ld ?_;obtain⟨x21,gx21,hE⟩:=gO hE;refine Gc1 32 rfl rfl rfl rfl rfl (fun hC=>Z68_walk (gx21 hC)) ?_;refine G1 33 rfl NB ?_;refine S PO (S Mv (G0 Mv ?_));refine G1 37 rfl Mv ?_;refine G0 Mv (G0 Mv ?_);obtain⟨x22,gx22,hE⟩:=gO hE;refine gC rfl rfl (fun hC=>ungdA (k:=39) rfl (ungdA (k:=40) rfl (idxMn (f:=Z6.c) (n:=s5_11) (TK rfl) rfl (TK rfl) rfl rfl rfl (gx22 hC)))) rfl ?_
     refine G1 41 rfl Fv ?_;refine G1 42 rfl Ld ?_;refine gC rfl rfl (fun hC=>ungdA (k:=43) rfl (lenM' (f:=TDir.c) (s:=x22.FDirs) (TK rfl) rfl rfl rfl)) rfl ?_;refine G1 44 rfl BI ?_;refine gC rfl rfl (fun hC=>ungdA (k:=38) rfl (pickAndA rfl rfl rfl)) rfl ?_;refine S PO (nil ?_);refine cE hE (fun hc23 hE=>?_) (fun hc23 hE=>?_)
     ·refine seqR (S As (nil ?_));exact rt hE
     refine sk hK16 ?_;clear hK16 K16;refine region ?_;refine S Mv ?_;refine SI ?_;refine S As (nil ?_);exact hK10 _ (n10,(s5_11+1)) Weak.toA hE (Nat.lt_succ_self _)
    refine AWp.exit ?_;exact hK7 _ () Weak.toA hE
 rintro _ hE;try dsimp only at hE
 unfold Z71_j7 at hE;refine seqR (S As (nil ?_));exact rt hE
def Z67_j8 (a0:TDef)  :Option Bool:=bif (decide (a0.FKind=(1:Int))) then((Z69 a0.FFields).bind fun x15=>some ((x15&&(decide (((a0.FMembers.l.length:Nat):Int)=(0:Int))))&&(decide (((a0.FInputs.l.length:Nat):Int)=(0:Int))))) else(bif (decide (a0.FKind=(2:Int))) then(guardO ((decide (((a0.FImplements.l.length:Nat):Int)=(0:Int)))) (Z69 a0.FFields) false fun x19=>some ((((decide (((a0.FImplements.l.length:Nat):Int)=(0:Int)))&&x19)&&(decide (((a0.FMembers.l.length:Nat):Int)=(0:Int))))&&(decide (((a0.FInputs.l.length:Nat):Int)=(0:Int))))) else(bif (decide (a0.FKind=(3:Int))) then(guardO (((decide (((a0.FImplements.l.length:Nat):Int)=(0:Int)))&&(decide (((a0.FFields.l.length:Nat):Int)=(0:Int))))) (Z71 a0.FMembers true) false fun x23=>some ((((decide (((a0.FImplements.l.length:Nat):Int)=(0:Int)))&&(decide (((a0.FFields.l.length:Nat):Int)=(0:Int))))&&x23)&&(decide (((a0.FInputs.l.length:Nat):Int)=(0:Int))))) else(bif (decide (a0.FKind=(4:Int))) then(guardO (((decide (((a0.FImplements.l.length:Nat):Int)=(0:Int)))&&(decide (((a0.FFields.l.length:Nat):Int)=(0:Int))))) (Z71 a0.FMembers false) false fun x27=>some ((((decide (((a0.FImplements.l.length:Nat):Int)=(0:Int)))&&(decide (((a0.FFields.l.length:Nat):Int)=(0:Int))))&&x27)&&(decide (((a0.FInputs.l.length:Nat):Int)=(0:Int))))) else(bif (decide (a0.FKind=(5:Int))) then(guardO (((((decide (((a0.FImplements.l.length:Nat):Int)=(0:Int)))&&(decide (((a0.FFields.l.length:Nat):Int)=(0:Int))))&&(decide (((a0.FMembers.l.length:Nat):Int)=(0:Int))))&&(decide ((0:Int)<((a0.FInputs.l.length:Nat):Int))))) (Z70 a0.FInputs) false fun x31=>some (((((decide (((a0.FImplements.l.length:Nat):Int)=(0:Int)))&&(decide (((a0.FFields.l.length:Nat):Int)=(0:Int))))&&(decide (((a0.FMembers.l.length:Nat):Int)=(0:Int))))&&(decide ((0:Int)<((a0.FInputs.l.length:Nat):Int))))&&x31)) else(some false)))))
def Z67_l34 (a0:TDef) :Nat->Nat->Option Bool
 | 0,_=>none
 | n34+1,s3_35=>bif (decide (((s3_35:Nat):Int)<((a0.FImplements.l.length:Nat):Int))) then((a0.FImplements.l[s3_35]?).bind fun x42=>(Z35 x42).bind fun x43=>bif (!x43) then(some false) else((Z67_l34 a0 n34) (s3_35+1))) else(Z67_j8 a0  )
def Z67 (a0:TDef):Option Bool:=(Z35 a0.FName).bind fun x4=>guardO (!(!x4)) (Z68 a0.FDirs) false fun x5=>bif (((!x4)||(!x5))||(decide ((64:Int)<((a0.FImplements.l.length:Nat):Int)))) then(some false) else(Z67_l34 a0 (a0.FImplements.l.length+1) 0)
theorem Z67_walk {a0:TDef}{r:Bool}(hE:Z67 a0=some r) (H:Heap) :ACalls Tryz.prog 36 [.agg (TDef.c a0)] H fun v h'=>v=.a (.d (.bool r))/\h'=H:=by
 unfold Z67 at hE;refine ACalls.oW 129 [.tmp 2] Tryz.call36 Tryz.func36 ?_;refine seqR (S BX (S As (nil ?_)));refine seqK fun K2 hK2=>?_;refine seqR (S Fv (S Ld ?_));obtain⟨x4,gx4,hE⟩:=bO hE;refine Sc rfl rfl (Z35_walk gx4) ?_;refine S NB (S Mv (G0 Fv ?_));refine G1 13 rfl Ld ?_;obtain⟨x5,gx5,hE⟩:=gO hE;refine Gc1 14 rfl rfl rfl rfl rfl (fun hC=>Z68_walk (gx5 hC)) ?_;refine G1 15 rfl NB ?_;refine S PO (S Mv (G0 Fv ?_))
 refine G1 19 rfl Ld ?_;refine gC rfl rfl (fun hC=>ungdA (k:=20) rfl (lenM' (f:=strE) (s:=a0.FImplements) (TK rfl) rfl rfl rfl)) rfl ?_;refine G1 21 rfl BI ?_;refine S PO (nil ?_);refine cE hE (fun hc6 hE=>?_) (fun hc6 hE=>?_)
 ·refine seqR (S As (nil ?_));exact rt hE
 refine sk hK2 ?_;clear hK2 K2;refine seqJH (TA 1 KeepsT.nil) (fun(z:Unit)=>[]) (fun z=>H) (fun z=>Z67_j8 a0 =some r) ?_ ?_
 ·intro K8 hK8;refine seqR (S As (nil ?_));refine block ?_;refine loopH (TA 1 KeepsT.nil) (fun(z:Nat×Nat)=>[(3,.a (.d (.int .i64 ((z.2:Nat):Int))))]) (fun z=>H) (fun z=>z.1) (fun z=>Z67_l34 a0 z.1 z.2=some r) ((a0.FImplements.l.length+1),0) hE Weak.toA ?_;rintro ⟨n34,s3_35⟩ hE K34 hK34;try dsimp only at hE
  cases n34 with
  | zero=>cases hE
  | succ n34 =>
    rw [Z67_l34] at hE;refine seqK fun K36 hK36=>?_;refine seqR (S Mv (S Fv (S Ld ?_)));refine sLen (f:=strE) (s:=a0.FImplements) (TK rfl) rfl rfl rfl rfl fun hL38=>?_;refine S BI (nil ?_);refine cE hE (fun hc39 hE=>?_) (fun hc39 hE=>?_)
    ·try dsimp only at hc39
     have hf39:=of_decide_eq_true hc39;refine sk hK36 ?_;clear hK36 K36;refine seqK fun K40 hK40=>?_;refine block ?_;refine seqR (S Fv (S Ld (S Mv ?_)));obtain⟨x42,gx42,hE⟩:=bO hE;refine S (ix strE s3_35 gx42) (S Ld ?_);obtain⟨x43,gx43,hE⟩:=bO hE;refine Sc rfl rfl (Z35_walk gx43) ?_;refine S NB (nil ?_);refine cE hE (fun hc44 hE=>?_) (fun hc44 hE=>?_)
     ·refine seqR (S As (nil ?_));exact rt hE
     refine sk hK40 ?_;clear hK40 K40;refine region ?_;refine S Mv ?_;refine SI ?_;refine S As (nil ?_);exact hK34 _ (n34,(s3_35+1)) Weak.toA hE (Nat.lt_succ_self _)
    refine AWp.exit ?_;exact hK8 _ () Weak.toA hE
 rintro _ hE;try dsimp only at hE
 unfold Z67_j8 at hE;refine AWp.seqD (Sd Fv (Sd Ld ?_));refine DOps.s0 (lenM' (f:=strE) (s:=a0.FImplements) (TK rfl) rfl rfl rfl) rfl ?_;refine Sd BI (Sd Fv (Sd Ld ?_));refine DOps.s0 (lenM' (f:=Z4.c) (s:=a0.FFields) (TK rfl) rfl rfl rfl) rfl ?_;refine Sd BI (Sd Fv (Sd Ld ?_));refine DOps.s0 (lenM' (f:=Z6.c) (s:=a0.FMembers) (TK rfl) rfl rfl rfl) rfl ?_;refine Sd BI (Sd Fv (Sd Ld ?_));refine DOps.s0 (lenM' (f:=Z5.c) (s:=a0.FInputs) (TK rfl) rfl rfl rfl) rfl ?_
 refine Sd BI (Sd As (Sd As (Sd As (Sd As ?_))));refine DOps.nil (by decide +kernel) ?_;refine seqK fun K10 hK10=>?_;refine seqR (S Fv (S Ld (nil ?_)));refine block ?_;refine seqR (S BI (S As (nil ?_)));refine cE hE (fun hc13 hE=>?_) (fun hc13 hE=>?_)
 ·refine seqR (S Fv (S Ld ?_));obtain⟨x15,gx15,hE⟩:=bO hE;refine Sc rfl rfl (Z69_walk gx15) ?_;refine S Mv (G0 Mv (S PA (S Mv (G0 Mv (S PA (S As (nil ?_)))))));exact rt hE
 refine seqR (S BI (S As (nil ?_)));refine cE hE (fun hc17 hE=>?_) (fun hc17 hE=>?_)
 ·refine seqR (S Mv (S Mv (G0 Fv ?_)));refine G1 71 rfl Ld ?_;obtain⟨x19,gx19,hE⟩:=gO hE;refine Gc1 72 rfl rfl rfl rfl rfl (fun hC=>Z69_walk (gx19 hC)) ?_;refine S PA (S Mv (G0 Mv (S PA (S Mv (G0 Mv (S PA (S As (nil ?_))))))));exact rt hE
 refine seqR (S BI (S As (nil ?_)));refine cE hE (fun hc21 hE=>?_) (fun hc21 hE=>?_)
 ·refine seqR (S Mv (S Mv (G0 Mv (S PA (S Mv (G0 Fv ?_))))));refine G1 88 rfl Ld ?_;obtain⟨x23,gx23,hE⟩:=gO hE;refine Gc1 89 rfl rfl rfl rfl rfl (fun hC=>Z71_walk (gx23 hC)) ?_;refine S PA (S Mv (G0 Mv (S PA (S As (nil ?_)))));exact rt hE
 refine seqR (S BI (S As (nil ?_)));refine cE hE (fun hc25 hE=>?_) (fun hc25 hE=>?_)
 ·refine seqR (S Mv (S Mv (G0 Mv (S PA (S Mv (G0 Fv ?_))))));refine G1 102 rfl Ld ?_;obtain⟨x27,gx27,hE⟩:=gO hE;refine Gc1 103 rfl rfl rfl rfl rfl (fun hC=>Z71_walk (gx27 hC)) ?_;refine S PA (S Mv (G0 Mv (S PA (S As (nil ?_)))));exact rt hE
 refine seqR (S BI (S As (nil ?_)));refine cE hE (fun hc29 hE=>?_) (fun hc29 hE=>?_)
 ·refine seqR (S Mv (S Mv (G0 Mv (S PA (S Mv (G0 Mv (S PA (S Mv (G0 Fv ?_)))))))));refine G1 119 rfl Ld ?_;refine gC rfl rfl (fun hC=>ungdA (k:=120) rfl (lenM' (f:=Z5.c) (s:=a0.FInputs) (TK rfl) rfl rfl rfl)) rfl ?_;refine G1 121 rfl BI ?_;refine S PA (S Mv (G0 Fv ?_));refine G1 125 rfl Ld ?_;obtain⟨x31,gx31,hE⟩:=gO hE;refine Gc1 126 rfl rfl rfl rfl rfl (fun hC=>Z70_walk (gx31 hC)) ?_;refine S PA (S As (nil ?_))
  exact rt hE
 refine sk hK10 ?_;clear hK10 K10;refine seqR (S As (nil ?_));exact rt hE
def Z64_j7  :Option Bool:=some true
def Z64_l10 (a0:TDoc) :Nat->Nat->Option Bool
 | 0,_=>none
 | n10+1,s3_11=>bif (decide (((s3_11:Nat):Int)<((a0.FDefs.l.length:Nat):Int))) then((a0.FDefs.l[s3_11]?).bind fun x18=>(Z67 x18).bind fun x19=>bif (!x19) then(some false) else((Z64_l10 a0 n10) (s3_11+1))) else(Z64_j7   )
def Z64 (a0:TDoc):Option Bool:=bif ((decide (((a0.FDefs.l.length:Nat):Int)<(1:Int)))||(decide ((64:Int)<((a0.FDefs.l.length:Nat):Int)))) then(some false) else(Z64_l10 a0 (a0.FDefs.l.length+1) 0)
theorem Z64_walk {a0:TDoc}{r:Bool}(hE:Z64 a0=some r) (H:Heap) :ACalls Tryz.prog 16 [.agg (TDoc.c a0)] H fun v h'=>v=.a (.d (.bool r))/\h'=H:=by
 unfold Z64 at hE;refine ACalls.oW 28 [.tmp 2] Tryz.call16 Tryz.func16 ?_;refine seqR (S BX (S As (nil ?_)));refine seqK fun K2 hK2=>?_;refine seqR (S Fv (S Ld ?_));refine sLen (f:=TDef.c) (s:=a0.FDefs) (TK rfl) rfl rfl rfl rfl fun hL4=>?_;refine S BI (S Mv (G0 Fv ?_));refine G1 9 rfl Ld ?_;refine gC rfl rfl (fun hC=>ungdA (k:=10) rfl (lenM' (f:=TDef.c) (s:=a0.FDefs) (TK rfl) rfl rfl rfl)) rfl ?_;refine G1 11 rfl BI ?_
 refine S PO (nil ?_);refine cE hE (fun hc5 hE=>?_) (fun hc5 hE=>?_)
 ·refine seqR (S As (nil ?_));exact rt hE
 refine sk hK2 ?_;clear hK2 K2;refine seqJH KeepsT.nil (fun(z:Unit)=>[]) (fun z=>H) (fun z=>Z64_j7 =some r) ?_ ?_
 ·intro K7 hK7;refine seqR (S As (nil ?_));refine block ?_;refine loopH (TA 1 KeepsT.nil) (fun(z:Nat×Nat)=>[(3,.a (.d (.int .i64 ((z.2:Nat):Int))))]) (fun z=>H) (fun z=>z.1) (fun z=>Z64_l10 a0 z.1 z.2=some r) ((a0.FDefs.l.length+1),0) hE Weak.toA ?_;rintro ⟨n10,s3_11⟩ hE K10 hK10;try dsimp only at hE
  cases n10 with
  | zero=>cases hE
  | succ n10 =>
    rw [Z64_l10] at hE;refine seqK fun K12 hK12=>?_;refine seqR (S Mv (S Fv (S Ld ?_)));refine sLen (f:=TDef.c) (s:=a0.FDefs) (TK rfl) rfl rfl rfl rfl fun hL14=>?_;refine S BI (nil ?_);refine cE hE (fun hc15 hE=>?_) (fun hc15 hE=>?_)
    ·try dsimp only at hc15
     have hf15:=of_decide_eq_true hc15;refine sk hK12 ?_;clear hK12 K12;refine seqK fun K16 hK16=>?_;refine block ?_;refine seqR (S Fv (S Ld (S Mv ?_)));obtain⟨x18,gx18,hE⟩:=bO hE;refine S (ix TDef.c s3_11 gx18) (S Ld ?_);obtain⟨x19,gx19,hE⟩:=bO hE;refine Sc rfl rfl (Z67_walk gx19) ?_;refine S NB (nil ?_);refine cE hE (fun hc20 hE=>?_) (fun hc20 hE=>?_)
     ·refine seqR (S As (nil ?_));exact rt hE
     refine sk hK16 ?_;clear hK16 K16;refine region ?_;refine S Mv ?_;refine SI ?_;refine S As (nil ?_);exact hK10 _ (n10,(s3_11+1)) Weak.toA hE (Nat.lt_succ_self _)
    refine AWp.exit ?_;exact hK7 _ () Weak.toA hE
 rintro _ hE;try dsimp only at hE
 unfold Z64_j7 at hE;refine seqR (S As (nil ?_));exact rt hE
def Z54_j7  (s5_8:Int):Option Int:=some s5_8
def Z54_l11 (a0:Z7) (a1:Int) (k_rec_122:Z7->Int->Option Int):Nat->Int->Nat->Option Int
 | 0,_,_=>none
 | n11+1,s5_12,s7_13=>bif ((decide (((s7_13:Nat):Int)<((a0.FItems.l.length:Nat):Int)))&&(decide (s5_12<=a1))) then((a0.FItems.l[s7_13]?).bind fun x19=>(k_rec_122 x19 a1).bind fun x20=>(addC s5_12 x20).bind fun x21=>(Z54_l11 a0 a1 k_rec_122 n11) x21 (s7_13+1)) else(Z54_j7   s5_12)
def Z54_j5 (a0:Z7) (a1:Int) (k_rec_122:Z7->Int->Option Int) (s5_6:Int):Option Int:=Z54_l11 a0 a1 k_rec_122 (a0.FItems.l.length+1) s5_6 0
def Z54_l23 (a0:Z7) (a1:Int) (k_rec_122:Z7->Int->Option Int):Nat->Int->Nat->Option Int
 | 0,_,_=>none
 | n23+1,s5_24,s6_25=>bif ((decide (((s6_25:Nat):Int)<((a0.FKeys.l.length:Nat):Int)))&&(decide (s5_24<=a1))) then((addC s5_24 (1:Int)).bind fun x31=>(a0.FKeys.l[s6_25]?).bind fun x32=>(addC x31 ((x32.length:Nat):Int)).bind fun x34=>(Z54_l23 a0 a1 k_rec_122 n23) x34 (s6_25+1)) else(Z54_j5 a0 a1 k_rec_122 s5_24)
def Z54_n:Nat->Z7->Int->Option Int
 | 0,_,_=>none
 | n+1,a0,a1=>(addC (1:Int) ((a0.FText.length:Nat):Int)).bind fun x4=>Z54_l23 a0 a1 (Z54_n n) (a0.FKeys.l.length+1) x4 0
theorem Z54_step (n:Nat) (ih_122:∀{a0:Z7}{a1 r:Int},Z54_n n a0 a1=some r->∀(H:Heap),ACalls Tryz.prog 122 [.agg (Z7.c a0),.d (.int .i64 a1)] H fun v h'=>v=.a (.d (.int .i64 r))/\h'=H):∀{a0:Z7}{a1 r:Int},Z54_n (n+1) a0 a1=some r->∀(H:Heap),ACalls Tryz.prog 122 [.agg (Z7.c a0),.d (.int .i64 a1)] H fun v h'=>v=.a (.d (.int .i64 r))/\h'=H:=by
 intro a0 a1   r hE H ;rw [Z54_n] at hE;refine ACalls.oW 55 [.tmp 4] Tryz.call122 Tryz.func122 ?_;refine seqR (S BX (S As (nil ?_)));refine seqR (S Fv (S Ld ?_));refine sLenS (TK rfl) rfl rfl rfl rfl fun hL3=>?_;obtain⟨x4,gx4,hE⟩:=bO hE;refine s0 (addM rfl rfl gx4) rfl ?_;refine S As (nil ?_);refine seqJH (TA 1 (TA 2 KeepsT.nil)) (fun(z:Int)=>[(5,.a (.d (.int .i64 z)))]) (fun z=>H) (fun z=>Z54_j5 a0 a1 (Z54_n n) z=some r) ?_ ?_
 ·intro K5 hK5;refine seqR (S As (nil ?_));refine block ?_;refine loopH (TA 1 (TA 2 KeepsT.nil)) (fun(z:Nat×Int×Nat)=>[(5,.a (.d (.int .i64 z.2.1))),(6,.a (.d (.int .i64 ((z.2.2:Nat):Int))))]) (fun z=>H) (fun z=>z.1) (fun z=>Z54_l23 a0 a1 (Z54_n n) z.1 z.2.1 z.2.2=some r) ((a0.FKeys.l.length+1),x4,0) hE Weak.toA ?_;rintro ⟨n23,s5_24,s6_25⟩ hE K23 hK23;try dsimp only at hE
  cases n23 with
  | zero=>cases hE
  | succ n23 =>
    rw [Z54_l23] at hE;refine seqK fun K26 hK26=>?_;refine seqR (S Mv (S Fv (S Ld ?_)));refine sLen (f:=strE) (s:=a0.FKeys) (TK rfl) rfl rfl rfl rfl fun hL28=>?_;refine S BI (S Mv (G0 Mv (G0 Mv ?_)));refine G2 18 19 rfl rfl BI ?_;refine S PA (nil ?_);refine cE hE (fun hc29 hE=>?_) (fun hc29 hE=>?_)
    ·try dsimp only at hc29
     have hf29:=of_decide_eq_true (and_left hc29);refine sk hK26 ?_;clear hK26 K26;refine seqK fun K30 hK30=>?_;refine block ?_;refine region ?_;refine S Mv ?_;obtain⟨x31,gx31,hE⟩:=bO hE;refine s0 (addM rfl rfl gx31) rfl ?_;refine S Fv (S Ld (S Mv ?_));obtain⟨x32,gx32,hE⟩:=bO hE;refine S (ix strE s6_25 gx32) (S Ld ?_);refine sLenS (TK rfl) rfl rfl rfl rfl fun hL33=>?_;obtain⟨x34,gx34,hE⟩:=bO hE;refine s0 (addM rfl rfl gx34) rfl ?_
     refine S As (nil ?_);refine hK30 _ ?_;clear hK30 K30;refine region ?_;refine S Mv ?_;refine SI ?_;refine S As (nil ?_);exact hK23 _ (n23,x34,(s6_25+1)) Weak.toA hE (Nat.lt_succ_self _)
    refine AWp.exit ?_;exact hK5 _ s5_24 Weak.toA hE
 rintro s5_6 hE;try dsimp only at hE
 unfold Z54_j5 at hE;refine seqJH KeepsT.nil (fun(z:Int)=>[(5,.a (.d (.int .i64 z)))]) (fun z=>H) (fun z=>Z54_j7 z=some r) ?_ ?_
 ·intro K7 hK7;refine seqR (S As (nil ?_));refine block ?_;refine loopH (TA 1 (TA 2 KeepsT.nil)) (fun(z:Nat×Int×Nat)=>[(5,.a (.d (.int .i64 z.2.1))),(7,.a (.d (.int .i64 ((z.2.2:Nat):Int))))]) (fun z=>H) (fun z=>z.1) (fun z=>Z54_l11 a0 a1 (Z54_n n) z.1 z.2.1 z.2.2=some r) ((a0.FItems.l.length+1),s5_6,0) hE Weak.toA ?_;rintro ⟨n11,s5_12,s7_13⟩ hE K11 hK11;try dsimp only at hE
  cases n11 with
  | zero=>cases hE
  | succ n11 =>
    rw [Z54_l11] at hE;refine seqK fun K14 hK14=>?_;refine seqR (S Mv (S Fv ?_));refine s0 (loadV (TK rfl) rfl rfl (congrArg (fun x=>some (A.d x)) (Z7.FItemsD_eq _))) rfl ?_;refine sLen (f:=Z7.c) (s:=a0.FItems) (TK rfl) rfl rfl rfl rfl fun hL16=>?_;refine S BI (S Mv (G0 Mv (G0 Mv ?_)));refine G2 39 40 rfl rfl BI ?_;refine S PA (nil ?_);refine cE hE (fun hc17 hE=>?_) (fun hc17 hE=>?_)
    ·try dsimp only at hc17
     have hf17:=of_decide_eq_true (and_left hc17);refine sk hK14 ?_;clear hK14 K14;refine seqK fun K18 hK18=>?_;refine block ?_;refine region ?_;refine S Mv (S Fv ?_);refine s0 (loadV (TK rfl) rfl rfl (congrArg (fun x=>some (A.d x)) (Z7.FItemsD_eq _))) rfl ?_;refine S Mv ?_;obtain⟨x19,gx19,hE⟩:=bO hE;refine S (ix Z7.c s7_13 gx19) (S Ld (S Mv ?_));obtain⟨x20,gx20,hE⟩:=bO hE;refine Sc rfl rfl (ih_122 gx20) ?_
     obtain⟨x21,gx21,hE⟩:=bO hE;refine s0 (addM rfl rfl gx21) rfl ?_;refine S As (nil ?_);refine hK18 _ ?_;clear hK18 K18;refine region ?_;refine S Mv ?_;refine SI ?_;refine S As (nil ?_);exact hK11 _ (n11,x21,(s7_13+1)) Weak.toA hE (Nat.lt_succ_self _)
    refine AWp.exit ?_;exact hK7 _ s5_12 Weak.toA hE
 rintro s5_8 hE;try dsimp only at hE
 unfold Z54_j7 at hE;refine seqR (S Mv (S As (nil ?_)));exact rt hE
theorem Z54_all:∀(n:Nat),(∀{a0:Z7}{a1 r:Int},Z54_n n a0 a1=some r->∀(H:Heap),ACalls Tryz.prog 122 [.agg (Z7.c a0),.d (.int .i64 a1)] H fun v h'=>v=.a (.d (.int .i64 r))/\h'=H)
 | 0=>fun hE=>by first|cases hE|(rw [Z54_n] at hE; cases hE)
 | n+1=>Z54_step n (Z54_all n)
def Z54 (a0:Z7) (a1:Int):Option Int:=Z54_n F0 a0 a1
theorem Z54_walk {a0:Z7}{a1 r:Int}(hE:Z54 a0 a1=some r) (H:Heap) :ACalls Tryz.prog 122 [.agg (Z7.c a0),.d (.int .i64 a1)] H fun v h'=>v=.a (.d (.int .i64 r))/\h'=H:=(Z54_all F0) hE H 
end Go.Proofs
