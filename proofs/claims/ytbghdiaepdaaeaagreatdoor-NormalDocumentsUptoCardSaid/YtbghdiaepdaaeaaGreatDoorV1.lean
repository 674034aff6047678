import Derived.Test.YtbghdiaepdaaeaaGreatDoorE3
import Derived.Test.YtbghdiaepdaaeaaGreatDoorTab
set_option maxRecDepth 100000
set_option maxHeartbeats 2000000
set_option linter.unusedVariables false
set_option linter.unusedSimpArgs false
namespace Go.Proofs
open Go Go.Ab
inductive Z11 where
 | mk (FKind:Int) (FInt:Int) (FText:Bs) (FItems_nl:Bool) (FItems_l:List Z11) (FKeys:(Sl Bs))
def Z11.FKind:Z11->Int|.mk x _ _ _ _ _=>x
def Z11.FInt:Z11->Int|.mk _ x _ _ _ _=>x
def Z11.FText:Z11->Bs|.mk _ _ x _ _ _=>x
def Z11.FItems:Z11->(Sl Z11)|.mk _ _ _ nl l _=>⟨nl,l⟩
def Z11.FKeys:Z11->(Sl Bs)|.mk _ _ _ _ _ x=>x
noncomputable def Z11.FItemsD:Z11->D:=@Z11.rec (fun _=>D) (fun _=>List (List D)) (fun _ _ _ nl _ _ ih=>.slice 5 none nl ih) [] (fun v _ ih ihl=>((intE .i64) v.FKind++(intE .i64) v.FInt++strE v.FText++[ih]++(fun s=>[Sl.d 1 strE none s]) v.FKeys)::ihl)
noncomputable def Z11.c (v:Z11):List D:=(intE .i64) v.FKind++(intE .i64) v.FInt++strE v.FText++[v.FItemsD]++(fun s=>[Sl.d 1 strE none s]) v.FKeys
theorem Z11.FItemsD_eq (v:Z11):v.FItemsD=Sl.d 5 Z11.c none v.FItems:=by
 cases v with
 | mk y_Kind y_Int y_Text nl l y_Keys =>
  show D.slice 5 none nl _=D.slice 5 none nl (l.map Z11.c)
  congr 1
  induction l with
  | nil=>rfl
  | cons a r ih=>exact congrArg (Z11.c a::·) ih
noncomputable def Z11.cu (v:Z11):List D:=(intE .i64) v.FKind++(intE .i64) v.FInt++strE v.FText++[Sl.d 5 Z11.c none v.FItems]++(fun s=>[Sl.d 1 strE none s]) v.FKeys
theorem Z11.cu_eq (v:Z11):v.c=v.cu:=by unfold Z11.c Z11.cu; rw [Z11.FItemsD_eq]
def Z11.zero:Z11:=.mk (0:Int) (0:Int) ([]:Bs) true [] (Sl.nil:Sl Bs)
structure TArg where
 FName:Bs
 FValue:Z11
noncomputable def TArg.c (x:TArg):List D:=strE x.FName++Z11.c x.FValue
def TArg.zero:TArg:=⟨([]:Bs),Z11.zero⟩
structure TDir where
 FName:Bs
 FArgs:(Sl TArg)
noncomputable def TDir.c (x:TDir):List D:=[.str x.FName,Sl.d 6 TArg.c none x.FArgs]
def TDir.zero:TDir:=⟨([]:Bs),(Sl.nil:Sl TArg)⟩
structure TRef where
 FName:Bs
 FWraps:(Sl Int)
noncomputable def TRef.c (x:TRef):List D:=[.str x.FName,Sl.d 1 (intE .i64) none x.FWraps]
def TRef.zero:TRef:=⟨([]:Bs),(Sl.nil:Sl Int)⟩
structure Z6 where
 FName:Bs
 FType:TRef
 FHas:Bool
 FDefault:Z11
 FDirs:(Sl TDir)
noncomputable def Z6.c (x:Z6):List D:=strE x.FName++TRef.c x.FType++boolE x.FHas++Z11.c x.FDefault++(fun s=>[Sl.d 2 TDir.c none s]) x.FDirs
def Z6.zero:Z6:=⟨([]:Bs),TRef.zero,false,Z11.zero,(Sl.nil:Sl TDir)⟩
structure Z4 where
 FName:Bs
 FArgs:(Sl Z6)
 FType:TRef
 FDirs:(Sl TDir)
noncomputable def Z4.c (x:Z4):List D:=strE x.FName++(fun s=>[Sl.d 10 Z6.c none s]) x.FArgs++TRef.c x.FType++(fun s=>[Sl.d 2 TDir.c none s]) x.FDirs
def Z4.zero:Z4:=⟨([]:Bs),(Sl.nil:Sl Z6),TRef.zero,(Sl.nil:Sl TDir)⟩
structure Z7 where
 FName:Bs
 FDirs:(Sl TDir)
noncomputable def Z7.c (x:Z7):List D:=[.str x.FName,Sl.d 2 TDir.c none x.FDirs]
structure TDef where
 FKind:Int
 FName:Bs
 FImplements:(Sl Bs)
 FDirs:(Sl TDir)
 FFields:(Sl Z4)
 FMembers:(Sl Z7)
 FInputs:(Sl Z6)
noncomputable def TDef.c (x:TDef):List D:=[.int .i64 x.FKind,.str x.FName,Sl.d 1 strE none x.FImplements,Sl.d 2 TDir.c none x.FDirs,Sl.d 5 Z4.c none x.FFields,Sl.d 2 Z7.c none x.FMembers,Sl.d 10 Z6.c none x.FInputs]
def TDef.zero:TDef:=⟨(0:Int),([]:Bs),(Sl.nil:Sl Bs),(Sl.nil:Sl TDir),(Sl.nil:Sl Z4),(Sl.nil:Sl Z7),(Sl.nil:Sl Z6)⟩
structure TDoc where
 FDefs:(Sl TDef)
noncomputable def TDoc.c (x:TDoc):List D:=[Sl.d 7 TDef.c none x.FDefs]
inductive Z8 where
 | mk (FKey:Bs) (FOn:Bs) (FName:Bs) (FArgs:(Sl TArg)) (FType:TRef) (FLabel:Bs) (FInitial:Int) (FPicks_nl:Bool) (FPicks_l:List Z8)
def Z8.FKey:Z8->Bs|.mk x _ _ _ _ _ _ _ _=>x
def Z8.FOn:Z8->Bs|.mk _ x _ _ _ _ _ _ _=>x
def Z8.FName:Z8->Bs|.mk _ _ x _ _ _ _ _ _=>x
def Z8.FArgs:Z8->(Sl TArg)|.mk _ _ _ x _ _ _ _ _=>x
def Z8.FType:Z8->TRef|.mk _ _ _ _ x _ _ _ _=>x
def Z8.FLabel:Z8->Bs|.mk _ _ _ _ _ x _ _ _=>x
def Z8.FInitial:Z8->Int|.mk _ _ _ _ _ _ x _ _=>x
def Z8.FPicks:Z8->(Sl Z8)|.mk _ _ _ _ _ _ _ nl l=>⟨nl,l⟩
noncomputable def Z8.FPicksD:Z8->D:=@Z8.rec (fun _=>D) (fun _=>List (List D)) (fun _ _ _ _ _ _ _ nl _ ih=>.slice 9 none nl ih) [] (fun v _ ih ihl=>(strE v.FKey++strE v.FOn++strE v.FName++(fun s=>[Sl.d 6 TArg.c none s]) v.FArgs++TRef.c v.FType++strE v.FLabel++(intE .i64) v.FInitial++[ih])::ihl)
noncomputable def Z8.c (v:Z8):List D:=strE v.FKey++strE v.FOn++strE v.FName++(fun s=>[Sl.d 6 TArg.c none s]) v.FArgs++TRef.c v.FType++strE v.FLabel++(intE .i64) v.FInitial++[v.FPicksD]
theorem Z8.FPicksD_eq (v:Z8):v.FPicksD=Sl.d 9 Z8.c none v.FPicks:=by
 cases v with
 | mk y_Key y_On y_Name y_Args y_Type y_Label y_Initial nl l =>
  show D.slice 9 none nl _=D.slice 9 none nl (l.map Z8.c)
  congr 1
  induction l with
  | nil=>rfl
  | cons a r ih=>exact congrArg (Z8.c a::·) ih
noncomputable def Z8.cu (v:Z8):List D:=strE v.FKey++strE v.FOn++strE v.FName++(fun s=>[Sl.d 6 TArg.c none s]) v.FArgs++TRef.c v.FType++strE v.FLabel++(intE .i64) v.FInitial++[Sl.d 9 Z8.c none v.FPicks]
theorem Z8.cu_eq (v:Z8):v.c=v.cu:=by unfold Z8.c Z8.cu; rw [Z8.FPicksD_eq]
def Z8.zero:Z8:=.mk ([]:Bs) ([]:Bs) ([]:Bs) (Sl.nil:Sl TArg) TRef.zero ([]:Bs) (0:Int) true []
structure Z9 where
 FKind:Int
 FPicks:(Sl Z8)
noncomputable def Z9.c (x:Z9):List D:=[.int .i64 x.FKind,Sl.d 9 Z8.c none x.FPicks]
structure TVar where
 FName:Bs
 FType:TRef
 FHas:Bool
 FDefault:Z11
noncomputable def TVar.c (x:TVar):List D:=strE x.FName++TRef.c x.FType++boolE x.FHas++Z11.c x.FDefault
def TVar.zero:TVar:=⟨([]:Bs),TRef.zero,false,Z11.zero⟩
inductive TSel where
 | mk (FKind:Int) (FAlias:Bs) (FName:Bs) (FOn:Bs) (FArgs:(Sl TArg)) (FDirs:(Sl TDir)) (FSels_nl:Bool) (FSels_l:List TSel)
def TSel.FKind:TSel->Int|.mk x _ _ _ _ _ _ _=>x
def TSel.FAlias:TSel->Bs|.mk _ x _ _ _ _ _ _=>x
def TSel.FName:TSel->Bs|.mk _ _ x _ _ _ _ _=>x
def TSel.FOn:TSel->Bs|.mk _ _ _ x _ _ _ _=>x
def TSel.FArgs:TSel->(Sl TArg)|.mk _ _ _ _ x _ _ _=>x
def TSel.FDirs:TSel->(Sl TDir)|.mk _ _ _ _ _ x _ _=>x
def TSel.FSels:TSel->(Sl TSel)|.mk _ _ _ _ _ _ nl l=>⟨nl,l⟩
noncomputable def TSel.FSelsD:TSel->D:=@TSel.rec (fun _=>D) (fun _=>List (List D)) (fun _ _ _ _ _ _ nl _ ih=>.slice 7 none nl ih) [] (fun v _ ih ihl=>((intE .i64) v.FKind++strE v.FAlias++strE v.FName++strE v.FOn++(fun s=>[Sl.d 6 TArg.c none s]) v.FArgs++(fun s=>[Sl.d 2 TDir.c none s]) v.FDirs++[ih])::ihl)
noncomputable def TSel.c (v:TSel):List D:=(intE .i64) v.FKind++strE v.FAlias++strE v.FName++strE v.FOn++(fun s=>[Sl.d 6 TArg.c none s]) v.FArgs++(fun s=>[Sl.d 2 TDir.c none s]) v.FDirs++[v.FSelsD]
theorem TSel.FSelsD_eq (v:TSel):v.FSelsD=Sl.d 7 TSel.c none v.FSels:=by
 cases v with
 | mk y_Kind y_Alias y_Name y_On y_Args y_Dirs nl l =>
  show D.slice 7 none nl _=D.slice 7 none nl (l.map TSel.c)
  congr 1
  induction l with
  | nil=>rfl
  | cons a r ih=>exact congrArg (TSel.c a::·) ih
noncomputable def TSel.cu (v:TSel):List D:=(intE .i64) v.FKind++strE v.FAlias++strE v.FName++strE v.FOn++(fun s=>[Sl.d 6 TArg.c none s]) v.FArgs++(fun s=>[Sl.d 2 TDir.c none s]) v.FDirs++[Sl.d 7 TSel.c none v.FSels]
theorem TSel.cu_eq (v:TSel):v.c=v.cu:=by unfold TSel.c TSel.cu; rw [TSel.FSelsD_eq]
def TSel.zero:TSel:=.mk (0:Int) ([]:Bs) ([]:Bs) ([]:Bs) (Sl.nil:Sl TArg) (Sl.nil:Sl TDir) true []
structure TOp where
 FKind:Int
 FName:Bs
 FVars:(Sl TVar)
 FSels:(Sl TSel)
noncomputable def TOp.c (x:TOp):List D:=[.int .i64 x.FKind,.str x.FName,Sl.d 9 TVar.c none x.FVars,Sl.d 7 TSel.c none x.FSels]
structure Z5 where
 FName:Bs
 FOn:Bs
 FSels:(Sl TSel)
noncomputable def Z5.c (x:Z5):List D:=[.str x.FName,.str x.FOn,Sl.d 7 TSel.c none x.FSels]
structure Z10 where
 FOps:(Sl TOp)
 FFrags:(Sl Z5)
noncomputable def Z10.c (x:Z10):List D:=[Sl.d 4 TOp.c none x.FOps,Sl.d 3 Z5.c none x.FFrags]
def Z10.zero:Z10:=⟨(Sl.nil:Sl TOp),(Sl.nil:Sl Z5)⟩
structure Z3 where
 Fd:TDoc
 Fq:Z10
 Fvars:Z11
 Fn:Int
noncomputable def Z3.c (x:Z3):List D:=TDoc.c x.Fd++Z10.c x.Fq++Z11.c x.Fvars++(intE .i64) x.Fn
structure Z1 where
 FSel:TSel
 FLabel:Bs
noncomputable def Z1.c (x:Z1):List D:=TSel.c x.FSel++strE x.FLabel
structure Z2 where
 FKey:Bs
 FList:(Sl Z1)
noncomputable def Z2.c (x:Z2):List D:=[.str x.FKey,Sl.d 8 Z1.c none x.FList]
structure Z0 where
 Fd:TDoc
 Fvars:Z11
 Fliteral:Bool
 Fnodes:Int
noncomputable def Z0.c (x:Z0):List D:=TDoc.c x.Fd++Z11.c x.Fvars++boolE x.Fliteral++(intE .i64) x.Fnodes
end Go.Proofs

namespace Go.Proofs
open Go Go.Ab Go.RowKit
section
variable {H:Type}{B:DataW H->Nat}(hB:Bulk B)
noncomputable def Z11.sz:Z11->Nat:=@Z11.rec (fun _=>Nat) (fun _=>Nat) (fun y_Kind y_Int y_Text nl l y_Keys ih=>(fun _=>1) y_Kind+((fun _=>1) y_Int+(Bs.sz y_Text+((1+ih)+((Sl.sz Bs.sz) y_Keys+(0)))))) 0 (fun _ _ ih ihl=>ih+ihl)
noncomputable def Z11.szL:List Z11->Nat:=@Z11.rec_1 (fun _=>Nat) (fun _=>Nat) (fun y_Kind y_Int y_Text nl l y_Keys ih=>(fun _=>1) y_Kind+((fun _=>1) y_Int+(Bs.sz y_Text+((1+ih)+((Sl.sz Bs.sz) y_Keys+(0)))))) 0 (fun _ _ ih ihl=>ih+ihl)
theorem Z11.szL_eq (l:List Z11):Z11.szL l=(l.map Z11.sz).sum:=by
 induction l with
 | nil=>rfl
 | cons a r ih=>exact congrArg (Z11.sz a+·) ih
theorem Z11.sz_eq (x:Z11):x.sz=(fun _=>1) x.FKind+((fun _=>1) x.FInt+(Bs.sz x.FText+((Sl.sz Z11.sz) x.FItems+((Sl.sz Bs.sz) x.FKeys+(0))))):=by
 cases x with
 | mk y_Kind y_Int y_Text nl l y_Keys =>
  show (fun _=>1) y_Kind+((fun _=>1) y_Int+(Bs.sz y_Text+((1+Z11.szL l)+((Sl.sz Bs.sz) y_Keys+(0)))))=_;rw [Z11.szL_eq]; rfl
def Z11.wf:Z11->Prop:=@Z11.rec (fun _=>Prop) (fun _=>Prop) (fun y_Kind y_Int y_Text nl l y_Keys ih=>i64 y_Kind/\(i64 y_Int/\((fun _=>True) y_Text/\(((nl=true->l=[])/\l.length<=maxN/\ih)/\((Sl.wf (fun _=>True)) y_Keys/\(True)))))) True (fun _ _ ih ihl=>ih/\ihl)
def Z11.wfL:List Z11->Prop:=@Z11.rec_1 (fun _=>Prop) (fun _=>Prop) (fun y_Kind y_Int y_Text nl l y_Keys ih=>i64 y_Kind/\(i64 y_Int/\((fun _=>True) y_Text/\(((nl=true->l=[])/\l.length<=maxN/\ih)/\((Sl.wf (fun _=>True)) y_Keys/\(True)))))) True (fun _ _ ih ihl=>ih/\ihl)
theorem Z11.wfL_iff (l:List Z11):Z11.wfL l↔∀x∈l,Z11.wf x:=by
 induction l with
 | nil=>exact⟨fun _ _ h=>(by cases h),fun _=>trivial⟩
 | cons a r ih =>
  show (Z11.wf a/\Z11.wfL r)↔_;rw [ih]; simp
theorem Z11.wf_iff (x:Z11):x.wf↔i64 x.FKind/\(i64 x.FInt/\((fun _=>True) x.FText/\((Sl.wf Z11.wf) x.FItems/\((Sl.wf (fun _=>True)) x.FKeys/\(True))))):=by
 cases x with
 | mk y_Kind y_Int y_Text nl l y_Keys =>
  show (i64 y_Kind/\(i64 y_Int/\((fun _=>True) y_Text/\(((nl=true->l=[])/\l.length<=maxN/\Z11.wfL l)/\((Sl.wf (fun _=>True)) y_Keys/\(True))))))↔_;rw [Z11.wfL_iff]; exact Iff.rfl
include hB in
theorem rd_TValue_58:∀N,RdN Tryz.prog B N 58 Z11.c Z11.sz Z11.wf:=by
 have key:∀N M,M<=N->RdN Tryz.prog B M 58 Z11.c Z11.sz Z11.wf:=by
  intro N;induction N with
  | zero=>intro M hM; rw [Nat.le_zero.1 hM]; exact .zero
  | succ N ih =>
   intro M hM;cases M with
   | zero=>exact .zero
   | succ N_ =>
    have hit:RdN Tryz.prog B N_ 55 (fun s:Sl Z11=>[Sl.d 5 Z11.c none s]) (Sl.sz Z11.sz) (Sl.wf Z11.wf):=by
     cases N_ with
     | zero=>exact .zero
     | succ M=>exact RdS.sliceN hB (Tryz.tab_ok 55 _ rfl) rfl (Tryz.tab_ok 58 _ rfl) rfl (by decide) (fun _=>rfl) (ih M (by omega))
    refine RdN.struct hB (Tryz.tab_ok 58 _ rfl) rfl (RdP.cons (n:=5) (o:=0) (o':=1) (Tryz.tab_ok 3 _ rfl) rfl ((RdS.int hB (Tryz.tab_ok 3 _ rfl) rfl) N_) (RdP.cons (n:=5) (o:=1) (o':=2) (Tryz.tab_ok 3 _ rfl) rfl ((RdS.int hB (Tryz.tab_ok 3 _ rfl) rfl) N_) (RdP.cons (n:=5) (o:=2) (o':=3) (Tryz.tab_ok 9 _ rfl) rfl ((RdS.str hB (Tryz.tab_ok 9 _ rfl) rfl) N_) (RdP.cons (n:=5) (o:=3) (o':=4) (Tryz.tab_ok 55 _ rfl) rfl hit (RdP.cons (n:=5) (o:=4) (o':=5) (Tryz.tab_ok 56 _ rfl) rfl ((RdS.slice hB (Tryz.tab_ok 56 _ rfl) rfl (Tryz.tab_ok 9 _ rfl) rfl (by decide) (fun _=>rfl) (RdS.str hB (Tryz.tab_ok 9 _ rfl) rfl)) N_) (RdP.nil (n:=5))))))) (fun a=>Z11.mk a.1 a.2.1 a.2.2.1 a.2.2.2.1.nl a.2.2.2.1.l a.2.2.2.2.1) (fun a=>?_) (fun a=>by rw [Z11.sz_eq]; exact Nat.le_refl _) (fun a h=>by rw [Z11.wf_iff]; exact h)
    unfold Z11.c;rw [Z11.FItemsD_eq];rfl
 exact fun N=>key N N (Nat.le_refl _)
noncomputable def TArg.sz (x:TArg):Nat:=Bs.sz x.FName+(Z11.sz x.FValue+(0))
def TArg.wf (x:TArg):Prop:=(fun _=>True) x.FName/\(Z11.wf x.FValue/\(True))
include hB in
theorem rd_TArg_78:∀N,RdN Tryz.prog B N 78 TArg.c TArg.sz TArg.wf:=RdA.struct hB (Tryz.tab_ok 78 _ rfl) rfl (fun N_=>(RdP.cons (n:=6) (o:=0) (o':=1) (Tryz.tab_ok 9 _ rfl) rfl ((RdS.str hB (Tryz.tab_ok 9 _ rfl) rfl) N_) (RdP.cons (n:=6) (o:=1) (o':=6) (Tryz.tab_ok 58 _ rfl) rfl ((rd_TValue_58 hB) N_) (RdP.nil (n:=6))))) (fun a=>(⟨a.1,a.2.1⟩:TArg)) (fun _=>rfl) (fun _=>Nat.le_refl _) (fun _ h=>h)
noncomputable def TRef.sz (x:TRef):Nat:=Bs.sz x.FName+((Sl.sz (fun _=>1)) x.FWraps+(0))
def TRef.wf (x:TRef):Prop:=(fun _=>True) x.FName/\((Sl.wf i64) x.FWraps/\(True))
include hB in
theorem rd_TRef_50:∀N,RdN Tryz.prog B N 50 TRef.c TRef.sz TRef.wf:=RdA.struct hB (Tryz.tab_ok 50 _ rfl) rfl (fun N_=>(RdP.cons (n:=2) (o:=0) (o':=1) (Tryz.tab_ok 9 _ rfl) rfl ((RdS.str hB (Tryz.tab_ok 9 _ rfl) rfl) N_) (RdP.cons (n:=2) (o:=1) (o':=2) (Tryz.tab_ok 48 _ rfl) rfl ((RdS.slice hB (Tryz.tab_ok 48 _ rfl) rfl (Tryz.tab_ok 3 _ rfl) rfl (by decide) (fun _=>rfl) (RdS.int hB (Tryz.tab_ok 3 _ rfl) rfl)) N_) (RdP.nil (n:=2))))) (fun a=>(⟨a.1,a.2.1⟩:TRef)) (fun _=>rfl) (fun _=>Nat.le_refl _) (fun _ h=>h)
noncomputable def Z8.sz:Z8->Nat:=@Z8.rec (fun _=>Nat) (fun _=>Nat) (fun y_Key y_On y_Name y_Args y_Type y_Label y_Initial nl l ih=>Bs.sz y_Key+(Bs.sz y_On+(Bs.sz y_Name+((Sl.sz TArg.sz) y_Args+(TRef.sz y_Type+(Bs.sz y_Label+((fun _=>1) y_Initial+((1+ih)+(0))))))))) 0 (fun _ _ ih ihl=>ih+ihl)
noncomputable def Z8.szL:List Z8->Nat:=@Z8.rec_1 (fun _=>Nat) (fun _=>Nat) (fun y_Key y_On y_Name y_Args y_Type y_Label y_Initial nl l ih=>Bs.sz y_Key+(Bs.sz y_On+(Bs.sz y_Name+((Sl.sz TArg.sz) y_Args+(TRef.sz y_Type+(Bs.sz y_Label+((fun _=>1) y_Initial+((1+ih)+(0))))))))) 0 (fun _ _ ih ihl=>ih+ihl)
theorem Z8.szL_eq (l:List Z8):Z8.szL l=(l.map Z8.sz).sum:=by
 induction l with
 | nil=>rfl
 | cons a r ih=>exact congrArg (Z8.sz a+·) ih
theorem Z8.sz_eq (x:Z8):x.sz=Bs.sz x.FKey+(Bs.sz x.FOn+(Bs.sz x.FName+((Sl.sz TArg.sz) x.FArgs+(TRef.sz x.FType+(Bs.sz x.FLabel+((fun _=>1) x.FInitial+((Sl.sz Z8.sz) x.FPicks+(0)))))))):=by
 cases x with
 | mk y_Key y_On y_Name y_Args y_Type y_Label y_Initial nl l =>
  show Bs.sz y_Key+(Bs.sz y_On+(Bs.sz y_Name+((Sl.sz TArg.sz) y_Args+(TRef.sz y_Type+(Bs.sz y_Label+((fun _=>1) y_Initial+((1+Z8.szL l)+(0))))))))=_;rw [Z8.szL_eq]; rfl
def Z8.wf:Z8->Prop:=@Z8.rec (fun _=>Prop) (fun _=>Prop) (fun y_Key y_On y_Name y_Args y_Type y_Label y_Initial nl l ih=>(fun _=>True) y_Key/\((fun _=>True) y_On/\((fun _=>True) y_Name/\((Sl.wf TArg.wf) y_Args/\(TRef.wf y_Type/\((fun _=>True) y_Label/\(i64 y_Initial/\(((nl=true->l=[])/\l.length<=maxN/\ih)/\(True))))))))) True (fun _ _ ih ihl=>ih/\ihl)
def Z8.wfL:List Z8->Prop:=@Z8.rec_1 (fun _=>Prop) (fun _=>Prop) (fun y_Key y_On y_Name y_Args y_Type y_Label y_Initial nl l ih=>(fun _=>True) y_Key/\((fun _=>True) y_On/\((fun _=>True) y_Name/\((Sl.wf TArg.wf) y_Args/\(TRef.wf y_Type/\((fun _=>True) y_Label/\(i64 y_Initial/\(((nl=true->l=[])/\l.length<=maxN/\ih)/\(True))))))))) True (fun _ _ ih ihl=>ih/\ihl)
theorem Z8.wfL_iff (l:List Z8):Z8.wfL l↔∀x∈l,Z8.wf x:=by
 induction l with
 | nil=>exact⟨fun _ _ h=>(by cases h),fun _=>trivial⟩
 | cons a r ih =>
  show (Z8.wf a/\Z8.wfL r)↔_;rw [ih]; simp
theorem Z8.wf_iff (x:Z8):x.wf↔(fun _=>True) x.FKey/\((fun _=>True) x.FOn/\((fun _=>True) x.FName/\((Sl.wf TArg.wf) x.FArgs/\(TRef.wf x.FType/\((fun _=>True) x.FLabel/\(i64 x.FInitial/\((Sl.wf Z8.wf) x.FPicks/\(True)))))))):=by
 cases x with
 | mk y_Key y_On y_Name y_Args y_Type y_Label y_Initial nl l =>
  show ((fun _=>True) y_Key/\((fun _=>True) y_On/\((fun _=>True) y_Name/\((Sl.wf TArg.wf) y_Args/\(TRef.wf y_Type/\((fun _=>True) y_Label/\(i64 y_Initial/\(((nl=true->l=[])/\l.length<=maxN/\Z8.wfL l)/\(True)))))))))↔_;rw [Z8.wfL_iff]; exact Iff.rfl
include hB in
theorem rd_TPick_52:∀N,RdN Tryz.prog B N 52 Z8.c Z8.sz Z8.wf:=by
 have key:∀N M,M<=N->RdN Tryz.prog B M 52 Z8.c Z8.sz Z8.wf:=by
  intro N;induction N with
  | zero=>intro M hM; rw [Nat.le_zero.1 hM]; exact .zero
  | succ N ih =>
   intro M hM;cases M with
   | zero=>exact .zero
   | succ N_ =>
    have hit:RdN Tryz.prog B N_ 25 (fun s:Sl Z8=>[Sl.d 9 Z8.c none s]) (Sl.sz Z8.sz) (Sl.wf Z8.wf):=by
     cases N_ with
     | zero=>exact .zero
     | succ M=>exact RdS.sliceN hB (Tryz.tab_ok 25 _ rfl) rfl (Tryz.tab_ok 52 _ rfl) rfl (by decide) (fun _=>rfl) (ih M (by omega))
    refine RdN.struct hB (Tryz.tab_ok 52 _ rfl) rfl (RdP.cons (n:=9) (o:=0) (o':=1) (Tryz.tab_ok 9 _ rfl) rfl ((RdS.str hB (Tryz.tab_ok 9 _ rfl) rfl) N_) (RdP.cons (n:=9) (o:=1) (o':=2) (Tryz.tab_ok 9 _ rfl) rfl ((RdS.str hB (Tryz.tab_ok 9 _ rfl) rfl) N_) (RdP.cons (n:=9) (o:=2) (o':=3) (Tryz.tab_ok 9 _ rfl) rfl ((RdS.str hB (Tryz.tab_ok 9 _ rfl) rfl) N_) (RdP.cons (n:=9) (o:=3) (o':=4) (Tryz.tab_ok 47 _ rfl) rfl ((RdS.slice hB (Tryz.tab_ok 47 _ rfl) rfl (Tryz.tab_ok 78 _ rfl) rfl (by decide) (fun _=>rfl) (rd_TArg_78 hB)) N_) (RdP.cons (n:=9) (o:=4) (o':=6) (Tryz.tab_ok 50 _ rfl) rfl ((rd_TRef_50 hB) N_) (RdP.cons (n:=9) (o:=6) (o':=7) (Tryz.tab_ok 9 _ rfl) rfl ((RdS.str hB (Tryz.tab_ok 9 _ rfl) rfl) N_) (RdP.cons (n:=9) (o:=7) (o':=8) (Tryz.tab_ok 3 _ rfl) rfl ((RdS.int hB (Tryz.tab_ok 3 _ rfl) rfl) N_) (RdP.cons (n:=9) (o:=8) (o':=9) (Tryz.tab_ok 25 _ rfl) rfl hit (RdP.nil (n:=9)))))))))) (fun a=>Z8.mk a.1 a.2.1 a.2.2.1 a.2.2.2.1 a.2.2.2.2.1 a.2.2.2.2.2.1 a.2.2.2.2.2.2.1 a.2.2.2.2.2.2.2.1.nl a.2.2.2.2.2.2.2.1.l) (fun a=>?_) (fun a=>by rw [Z8.sz_eq]; exact Nat.le_refl _) (fun a h=>by rw [Z8.wf_iff]; exact h)
    unfold Z8.c;rw [Z8.FPicksD_eq];rfl
 exact fun N=>key N N (Nat.le_refl _)
noncomputable def Z9.sz (x:Z9):Nat:=(fun _=>1) x.FKind+((Sl.sz Z8.sz) x.FPicks+(0))
def Z9.wf (x:Z9):Prop:=i64 x.FKind/\((Sl.wf Z8.wf) x.FPicks/\(True))
include hB in
theorem rd_TPlain_27:∀N,RdN Tryz.prog B N 27 Z9.c Z9.sz Z9.wf:=RdA.struct hB (Tryz.tab_ok 27 _ rfl) rfl (fun N_=>(RdP.cons (n:=2) (o:=0) (o':=1) (Tryz.tab_ok 3 _ rfl) rfl ((RdS.int hB (Tryz.tab_ok 3 _ rfl) rfl) N_) (RdP.cons (n:=2) (o:=1) (o':=2) (Tryz.tab_ok 25 _ rfl) rfl ((RdS.slice hB (Tryz.tab_ok 25 _ rfl) rfl (Tryz.tab_ok 52 _ rfl) rfl (by decide) (fun _=>rfl) (rd_TPick_52 hB)) N_) (RdP.nil (n:=2))))) (fun a=>(⟨a.1,a.2.1⟩:Z9)) (fun _=>rfl) (fun _=>Nat.le_refl _) (fun _ h=>h)
end
theorem Z11.sz_def (x:Z11):x.sz=0+1+1+Bs.sz x.FText+(Sl.sz Z11.sz) x.FItems+(Sl.sz Bs.sz) x.FKeys:=by
 rw [Z11.sz_eq]; try dsimp only
 omega
theorem Z11.pos (x:Z11):1<=x.sz:=by
 rw [Z11.sz_def]; have:=Bs.sz_pos x.FText; omega
theorem Z11.FItems_wf {x:Z11}(h:x.wf):(Sl.wf Z11.wf) x.FItems:=((Z11.wf_iff x).1 h).2.2.2.1
theorem Z11.FKeys_wf {x:Z11}(h:x.wf):(Sl.wf (fun _=>True)) x.FKeys:=((Z11.wf_iff x).1 h).2.2.2.2.1
theorem TArg.sz_def (x:TArg):x.sz=0+Bs.sz x.FName+Z11.sz x.FValue:=by
 unfold TArg.sz; try dsimp only
 omega
theorem TArg.pos (x:TArg):1<=x.sz:=by
 rw [TArg.sz_def]; have:=Bs.sz_pos x.FName; omega
theorem TArg.FValue_wf {x:TArg}(h:x.wf):Z11.wf x.FValue:=h.2.1
theorem TRef.sz_def (x:TRef):x.sz=0+Bs.sz x.FName+(Sl.sz (fun _=>1)) x.FWraps:=by
 unfold TRef.sz; try dsimp only
 omega
theorem TRef.pos (x:TRef):1<=x.sz:=by
 rw [TRef.sz_def]; have:=Bs.sz_pos x.FName; omega
theorem Z8.sz_def (x:Z8):x.sz=0+Bs.sz x.FKey+Bs.sz x.FOn+Bs.sz x.FName+(Sl.sz TArg.sz) x.FArgs+TRef.sz x.FType+Bs.sz x.FLabel+1+(Sl.sz Z8.sz) x.FPicks:=by
 rw [Z8.sz_eq]; try dsimp only
 omega
theorem Z8.pos (x:Z8):1<=x.sz:=by
 rw [Z8.sz_def]; have:=Bs.sz_pos x.FKey; omega
theorem Z8.FArgs_wf {x:Z8}(h:x.wf):(Sl.wf TArg.wf) x.FArgs:=((Z8.wf_iff x).1 h).2.2.2.1
theorem Z8.FPicks_wf {x:Z8}(h:x.wf):(Sl.wf Z8.wf) x.FPicks:=((Z8.wf_iff x).1 h).2.2.2.2.2.2.2.1
end Go.Proofs

namespace Go.Proofs
open Go Go.Ab
open AOps Cert AWp Keeps KeepsT
variable {lou:Lou}
def Z65_j7  (s5_8:Int):Option Int:=some s5_8
def Z65_l11 (a0:Z11) (a1:Int) (k_rec_57:Z11->Int->Option Int):Nat->Int->Nat->Option Int
 | 0,_,_=>none
 | n11+1,s5_12,s7_13=>bif ((decide (((s7_13:Nat):Int)<((a0.FItems.l.length:Nat):Int)))&&(decide (s5_12<=a1))) then((a0.FItems.l[s7_13]?).bind fun x19=>(k_rec_57 x19 a1).bind fun x20=>(addC s5_12 x20).bind fun x21=>(Z65_l11 a0 a1 k_rec_57 n11) x21 (s7_13+1)) else(Z65_j7   s5_12)
def Z65_j5 (a0:Z11) (a1:Int) (k_rec_57:Z11->Int->Option Int) (s5_6:Int):Option Int:=Z65_l11 a0 a1 k_rec_57 (a0.FItems.l.length+1) s5_6 0
def Z65_l23 (a0:Z11) (a1:Int) (k_rec_57:Z11->Int->Option Int):Nat->Int->Nat->Option Int
 | 0,_,_=>none
 | n23+1,s5_24,s6_25=>bif ((decide (((s6_25:Nat):Int)<((a0.FKeys.l.length:Nat):Int)))&&(decide (s5_24<=a1))) then((addC s5_24 (1:Int)).bind fun x31=>(a0.FKeys.l[s6_25]?).bind fun x32=>(addC x31 ((x32.length:Nat):Int)).bind fun x34=>(Z65_l23 a0 a1 k_rec_57 n23) x34 (s6_25+1)) else(Z65_j5 a0 a1 k_rec_57 s5_24)
def Z65_n:Nat->Z11->Int->Option Int
 | 0,_,_=>none
 | n+1,a0,a1=>(addC (1:Int) ((a0.FText.length:Nat):Int)).bind fun x4=>Z65_l23 a0 a1 (Z65_n n) (a0.FKeys.l.length+1) x4 0
theorem Z65_step (n:Nat) (ih_57:∀{a0:Z11}{a1 r:Int},Z65_n n a0 a1=some r->∀(H:Heap),AC Tryz.prog 57 [.agg (Z11.c a0),.d (.int .i64 a1)] H fun v h'=>v=.a (.d (.int .i64 r))/\h'=H):∀{a0:Z11}{a1 r:Int},Z65_n (n+1) a0 a1=some r->∀(H:Heap),AC Tryz.prog 57 [.agg (Z11.c a0),.d (.int .i64 a1)] H fun v h'=>v=.a (.d (.int .i64 r))/\h'=H:=by
 intro a0 a1   r hE H ;rw [Z65_n] at hE;refine AC.oW 55 [.tmp 4] Tryz.call57 Tryz.func57 ?_;refine seqR (S BX (S As (nil ?_)));refine seqR (S Fv (S Ld ?_));refine sLenS (TK rfl) rfl rfl rfl rfl fun hL3=>?_;obtain⟨x4,gx4,hE⟩:=bO hE;refine s0 (addM rfl rfl gx4) rfl ?_;refine S As (nil ?_);refine seqJH (TA 1 (TA 2 kN)) (fun(z:Int)=>[(5,.a (.d (.int .i64 z)))]) (fun z=>H) (fun z=>Z65_j5 a0 a1 (Z65_n n) z=some r) ?_ ?_
 ·intro K5 hK5;refine seqR (S As (nil ?_));refine block ?_;refine loopH (TA 1 (TA 2 kN)) (fun(z:Nat×Int×Nat)=>[(5,.a (.d (.int .i64 z.2.1))),(6,.a (.d (.int .i64 ((z.2.2:Nat):Int))))]) (fun z=>H) (fun z=>z.1) (fun z=>Z65_l23 a0 a1 (Z65_n n) z.1 z.2.1 z.2.2=some r) ((a0.FKeys.l.length+1),x4,0) hE wA ?_;rintro ⟨n23,s5_24,s6_25⟩ hE K23 hK23;try dsimp only at hE
  cases n23 with
  | zero=>cases hE
  | succ n23 =>
    rw [Z65_l23] at hE;refine seqK fun K26 hK26=>?_;refine seqR (S Mv (S Fv (S Ld ?_)));refine sLen (f:=strE) (s:=a0.FKeys) (TK rfl) rfl rfl rfl rfl fun hL28=>?_;refine S BI (S Mv (G0 Mv (G0 Mv ?_)));refine G2 18 19 rfl rfl BI ?_;refine S PA (nil ?_);refine cE hE (fun hc29 hE=>?_) (fun hc29 hE=>?_)
    ·try dsimp only at hc29
     have hf29:=oD (and_left hc29);refine sk hK26 ?_;clear hK26 K26;refine seqK fun K30 hK30=>?_;refine block ?_;refine region ?_;refine S Mv ?_;obtain⟨x31,gx31,hE⟩:=bO hE;refine s0 (addM rfl rfl gx31) rfl ?_;refine S Fv (S Ld (S Mv ?_));obtain⟨x32,gx32,hE⟩:=bO hE;refine S (ix strE s6_25 gx32) (S Ld ?_);refine sLenS (TK rfl) rfl rfl rfl rfl fun hL33=>?_;obtain⟨x34,gx34,hE⟩:=bO hE;refine s0 (addM rfl rfl gx34) rfl ?_
     refine S As (nil ?_);refine hK30 _ ?_;clear hK30 K30;refine region ?_;refine S Mv ?_;refine SI ?_;refine S As (nil ?_);exact hK23 _ (n23,x34,(s6_25+1)) wA hE (nS _)
    refine AWp.exit ?_;exact hK5 _ s5_24 wA hE
 rintro s5_6 hE;try dsimp only at hE
 unfold Z65_j5 at hE;refine seqJH kN (fun(z:Int)=>[(5,.a (.d (.int .i64 z)))]) (fun z=>H) (fun z=>Z65_j7 z=some r) ?_ ?_
 ·intro K7 hK7;refine seqR (S As (nil ?_));refine block ?_;refine loopH (TA 1 (TA 2 kN)) (fun(z:Nat×Int×Nat)=>[(5,.a (.d (.int .i64 z.2.1))),(7,.a (.d (.int .i64 ((z.2.2:Nat):Int))))]) (fun z=>H) (fun z=>z.1) (fun z=>Z65_l11 a0 a1 (Z65_n n) z.1 z.2.1 z.2.2=some r) ((a0.FItems.l.length+1),s5_6,0) hE wA ?_;rintro ⟨n11,s5_12,s7_13⟩ hE K11 hK11;try dsimp only at hE
  cases n11 with
  | zero=>cases hE
  | succ n11 =>
    rw [Z65_l11] at hE;refine seqK fun K14 hK14=>?_;refine seqR (S Mv (S Fv ?_));refine s0 (loadV (TK rfl) rfl rfl (congrArg (fun x=>some (A.d x)) (Z11.FItemsD_eq _))) rfl ?_;refine sLen (f:=Z11.c) (s:=a0.FItems) (TK rfl) rfl rfl rfl rfl fun hL16=>?_;refine S BI (S Mv (G0 Mv (G0 Mv ?_)));refine G2 39 40 rfl rfl BI ?_;refine S PA (nil ?_);refine cE hE (fun hc17 hE=>?_) (fun hc17 hE=>?_)
    ·try dsimp only at hc17
     have hf17:=oD (and_left hc17);refine sk hK14 ?_;clear hK14 K14;refine seqK fun K18 hK18=>?_;refine block ?_;refine region ?_;refine S Mv (S Fv ?_);refine s0 (loadV (TK rfl) rfl rfl (congrArg (fun x=>some (A.d x)) (Z11.FItemsD_eq _))) rfl ?_;refine S Mv ?_;obtain⟨x19,gx19,hE⟩:=bO hE;refine S (ix Z11.c s7_13 gx19) (S Ld (S Mv ?_));obtain⟨x20,gx20,hE⟩:=bO hE;refine Sc rfl rfl (ih_57 gx20) ?_
     obtain⟨x21,gx21,hE⟩:=bO hE;refine s0 (addM rfl rfl gx21) rfl ?_;refine S As (nil ?_);refine hK18 _ ?_;clear hK18 K18;refine region ?_;refine S Mv ?_;refine SI ?_;refine S As (nil ?_);exact hK11 _ (n11,x21,(s7_13+1)) wA hE (nS _)
    refine AWp.exit ?_;exact hK7 _ s5_12 wA hE
 rintro s5_8 hE;try dsimp only at hE
 unfold Z65_j7 at hE;refine seqR (S Mv (S As (nil ?_)));exact rt hE
theorem Z65_all:∀(n:Nat),(∀{a0:Z11}{a1 r:Int},Z65_n n a0 a1=some r->∀(H:Heap),AC Tryz.prog 57 [.agg (Z11.c a0),.d (.int .i64 a1)] H fun v h'=>v=.a (.d (.int .i64 r))/\h'=H)
 | 0=>fun hE=>by first|cases hE|(rw [Z65_n] at hE; cases hE)
 | n+1=>Z65_step n (Z65_all n)
def Z65 (a0:Z11) (a1:Int):Option Int:=Z65_n F0 a0 a1
theorem Z65_walk {a0:Z11}{a1 r:Int}(hE:Z65 a0 a1=some r) (H:Heap) :AC Tryz.prog 57 [.agg (Z11.c a0),.d (.int .i64 a1)] H fun v h'=>v=.a (.d (.int .i64 r))/\h'=H:=(Z65_all F0) hE H 
def Z42_j7  (s3_8:Int):Option Int:=some s3_8
def Z42_l11 (a0:Z8) (k_rec_23:Z8->Option Int):Nat->Int->Nat->Option Int
 | 0,_,_=>none
 | n11+1,s3_12,s5_13=>bif ((decide (((s5_13:Nat):Int)<((a0.FPicks.l.length:Nat):Int)))&&(decide (s3_12<=(300:Int)))) then((a0.FPicks.l[s5_13]?).bind fun x19=>(k_rec_23 x19).bind fun x20=>(addC s3_12 x20).bind fun x21=>(Z42_l11 a0 k_rec_23 n11) x21 (s5_13+1)) else(Z42_j7   s3_12)
def Z42_j5 (a0:Z8) (k_rec_23:Z8->Option Int) (s3_6:Int):Option Int:=Z42_l11 a0 k_rec_23 (a0.FPicks.l.length+1) s3_6 0
def Z42_l23 (a0:Z8) (k_rec_23:Z8->Option Int):Nat->Int->Nat->Option Int
 | 0,_,_=>none
 | n23+1,s3_24,s4_25=>bif ((decide (((s4_25:Nat):Int)<((a0.FArgs.l.length:Nat):Int)))&&(decide (s3_24<=(300:Int)))) then((addC s3_24 (1:Int)).bind fun x31=>(a0.FArgs.l[s4_25]?).bind fun x32=>(Z65 x32.FValue (300:Int)).bind fun x33=>(addC x31 x33).bind fun x34=>(Z42_l23 a0 k_rec_23 n23) x34 (s4_25+1)) else(Z42_j5 a0 k_rec_23 s3_24)
def Z42_n:Nat->Z8->Option Int
 | 0,_=>none
 | n+1,a0=>(addC (1:Int) ((a0.FType.FWraps.l.length:Nat):Int)).bind fun x4=>Z42_l23 a0 (Z42_n n) (a0.FArgs.l.length+1) x4 0
theorem Z42_step (n:Nat) (ih_23:∀{a0:Z8}{r:Int},Z42_n n a0=some r->∀(H:Heap),AC Tryz.prog 23 [.agg (Z8.c a0)] H fun v h'=>v=.a (.d (.int .i64 r))/\h'=H):∀{a0:Z8}{r:Int},Z42_n (n+1) a0=some r->∀(H:Heap),AC Tryz.prog 23 [.agg (Z8.c a0)] H fun v h'=>v=.a (.d (.int .i64 r))/\h'=H:=by
 intro a0   r hE H ;rw [Z42_n] at hE;refine AC.oW 52 [.tmp 2] Tryz.call23 Tryz.func23 ?_;refine seqR (S BX (S As (nil ?_)));refine seqR (S Fv (S Fv (S Ld ?_)));refine sLen (f:=(intE .i64)) (s:=a0.FType.FWraps) (TK rfl) rfl rfl rfl rfl fun hL3=>?_;obtain⟨x4,gx4,hE⟩:=bO hE;refine s0 (addM rfl rfl gx4) rfl ?_;refine S As (nil ?_);refine seqJH (TA 1 kN) (fun(z:Int)=>[(3,.a (.d (.int .i64 z)))]) (fun z=>H) (fun z=>Z42_j5 a0 (Z42_n n) z=some r) ?_ ?_
 ·intro K5 hK5;refine seqR (S As (nil ?_));refine block ?_;refine loopH (TA 1 kN) (fun(z:Nat×Int×Nat)=>[(3,.a (.d (.int .i64 z.2.1))),(4,.a (.d (.int .i64 ((z.2.2:Nat):Int))))]) (fun z=>H) (fun z=>z.1) (fun z=>Z42_l23 a0 (Z42_n n) z.1 z.2.1 z.2.2=some r) ((a0.FArgs.l.length+1),x4,0) hE wA ?_;rintro ⟨n23,s3_24,s4_25⟩ hE K23 hK23;try dsimp only at hE
  cases n23 with
  | zero=>cases hE
  | succ n23 =>
    rw [Z42_l23] at hE;refine seqK fun K26 hK26=>?_;refine seqR (S Mv (S Fv (S Ld ?_)));refine sLen (f:=TArg.c) (s:=a0.FArgs) (TK rfl) rfl rfl rfl rfl fun hL28=>?_;refine S BI (S Mv (G0 Mv ?_));refine G1 17 rfl BI ?_;refine S PA (nil ?_);refine cE hE (fun hc29 hE=>?_) (fun hc29 hE=>?_)
    ·try dsimp only at hc29
     have hf29:=oD (and_left hc29);refine sk hK26 ?_;clear hK26 K26;refine seqK fun K30 hK30=>?_;refine block ?_;refine region ?_;refine S Mv ?_;obtain⟨x31,gx31,hE⟩:=bO hE;refine s0 (addM rfl rfl gx31) rfl ?_;refine S Fv (S Ld (S Mv ?_));obtain⟨x32,gx32,hE⟩:=bO hE;refine S (ix TArg.c s4_25 gx32) (S Fv (S Ld ?_));obtain⟨x33,gx33,hE⟩:=bO hE;refine Sc rfl rfl (Z65_walk gx33) ?_;obtain⟨x34,gx34,hE⟩:=bO hE
     refine s0 (addM rfl rfl gx34) rfl ?_;refine S As (nil ?_);refine hK30 _ ?_;clear hK30 K30;refine region ?_;refine S Mv ?_;refine SI ?_;refine S As (nil ?_);exact hK23 _ (n23,x34,(s4_25+1)) wA hE (nS _)
    refine AWp.exit ?_;exact hK5 _ s3_24 wA hE
 rintro s3_6 hE;try dsimp only at hE
 unfold Z42_j5 at hE;refine seqJH kN (fun(z:Int)=>[(3,.a (.d (.int .i64 z)))]) (fun z=>H) (fun z=>Z42_j7 z=some r) ?_ ?_
 ·intro K7 hK7;refine seqR (S As (nil ?_));refine block ?_;refine loopH (TA 1 kN) (fun(z:Nat×Int×Nat)=>[(3,.a (.d (.int .i64 z.2.1))),(5,.a (.d (.int .i64 ((z.2.2:Nat):Int))))]) (fun z=>H) (fun z=>z.1) (fun z=>Z42_l11 a0 (Z42_n n) z.1 z.2.1 z.2.2=some r) ((a0.FPicks.l.length+1),s3_6,0) hE wA ?_;rintro ⟨n11,s3_12,s5_13⟩ hE K11 hK11;try dsimp only at hE
  cases n11 with
  | zero=>cases hE
  | succ n11 =>
    rw [Z42_l11] at hE;refine seqK fun K14 hK14=>?_;refine seqR (S Mv (S Fv ?_));refine s0 (loadV (TK rfl) rfl rfl (congrArg (fun x=>some (A.d x)) (Z8.FPicksD_eq _))) rfl ?_;refine sLen (f:=Z8.c) (s:=a0.FPicks) (TK rfl) rfl rfl rfl rfl fun hL16=>?_;refine S BI (S Mv (G0 Mv ?_));refine G1 38 rfl BI ?_;refine S PA (nil ?_);refine cE hE (fun hc17 hE=>?_) (fun hc17 hE=>?_)
    ·try dsimp only at hc17
     have hf17:=oD (and_left hc17);refine sk hK14 ?_;clear hK14 K14;refine seqK fun K18 hK18=>?_;refine block ?_;refine region ?_;refine S Mv (S Fv ?_);refine s0 (loadV (TK rfl) rfl rfl (congrArg (fun x=>some (A.d x)) (Z8.FPicksD_eq _))) rfl ?_;refine S Mv ?_;obtain⟨x19,gx19,hE⟩:=bO hE;refine S (ix Z8.c s5_13 gx19) (S Ld ?_);obtain⟨x20,gx20,hE⟩:=bO hE;refine Sc rfl rfl (ih_23 gx20) ?_
     obtain⟨x21,gx21,hE⟩:=bO hE;refine s0 (addM rfl rfl gx21) rfl ?_;refine S As (nil ?_);refine hK18 _ ?_;clear hK18 K18;refine region ?_;refine S Mv ?_;refine SI ?_;refine S As (nil ?_);exact hK11 _ (n11,x21,(s5_13+1)) wA hE (nS _)
    refine AWp.exit ?_;exact hK7 _ s3_12 wA hE
 rintro s3_8 hE;try dsimp only at hE
 unfold Z42_j7 at hE;refine seqR (S Mv (S As (nil ?_)));exact rt hE
theorem Z42_all:∀(n:Nat),(∀{a0:Z8}{r:Int},Z42_n n a0=some r->∀(H:Heap),AC Tryz.prog 23 [.agg (Z8.c a0)] H fun v h'=>v=.a (.d (.int .i64 r))/\h'=H)
 | 0=>fun hE=>by first|cases hE|(rw [Z42_n] at hE; cases hE)
 | n+1=>Z42_step n (Z42_all n)
def Z42 (a0:Z8):Option Int:=Z42_n F0 a0
theorem Z42_walk {a0:Z8}{r:Int}(hE:Z42 a0=some r) (H:Heap) :AC Tryz.prog 23 [.agg (Z8.c a0)] H fun v h'=>v=.a (.d (.int .i64 r))/\h'=H:=(Z42_all F0) hE H 
def Z41_j3  (s3_4:Int):Option Bool:=some (decide ((300:Int)<s3_4))
def Z41_l7 (a0:(Sl Z8)) :Nat->Int->Nat->Option Bool
 | 0,_,_=>none
 | n7+1,s3_8,s4_9=>bif ((decide (((s4_9:Nat):Int)<((a0.l.length:Nat):Int)))&&(decide (s3_8<=(300:Int)))) then((a0.l[s4_9]?).bind fun x15=>(Z42 x15).bind fun x16=>(addC s3_8 x16).bind fun x17=>(Z41_l7 a0 n7) x17 (s4_9+1)) else(Z41_j3   s3_8)
def Z41 (a0:(Sl Z8)):Option Bool:=Z41_l7 a0 (a0.l.length+1) (0:Int) 0
theorem Z41_walk {a0:Sl Z8}{w0:Option Nat}{r:Bool}(hE:Z41 a0=some r) (H:Heap) :AC Tryz.prog 7 [.d (Sl.d 9 Z8.c w0 a0)] H fun v h'=>v=.a (.d (.bool r))/\h'=H:=by
 unfold Z41 at hE;refine AC.oW 24 [.tmp 2] Tryz.call7 Tryz.func7 ?_;refine seqR (S As (nil ?_));refine seqR (S As (nil ?_));refine seqJH kN (fun(z:Int)=>[(3,.a (.d (.int .i64 z)))]) (fun z=>H) (fun z=>Z41_j3 z=some r) ?_ ?_
 ·intro K3 hK3;refine seqR (S As (nil ?_));refine block ?_;refine loopH (TA 0 kN) (fun(z:Nat×Int×Nat)=>[(3,.a (.d (.int .i64 z.2.1))),(4,.a (.d (.int .i64 ((z.2.2:Nat):Int))))]) (fun z=>H) (fun z=>z.1) (fun z=>Z41_l7 a0 z.1 z.2.1 z.2.2=some r) ((a0.l.length+1),(0:Int),0) hE wA ?_;rintro ⟨n7,s3_8,s4_9⟩ hE K7 hK7;try dsimp only at hE
  cases n7 with
  | zero=>cases hE
  | succ n7 =>
    rw [Z41_l7] at hE;refine seqK fun K10 hK10=>?_;refine seqR (S Mv (S Mv ?_));refine sLen (f:=Z8.c) (s:=a0) (TK rfl) rfl rfl rfl rfl fun hL12=>?_;refine S BI (S Mv (G0 Mv ?_));refine G1 10 rfl BI ?_;refine S PA (nil ?_);refine cE hE (fun hc13 hE=>?_) (fun hc13 hE=>?_)
    ·try dsimp only at hc13
     have hf13:=oD (and_left hc13);refine sk hK10 ?_;clear hK10 K10;refine seqK fun K14 hK14=>?_;refine block ?_;refine region ?_;refine S Mv (S Mv (S Mv ?_));obtain⟨x15,gx15,hE⟩:=bO hE;refine S (ix Z8.c s4_9 gx15) (S Ld ?_);obtain⟨x16,gx16,hE⟩:=bO hE;refine Sc rfl rfl (Z42_walk gx16) ?_;obtain⟨x17,gx17,hE⟩:=bO hE;refine s0 (addM rfl rfl gx17) rfl ?_;refine S As (nil ?_);refine hK14 _ ?_
     clear hK14 K14;refine region ?_;refine S Mv ?_;refine SI ?_;refine S As (nil ?_);exact hK7 _ (n7,x17,(s4_9+1)) wA hE (nS _)
    refine AWp.exit ?_;exact hK3 _ s3_8 wA hE
 rintro s3_4 hE;try dsimp only at hE
 unfold Z41_j3 at hE;refine seqR (S Mv (S BI (S As (nil ?_))));exact rt hE
def Z83 (a0:Int):Option Bs:=bif (decide (a0=(1:Int))) then(some ([81,117,101,114,121]:Bs)) else(bif (decide (a0=(2:Int))) then(some ([77,117,116,97,116,105,111,110]:Bs)) else(bif (decide (a0=(3:Int))) then(some ([83,117,98,115,99,114,105,112,116,105,111,110]:Bs)) else(some ([]:Bs))))
theorem Z83_walk {a0:Int}{r:Bs}(hE:Z83 a0=some r) (H:Heap) :AC Tryz.prog 26 [.d (.int .i64 a0)] H fun v h'=>v=.a (.d (.str r))/\h'=H:=by
 unfold Z83 at hE;refine AC.oW 10 [.tmp 2] Tryz.call26 Tryz.func26 ?_;refine seqR (S As (nil ?_));refine seqK fun K2 hK2=>?_;refine seqR (S Mv (nil ?_));refine block ?_;refine seqR (S BI (S As (nil ?_)));refine cE hE (fun hc5 hE=>?_) (fun hc5 hE=>?_)
 ·refine seqR (S As (nil ?_));exact rt hE
 refine seqR (S BI (S As (nil ?_)));refine cE hE (fun hc8 hE=>?_) (fun hc8 hE=>?_)
 ·refine seqR (S As (nil ?_));exact rt hE
 refine seqR (S BI (S As (nil ?_)));refine cE hE (fun hc11 hE=>?_) (fun hc11 hE=>?_)
 ·refine seqR (S As (nil ?_));exact rt hE
 refine sk hK2 ?_;clear hK2 K2;refine seqR (S As (nil ?_));exact rt hE
def Z79_j2  (y3_l0:TDef):Option (TDef×Bool):=some ((TDef.mk (0:Int) ([]:Bs) (Sl.nil:Sl Bs) (Sl.nil:Sl TDir) (Sl.nil:Sl Z4) (Sl.nil:Sl Z7) (Sl.nil:Sl Z6)),false)
def Z79_l7 (a0:TDoc) (a1:Bs) :Nat->Nat->TDef->Option (TDef×Bool)
 | 0,_,_=>none
 | n7+1,s11_8,y9_l0=>bif (decide (((s11_8:Nat):Int)<((a0.FDefs.l.length:Nat):Int))) then((a0.FDefs.l[s11_8]?).bind fun x15=>bif ((x15.FName==a1)) then(some (x15,true)) else((Z79_l7 a0 a1 n7) (s11_8+1) y9_l0)) else(Z79_j2   y9_l0)
def Z79 (a0:TDoc) (a1:Bs):Option (TDef×Bool):=Z79_l7 a0 a1 (a0.FDefs.l.length+1) 0 TDef.zero
theorem Z79_walk {a0:TDoc}{a1:Bs}{r:TDef×Bool}(hE:Z79 a0 a1=some r) (H:Heap) :AC Tryz.prog 27 [.agg (TDoc.c a0),.d (.str a1)] H fun v h'=>v=.tup [.agg (TDef.c r.1),.d (.bool r.2)]/\h'=H:=by
 unfold Z79 at hE;refine AC.oW 22 [.cell 4 68,.tmp 5] Tryz.call27 Tryz.func27 ?_;refine seqR (S BX ?_);refine Sl ?_;refine S As (nil ?_);refine seqJ (TA 4 kN) (fun(z:TDef)=>[]) (fun z=>[TDef.c z]) (fun z=>H) (fun z=>Z79_j2 z=some r) ?_ ?_
 ·intro K2 hK2;refine seqR (S Fv (S Ld ?_));refine sLen (f:=TDef.c) (s:=a0.FDefs) (TK rfl) rfl rfl rfl rfl fun hL6=>?_;refine S Mv (nil ?_);refine block ?_;refine loopO (TA 1 (TA 4 (TA 9 (TA 10 kN)))) (fun(z:Nat×Nat×TDef)=>[(11,.a (.d (.int .i64 ((z.2.1:Nat):Int))))]) (fun z=>[TDef.c z.2.2]) (fun z=>H) (fun z=>z.1) (fun z=>Z79_l7 a0 a1 z.1 z.2.1 z.2.2=some r) ((a0.FDefs.l.length+1),0,TDef.zero) hE wA ?_
  rintro ⟨n7,s11_8,y9_l0⟩ hE K7 hK7;try dsimp only at hE
  cases n7 with
  | zero=>cases hE
  | succ n7 =>
    rw [Z79_l7] at hE;refine seqR (S BI (nil ?_));refine seqK fun K11 hK11=>?_;refine cE hE (fun hc12 hE=>?_) (fun hc12 hE=>?_)
    ·try dsimp only at hc12
     have hf12:=oD hc12;refine sk hK11 ?_;clear hK11 K11;refine seqK fun K13 hK13=>?_;refine block ?_;refine seqR ?_;obtain⟨x15,gx15,hE⟩:=bO hE;refine S (ix TDef.c s11_8 gx15) (S Ld ?_);refine Sl ?_;refine Sf ?_;refine nil ?_;refine freezeA 7 _ rfl (KA 1 (KA 4 (KA 9 (KA 10 (KA 11 Keeps.nil))))) ?_;refine seqR (S Fv (S Ld (S Mv (S BS (nil ?_)))));refine cE hE (fun hc17 hE=>?_) (fun hc17 hE=>?_)
     ·refine seqR (S Ld ?_);refine Sf ?_;refine S As (nil ?_);exact rt hE
     refine sk hK13 ?_;clear hK13 K13;refine region ?_;refine SI ?_;refine S Mv (nil ?_);exact hK7 _ (n7,(s11_8+1),y9_l0) wA hE (nS _)
    refine AWp.exit ?_;exact hK2 _ y9_l0 wA hE
 rintro y3_l0 hE;try dsimp only at hE
 unfold Z79_j2 at hE;refine seqR (S BU ?_);refine Sf ?_;refine S As (nil ?_);exact rt hE
def Z103_j2  :Option Int:=some (-1:Int)
def Z103_l6 (a0:(Sl Bs)) (a1:Bs) :Nat->Nat->Option Int
 | 0,_=>none
 | n6+1,s8_7=>bif (decide (((s8_7:Nat):Int)<((a0.l.length:Nat):Int))) then((a0.l[s8_7]?).bind fun x14=>bif ((a1==x14)) then(some ((s8_7:Nat):Int)) else((Z103_l6 a0 a1 n6) (s8_7+1))) else(Z103_j2   )
def Z103 (a0:(Sl Bs)) (a1:Bs):Option Int:=Z103_l6 a0 a1 (a0.l.length+1) 0
theorem Z103_walk {a0:Sl Bs}{a1:Bs}{w0:Option Nat}{r:Int}(hE:Z103 a0 a1=some r) (H:Heap) :AC Tryz.prog 62 [.d (Sl.d 1 strE w0 a0),.d (.str a1)] H fun v h'=>v=.a (.d (.int .i64 r))/\h'=H:=by
 unfold Z103 at hE;refine AC.oW 19 [.tmp 4] Tryz.call62 Tryz.func62 ?_;refine seqR (S As (nil ?_));refine seqJH kN (fun(z:Unit)=>[]) (fun z=>H) (fun z=>Z103_j2 =some r) ?_ ?_
 ·intro K2 hK2;refine seqR (S Mv ?_);refine sLen (f:=strE) (s:=a0) (TK rfl) rfl rfl rfl rfl fun hL5=>?_;refine S Mv (nil ?_);refine block ?_;refine loopH (TA 0 (TA 1 (TA 7 kN))) (fun(z:Nat×Nat)=>[(8,.a (.d (.int .i64 ((z.2:Nat):Int))))]) (fun z=>H) (fun z=>z.1) (fun z=>Z103_l6 a0 a1 z.1 z.2=some r) ((a0.l.length+1),0) hE wA ?_;rintro ⟨n6,s8_7⟩ hE K6 hK6;try dsimp only at hE
  cases n6 with
  | zero=>cases hE
  | succ n6 =>
    rw [Z103_l6] at hE;refine seqR (S BI (nil ?_));refine seqK fun K9 hK9=>?_;refine cE hE (fun hc10 hE=>?_) (fun hc10 hE=>?_)
    ·try dsimp only at hc10
     have hf10:=oD hc10;refine sk hK9 ?_;clear hK9 K9;refine seqK fun K11 hK11=>?_;refine block ?_;refine seqR (S Mv (S As (nil ?_)));refine seqR (S Mv (S Mv (S Mv ?_)));obtain⟨x14,gx14,hE⟩:=bO hE;refine S (ix strE s8_7 gx14) (S Ld (S BS (nil ?_)));refine cE hE (fun hc15 hE=>?_) (fun hc15 hE=>?_)
     ·refine seqR (S Mv (S As (nil ?_)));exact rt hE
     refine sk hK11 ?_;clear hK11 K11;refine region ?_;refine SI ?_;refine S Mv (nil ?_);exact hK6 _ (n6,(s8_7+1)) wA hE (nS _)
    refine AWp.exit ?_;exact hK2 _ () wA hE
 rintro _ hE;try dsimp only at hE
 unfold Z103_j2 at hE;refine seqR (S As (nil ?_));exact rt hE
def Z93 (a0:(Sl Bs)) (a1:Bs):Option Bool:=(Z103 a0 a1).bind fun x3=>some (decide ((0:Int)<=x3))
theorem Z93_walk {a0:Sl Bs}{a1:Bs}{w0:Option Nat}{r:Bool}(hE:Z93 a0 a1=some r) (H:Heap) :AC Tryz.prog 164 [.d (Sl.d 1 strE w0 a0),.d (.str a1)] H fun v h'=>v=.a (.d (.bool r))/\h'=H:=by
 unfold Z93 at hE;refine AC.oW 9 [.tmp 4] Tryz.call164 Tryz.func164 ?_;refine seqR (S As (nil ?_));refine seqR (S Mv (S Mv ?_));obtain⟨x3,gx3,hE⟩:=bO hE;refine Sc rfl rfl (Z103_walk gx3) ?_;refine S BI (S As (nil ?_));exact rt hE
def Z13 (a0:TDef) (a1:Bs):Option Bool:=(Z93 a0.FImplements a1).bind fun x3=>some x3
theorem Z13_walk {a0:TDef}{a1:Bs}{r:Bool}(hE:Z13 a0 a1=some r) (H:Heap) :AC Tryz.prog 105 [.agg (TDef.c a0),.d (.str a1)] H fun v h'=>v=.a (.d (.bool r))/\h'=H:=by
 unfold Z13 at hE;refine AC.oW 9 [.tmp 4] Tryz.call105 Tryz.func105 ?_;refine seqR (S BX (S As (nil ?_)));refine seqR (S Fv (S Ld (S Mv ?_)));obtain⟨x3,gx3,hE⟩:=bO hE;refine Sc rfl rfl (Z93_walk gx3) ?_;refine S As (nil ?_);exact rt hE
end Go.Proofs

namespace Go.Proofs
open Go Go.Ab
open AOps Cert AWp Keeps KeepsT
variable {lou:Lou}
def Z12_j11  (s15_12:(Sl Bs)) (y13_id24_5:(List Bs)):Option (Sl Bs):=some s15_12
def Z12_j24 (s95_19:Nat) (k_next_17:(Sl Bs)->Nat->(List Bs)->Option (Sl Bs)) (s15_25:(Sl Bs)) (y26_id24_5:(List Bs)):Option (Sl Bs):=k_next_17 s15_25 (s95_19+1) y26_id24_5
def Z12_l17 (a0:TDoc) :Nat->(Sl Bs)->Nat->(List Bs)->Option (Sl Bs)
 | 0,_,_,_=>none
 | n17+1,s15_18,s95_19,y20_id24_5=>bif (decide (((s95_19:Nat):Int)<((a0.FDefs.l.length:Nat):Int))) then((a0.FDefs.l[s95_19]?).bind fun x28=>bif (y20_id24_5.contains x28.FName) then((appC 16 s15_18 (⟨false,[x28.FName]⟩:Sl Bs)).bind fun x32=>Z12_j24 s95_19 ((Z12_l17 a0 n17)) x32 (List.erase y20_id24_5 x28.FName)) else(Z12_j24 s95_19 ((Z12_l17 a0 n17)) s15_18 y20_id24_5)) else(Z12_j11   s15_18 y20_id24_5)
def Z12_j8 (a0:TDoc)  (y9_id24_5:(List Bs)):Option (Sl Bs):=Z12_l17 a0 (a0.FDefs.l.length+1) (Sl.nil:Sl Bs) 0 y9_id24_5
def Z12_k36 (a0:TDoc) (a1:Bs) (x3:(TDef×Bool))  (s_36:Bs):Option Bool:=(Z79 a0 s_36).bind fun x39=>guardO ((!((!x39.2)||(!decide (x39.1.FKind=(1:Int))))&&(decide (x3.1.FKind=(2:Int))))) (Z13 x39.1 a1) false fun x41=>bif (((!x39.2)||(!decide (x39.1.FKind=(1:Int))))||((decide (x3.1.FKind=(2:Int)))&&(!x41))) then(some false) else(some true)
def Z12_j6 (a0:TDoc) (a1:Bs) (x3:(TDef×Bool))  (y7_id24_5:(List Bs)):Option (Sl Bs):=Option.bind (filtO (Z12_k36 a0 a1 x3) y7_id24_5) fun l_36=>Z12_j8 a0  l_36
def Z12_j56 (s36_51:Nat) (k_next_50:Nat->(List Bs)->Option (Sl Bs)) (y57_id24_5:(List Bs)):Option (Sl Bs):=k_next_50 (s36_51+1) y57_id24_5
def Z12_l50 (a0:TDoc) (a1:Bs) (x3:(TDef×Bool)) :Nat->Nat->(List Bs)->Option (Sl Bs)
 | 0,_,_=>none
 | n50+1,s36_51,y52_id24_5=>bif (decide (((s36_51:Nat):Int)<((a0.FDefs.l.length:Nat):Int))) then((a0.FDefs.l[s36_51]?).bind fun x59=>(Z13 x59 a1).bind fun x61=>bif x61 then(Z12_j56 s36_51 ((Z12_l50 a0 a1 x3 n50)) (insS y52_id24_5 x59.FName)) else(Z12_j56 s36_51 ((Z12_l50 a0 a1 x3 n50)) y52_id24_5)) else(Z12_j6 a0 a1 x3  y52_id24_5)
def Z12_l67 (a0:TDoc) (a1:Bs) (x3:(TDef×Bool)) :Nat->Nat->(List Bs)->Option (Sl Bs)
 | 0,_,_=>none
 | n67+1,s52_68,y69_id24_5=>bif (decide (((s52_68:Nat):Int)<((x3.1.FMembers.l.length:Nat):Int))) then((x3.1.FMembers.l[s52_68]?).bind fun x75=>(Z12_l67 a0 a1 x3 n67) (s52_68+1) (insS y69_id24_5 x75.FName)) else(Z12_j6 a0 a1 x3  y69_id24_5)
def Z12 (a0:TDoc) (a1:Bs):Option (Sl Bs):=(Z79 a0 a1).bind fun x3=>bif (decide (x3.1.FKind=(1:Int))) then(Z12_j6 a0 a1 x3  (insS ([]:List Bs) a1)) else(bif (decide (x3.1.FKind=(2:Int))) then(Z12_l50 a0 a1 x3 (a0.FDefs.l.length+1) 0 ([]:List Bs)) else(bif (decide (x3.1.FKind=(3:Int))) then(Z12_l67 a0 a1 x3 (x3.1.FMembers.l.length+1) 0 ([]:List Bs)) else(Z12_j6 a0 a1 x3  ([]:List Bs))))
theorem Z12_walk {a0:TDoc}{a1:Bs}{r:Sl Bs}(hE:Z12 a0 a1=some r) (H:Heap) :AC Tryz.prog 61 [.agg (TDoc.c a0),.d (.str a1)] H fun v h'=>v=.a (.d (Sl.d 1 strE none r))/\h'=H:=by
 unfold Z12 at hE;refine AC.oW 113 [.tmp 4] Tryz.call61 Tryz.func61 ?_;refine AWp.tok 1 fun tk1 htk1=>?_;refine seqR (S BX ?_);refine s0 (assignNil (k':=1) rfl) rfl ?_;refine nil ?_;refine seqR (S Ld (S Mv ?_));obtain⟨x3,gx3,hE⟩:=bO hE;refine Sc rfl rfl (Z79_walk gx3) ?_;refine S Mv (S EX (S EX ?_));refine Sl ?_;refine Sf ?_;refine S As (nil ?_);refine freezeA 5 _ rfl (KA 1 (KA 2 Keeps.nil)) ?_
 refine seqR ?_;refine sE StepE.makeMap rfl (fun _ _ _ ⟨id24_5,hid24_5,e1,e2,e3⟩=>?_); subst e1 e2 e3;obtain⟨ne_id24_5_tk1,hid24_5⟩:=Heap.set_fresh hid24_5;refine hq ((H.set tk1 (some (.tok 1 0))).set id24_5 (some (.map (seenM ([]:List Bs))))) ?_;refine S As (nil ?_);refine seqJH (TA 1 (TA 2 (TA 5 (TA 7 kN)))) (fun(z:(List Bs))=>[]) (fun z=>((H.set tk1 (some (.tok 1 0))).set id24_5 (some (.map (seenM z))))) (fun z=>Z12_j6 a0 a1 x3 z=some r) ?_ ?_
 ·intro K6 hK6;refine seqR (S Fv (S Ld (nil ?_)));refine block ?_;refine seqR (S BI (S As (nil ?_)));refine cE hE (fun hc45 hE=>?_) (fun hc45 hE=>?_)
  ·refine region ?_;refine S Mv (S Mv ?_);refine sHn (mapUpdate (TK rfl) rfl (TK rfl) rfl rfl rfl rfl hpG (seen_upd _ _) rfl) rfl rfl ?_;refine hq ((H.set tk1 (some (.tok 1 0))).set id24_5 (some (.map (seenM (insS ([]:List Bs) a1))))) ?_;refine nil ?_;exact hK6 _ (insS ([]:List Bs) a1) wA hE
  refine seqR (S BI (S As (nil ?_)));refine cE hE (fun hc47 hE=>?_) (fun hc47 hE=>?_)
  ·refine seqR (S Fv (S Ld ?_));refine sLen (f:=TDef.c) (s:=a0.FDefs) (TK rfl) rfl rfl rfl rfl fun hL49=>?_;refine S Mv (nil ?_);refine block ?_;refine loopH (TA 1 (TA 2 (TA 5 (TA 7 (TA 34 (TA 35 kN)))))) (fun(z:Nat×Nat×(List Bs))=>[(36,.a (.d (.int .i64 ((z.2.1:Nat):Int))))]) (fun z=>((H.set tk1 (some (.tok 1 0))).set id24_5 (some (.map (seenM z.2.2))))) (fun z=>z.1) (fun z=>Z12_l50 a0 a1 x3 z.1 z.2.1 z.2.2=some r) ((a0.FDefs.l.length+1),0,([]:List Bs)) hE wA ?_
   rintro ⟨n50,s36_51,y52_id24_5⟩ hE K50 hK50;try dsimp only at hE
   cases n50 with
   | zero=>cases hE
   | succ n50 =>
     rw [Z12_l50] at hE;refine seqR (S BI (nil ?_));refine seqK fun K54 hK54=>?_;refine cE hE (fun hc55 hE=>?_) (fun hc55 hE=>?_)
     ·try dsimp only at hc55
      have hf55:=oD hc55;refine sk hK54 ?_;clear hK54 K54;refine seqJH (TA 1 (TA 2 (TA 5 (TA 7 (TA 34 (TA 35 (TA 36 kN))))))) (fun(z:(List Bs))=>[]) (fun z=>((H.set tk1 (some (.tok 1 0))).set id24_5 (some (.map (seenM z))))) (fun z=>Z12_j56 s36_51 ((Z12_l50 a0 a1 x3 n50)) z=some r) ?_ ?_
      ·intro K56 hK56;refine block ?_;refine seqR ?_;obtain⟨x59,gx59,hE⟩:=bO hE;refine S (ix TDef.c s36_51 gx59) (S Ld ?_);refine Sl ?_;refine Sf ?_;refine nil ?_;refine freezeA 9 _ rfl (KA 1 (KA 2 (KA 5 (KA 7 (KA 34 (KA 35 (KA 36 Keeps.nil))))))) ?_;refine seqR (S Ld (S Mv ?_));obtain⟨x61,gx61,hE⟩:=bO hE;refine Sc rfl rfl (Z13_walk gx61) ?_;refine nil ?_;refine cE hE (fun hc62 hE=>?_) (fun hc62 hE=>?_)
       ·refine region ?_;refine S Mv (S Fv (S Ld ?_));refine sHn (mapUpdate (TK rfl) rfl (TK rfl) rfl rfl rfl rfl hpG (seen_upd _ _) rfl) rfl rfl ?_;refine hq ((H.set tk1 (some (.tok 1 0))).set id24_5 (some (.map (seenM (insS y52_id24_5 x59.FName))))) ?_;refine nil ?_;exact hK56 _ (insS y52_id24_5 x59.FName) wA hE
       refine AWp.skip ?_;exact hK56 _ y52_id24_5 wA hE
      rintro y57_id24_5 hE;try dsimp only at hE
      unfold Z12_j56 at hE;refine region ?_;refine SI ?_;refine S Mv (nil ?_);exact hK50 _ (n50,(s36_51+1),y57_id24_5) wA hE (nS _)
     refine AWp.exit ?_;exact hK6 _ y52_id24_5 wA hE
  refine seqR (S BI (S As (nil ?_)));refine cE hE (fun hc64 hE=>?_) (fun hc64 hE=>?_)
  ·refine seqR (S Fv (S Ld ?_));refine sLen (f:=Z7.c) (s:=x3.1.FMembers) (TK rfl) rfl rfl rfl rfl fun hL66=>?_;refine S Mv (nil ?_);refine block ?_;refine loopH (TA 1 (TA 2 (TA 5 (TA 7 (TA 50 (TA 51 kN)))))) (fun(z:Nat×Nat×(List Bs))=>[(52,.a (.d (.int .i64 ((z.2.1:Nat):Int))))]) (fun z=>((H.set tk1 (some (.tok 1 0))).set id24_5 (some (.map (seenM z.2.2))))) (fun z=>z.1) (fun z=>Z12_l67 a0 a1 x3 z.1 z.2.1 z.2.2=some r) ((x3.1.FMembers.l.length+1),0,([]:List Bs)) hE wA ?_
   rintro ⟨n67,s52_68,y69_id24_5⟩ hE K67 hK67;try dsimp only at hE
   cases n67 with
   | zero=>cases hE
   | succ n67 =>
     rw [Z12_l67] at hE;refine seqR (S BI (nil ?_));refine seqK fun K71 hK71=>?_;refine cE hE (fun hc72 hE=>?_) (fun hc72 hE=>?_)
     ·try dsimp only at hc72
      have hf72:=oD hc72;refine sk hK71 ?_;clear hK71 K71;refine seqK fun K73 hK73=>?_;refine block ?_;refine seqR ?_;obtain⟨x75,gx75,hE⟩:=bO hE;refine S (ix Z7.c s52_68 gx75) (S Ld ?_);refine Sl ?_;refine Sf ?_;refine nil ?_;refine freezeA 11 _ rfl (KA 1 (KA 2 (KA 5 (KA 7 (KA 50 (KA 51 (KA 52 Keeps.nil))))))) ?_;refine region ?_;refine S Mv (S Fv (S Ld ?_));refine sHn (mapUpdate (TK rfl) rfl (TK rfl) rfl rfl rfl rfl hpG (seen_upd _ _) rfl) rfl rfl ?_
      refine hq ((H.set tk1 (some (.tok 1 0))).set id24_5 (some (.map (seenM (insS y69_id24_5 x75.FName))))) ?_;refine nil ?_;refine hK73 _ ?_;clear hK73 K73;refine region ?_;refine SI ?_;refine S Mv (nil ?_);exact hK67 _ (n67,(s52_68+1),(insS y69_id24_5 x75.FName)) wA hE (nS _)
     refine AWp.exit ?_;exact hK6 _ y69_id24_5 wA hE
  refine AWp.skip ?_;exact hK6 _ ([]:List Bs) wA hE
 rintro y7_id24_5 hE;try dsimp only at hE
 unfold Z12_j6 at hE;refine seqJH (TA 2 (TA 7 kN)) (fun(z:(List Bs))=>[]) (fun z=>((H.set tk1 (some (.tok 1 0))).set id24_5 (some (.map (seenM z))))) (fun z=>Z12_j8 a0 z=some r) ?_ ?_
 ·intro K8 hK8;refine seqK fun K33 hK33=>?_;refine AWp.exMap id24_5 (l:=y7_id24_5) hpG fun b34 p34 ck34 hp34=>?_;refine AWp.heqA (h':=((H.set tk1 (some (.tok 1 0))).set id24_5 (some (.fixt b34 (.map (mE p34).toArray ck34))))) (by first|rfl|(rw [Heap.set_set]; rfl)|(funext n_; simp only [Heap.set]; (repeat' split)<;>first|rfl|(exfalso; simp_all; done)|(simp_all; done))) ?_;refine region ?_;refine S Mv ?_
  refine sE (StepE.rangeM (TK rfl) rfl rfl hpG) rfl ?_;rintro _ _ _ ⟨it61_35,rit61_35,hit61_35,rfl,rfl,rfl⟩;obtain⟨ne_it61_35_id24_5,hit61_35⟩:=Heap.set_fresh hit61_35;obtain⟨ne_it61_35_tk1,hit61_35⟩:=Heap.set_fresh hit61_35;refine hq (((H.set tk1 (some (.tok 1 0))).set id24_5 (some (.fixt b34 (.map (mE p34).toArray ck34)))).set it61_35 (some (.fixt rit61_35 (.mapIter (some b34) ck34 (#[]) ck34)))) ?_
  refine nil ?_;refine hK33 _ ?_;clear hK33 K33;refine block ?_;obtain⟨l_36,gl_36,hE⟩:=bO hE;refine loopH (TA 1 (TA 2 (TA 5 (TA 7 (TA 61 kN))))) (fun(z:List (Bs×Nat)×Array Nat)=>[]) (fun z=>(((H.set tk1 (some (.tok 1 0))).set id24_5 (some (.fixt b34 (.map (mE z.1).toArray ck34)))).set it61_35 (some (.fixt rit61_35 (.mapIter (some b34) ck34 z.2 ck34))))) (fun z=>(leftP z.1 z.2).length) (fun z=>RInv (Z12_k36 a0 a1 x3) l_36 ck34 z) (p34,#[]) (RInv.start gl_36 hp34) wA ?_
  rintro ⟨p_36,sn_36⟩ hI K36 hK36;try dsimp only at hI
  refine seqK fun Ka36 hKa36=>?_;refine region ?_;refine sE (StepE.nextM (id:=id24_5) rfl hpG hpG hI.pop.lt (fun x hx=>hI.pop.len _ (List.mem_map_of_mem hx))) rfl ?_;rintro _ _ _ ⟨rfl,⟨hl0,rfl,rfl⟩|⟨s_36,n_36,hx_,rfl,rfl⟩⟩
  ·refine S EX (nil ?_);refine hKa36 _ ?_;refine seqK fun Kb36 hKb36=>?_;refine AWp.mapEx id24_5 hpG hI.pop ?_;rw [hI.done hl0];refine AWp.heqA (h':=(((H.set tk1 (some (.tok 1 0))).set id24_5 (some (.map (seenM l_36)))).set it61_35 (some (.fixt rit61_35 (.mapIter (some b34) ck34 sn_36 ck34))))) (by first|rfl|(rw [Heap.set_set]; rfl)|(funext n_; simp only [Heap.set]; (repeat' split)<;>first|rfl|(exfalso; simp_all; done)|(simp_all; done))) ?_
   refine AWp.cond rfl (fun h_=>by cases h_) fun _=>?_;refine AWp.exit ?_;exact hK8 _ l_36 (Weak.toFA (by(intro id_ o_ he_); (have e_it61_35:id_≠it61_35:=fun e_=>by rw [e_] at he_; simp [Heap.set,hit61_35,ne_it61_35_tk1,ne_it61_35_id24_5] at he_); (rw [<- he_]); (simp only [Heap.set,if_neg e_it61_35]); (first|done|rfl))) hE
  obtain⟨r,hb_⟩:=hI.told _ (leftP_mem hx_).1;have hE:=hb_;simp only at hE;unfold Z12_k36 at hE;refine hq (((H.set tk1 (some (.tok 1 0))).set id24_5 (some (.fixt b34 (.map (mE p_36).toArray ck34)))).set it61_35 (some (.fixt rit61_35 (.mapIter (some b34) ck34 (sn_36.push n_36) ck34)))) ?_;refine S EX (nil ?_);refine hKa36 _ ?_;refine seqK fun Kb36 hKb36=>?_;refine AWp.cond rfl (fun _=>?_) (fun h_=>by cases h_)
  refine AWp.skip ?_;refine hKb36 _ ?_;refine block ?_;refine seqR ?_;refine s0 (entryM (id:=id24_5) rfl hpG hpG (leftP_mem hx_).1 hI.pop.nodup (hI.pop.len _ (List.mem_map_of_mem (leftP_mem hx_).1))) rfl ?_;refine S EX (S As (nil ?_));refine seqR (S Ld (S Mv ?_));obtain⟨x39,gx39,hE⟩:=bO hE;refine Sc rfl rfl (Z79_walk gx39) ?_;refine S Mv (S EX (S EX ?_));refine Sl ?_;refine Sf ?_;refine S As (nil ?_)
  refine freezeA 13 _ rfl (KA 1 (KA 2 (KA 5 (KA 7 (KA 12 (KA 14 (KA 61 Keeps.nil))))))) ?_;refine seqR (S Mv (S NB (S Mv (G0 Fv ?_))));refine G1 75 rfl Ld ?_;refine G1 76 rfl BI ?_;refine S PO (S Mv (G0 Fv ?_));refine G1 80 rfl Ld ?_;refine G1 81 rfl BI ?_;refine G1 82 rfl Mv ?_;refine G0 Ld (G0 Mv ?_);obtain⟨x41,gx41,hE⟩:=gO hE;refine Gc2 84 85 rfl rfl rfl rfl rfl rfl (fun hC=>Z13_walk (gx41 hC)) ?_
  refine G1 86 rfl NB ?_;refine gC rfl rfl (fun hC=>ungdA (k:=83) rfl (pickAndA rfl rfl rfl)) rfl ?_;refine S PO (nil ?_);refine cE hE (fun hc42 hE=>?_) (fun hc42 hE=>?_)
  ·refine region ?_;refine S Mv (S Mv ?_);refine sHn (deleteF (TK rfl) rfl (TK rfl) rfl rfl rfl rfl hpG (fun x hx=>hI.pop.len _ (List.mem_map_of_mem hx))) rfl rfl ?_;refine hq (((H.set tk1 (some (.tok 1 0))).set id24_5 (some (.fixt b34 (.map (mE (delP p_36 s_36)).toArray ck34)))).set it61_35 (some (.fixt rit61_35 (.mapIter (some b34) ck34 (sn_36.push n_36) ck34)))) ?_;refine nil ?_;obtain rfl:=oJ hE
   obtain⟨hI2,hm2⟩:=hI.drop hx_ hb_;exact hK36 _ ((delP p_36 s_36),sn_36.push n_36) wA hI2 hm2
  refine AWp.skip ?_;obtain rfl:=oJ hE;obtain⟨hI2,hm2⟩:=hI.keep hx_ hb_;exact hK36 _ (p_36,sn_36.push n_36) wA hI2 hm2
 rintro y9_id24_5 hE;try dsimp only at hE
 unfold Z12_j8 at hE;refine seqR (S As (nil ?_));refine AWp.nilTok 15 1 tk1 rfl hpG ?_;refine seqJH kN (fun(z:(Sl Bs)×(List Bs))=>[(15,.a (.d (Sl.d 1 strE (some tk1) z.1)))]) (fun z=>((H.set tk1 (some (.tok 1 z.1.l.length))).set id24_5 (some (.map (seenM z.2))))) (fun z=>Z12_j11 z.1 z.2=some r) ?_ ?_
 ·intro K11 hK11;refine seqR (S Fv (S Ld ?_));refine sLen (f:=TDef.c) (s:=a0.FDefs) (TK rfl) rfl rfl rfl rfl fun hL16=>?_;refine S Mv (nil ?_);refine block ?_;refine loopH (TA 7 (TA 93 (TA 94 kN))) (fun(z:Nat×(Sl Bs)×Nat×(List Bs))=>[(15,.a (.d (Sl.d 1 strE (some tk1) z.2.1))),(95,.a (.d (.int .i64 ((z.2.2.1:Nat):Int))))]) (fun z=>((H.set tk1 (some (.tok 1 z.2.1.l.length))).set id24_5 (some (.map (seenM z.2.2.2))))) (fun z=>z.1) (fun z=>Z12_l17 a0 z.1 z.2.1 z.2.2.1 z.2.2.2=some r) ((a0.FDefs.l.length+1),(Sl.nil:Sl Bs),0,y9_id24_5) hE wA ?_
  rintro ⟨n17,s15_18,s95_19,y20_id24_5⟩ hE K17 hK17;try dsimp only at hE
  cases n17 with
  | zero=>cases hE
  | succ n17 =>
    rw [Z12_l17] at hE;refine seqR (S BI (nil ?_));refine seqK fun K22 hK22=>?_;refine cE hE (fun hc23 hE=>?_) (fun hc23 hE=>?_)
    ·try dsimp only at hc23
     have hf23:=oD hc23;refine sk hK22 ?_;clear hK22 K22;refine seqJH (TA 7 (TA 93 (TA 94 (TA 95 kN)))) (fun(z:(Sl Bs)×(List Bs))=>[(15,.a (.d (Sl.d 1 strE (some tk1) z.1)))]) (fun z=>((H.set tk1 (some (.tok 1 z.1.l.length))).set id24_5 (some (.map (seenM z.2))))) (fun z=>Z12_j24 s95_19 ((Z12_l17 a0 n17)) z.1 z.2=some r) ?_ ?_
     ·intro K24 hK24;refine block ?_;refine seqR ?_;obtain⟨x28,gx28,hE⟩:=bO hE;refine S (ix TDef.c s95_19 gx28) (S Ld ?_);refine Sl ?_;refine Sf ?_;refine nil ?_;refine freezeA 17 _ rfl (KA 7 (KA 15 (KA 93 (KA 94 (KA 95 Keeps.nil))))) ?_;refine seqR (S Mv (S Fv (S Ld ?_)));refine s0 (lookupSeen (TK rfl) rfl (TK rfl) (TK rfl) rfl rfl rfl rfl hpG) rfl ?_;refine nil ?_;refine cE hE (fun hc30 hE=>?_) (fun hc30 hE=>?_)
      ·refine seqR (S Mv (S Fv (S Ld (S BV ?_))));obtain⟨x32,gx32,hE⟩:=bO hE;refine SH (am strE (TK rfl) rfl (TK rfl) (TK rfl) gx32) ?_;refine hq ((H.set tk1 (some (.tok 1 x32.l.length))).set id24_5 (some (.map (seenM y20_id24_5)))) ?_;refine S As (nil ?_);refine region ?_;refine S Mv (S Fv (S Ld ?_));refine sHn (deleteM (TK rfl) rfl (TK rfl) rfl rfl rfl rfl hpG) rfl rfl ?_;refine hq ((H.set tk1 (some (.tok 1 x32.l.length))).set id24_5 (some (.map (seenM (List.erase y20_id24_5 x28.FName))))) ?_
       refine nil ?_;exact hK24 _ (x32,(List.erase y20_id24_5 x28.FName)) wA hE
      refine AWp.skip ?_;exact hK24 _ (s15_18,y20_id24_5) wA hE
     rintro ⟨s15_25,y26_id24_5⟩ hE;try dsimp only at hE
     unfold Z12_j24 at hE;refine region ?_;refine SI ?_;refine S Mv (nil ?_);exact hK17 _ (n17,s15_25,(s95_19+1),y26_id24_5) wA hE (nS _)
    refine AWp.exit ?_;exact hK11 _ (s15_18,y20_id24_5) wA hE
 rintro ⟨s15_12,y13_id24_5⟩ hE;try dsimp only at hE
 unfold Z12_j11 at hE;refine seqR (S Mv (S As (nil ?_)));refine AWp.dropTok 4 rfl ?_;refine AWp.ret ?_;repeat (first|refine xBlock_ret ?_|refine xThen_ret ?_)
 obtain rfl:=oJ hE;refine retQ.retF H rfl ⟨rfl,rfl⟩ ?_;intro id_ o_ he_;have e_tk1:id_≠tk1:=fun e_=>by subst e_; simp_all [Heap.set]
 have e_id24_5:id_≠id24_5:=fun e_=>by subst e_; simp_all [Heap.set]
 rw [<- he_];simp only [Heap.set] at he_ ⊢
 (repeat' split)<;>simp_all
def Z96_j8  :Option Bool:=some true
def Z96_l12 (a0:(Sl Int)) (a1:(Sl Int)) :Nat->Nat->Option Bool
 | 0,_=>none
 | n12+1,s13_13=>bif (decide (((s13_13:Nat):Int)<((a0.l.length:Nat):Int))) then((a0.l[s13_13]?).bind fun x20=>(a1.l[s13_13]?).bind fun x21=>bif (!decide (x20=x21)) then(some false) else((Z96_l12 a0 a1 n12) (s13_13+1))) else(Z96_j8   )
def Z96 (a0:(Sl Int)) (a1:(Sl Int)):Option Bool:=bif (!decide (((a0.l.length:Nat):Int)=((a1.l.length:Nat):Int))) then(some false) else(Z96_l12 a0 a1 (a0.l.length+1) 0)
theorem Z96_walk {a0 a1:Sl Int}{w0 w1:Option Nat}{r:Bool}(hE:Z96 a0 a1=some r) (H:Heap) :AC Tryz.prog 83 [.d (Sl.d 1 (intE .i64) w0 a0),.d (Sl.d 1 (intE .i64) w1 a1)] H fun v h'=>v=.a (.d (.bool r))/\h'=H:=by
 unfold Z96 at hE;refine AC.oW 26 [.tmp 4] Tryz.call83 Tryz.func83 ?_;refine seqR (S As (nil ?_));refine seqK fun K2 hK2=>?_;refine seqR (S Mv ?_);refine sLen (f:=(intE .i64)) (s:=a0) (TK rfl) rfl rfl rfl rfl fun hL4=>?_;refine S Mv ?_;refine sLen (f:=(intE .i64)) (s:=a1) (TK rfl) rfl rfl rfl rfl fun hL5=>?_;refine S BI (nil ?_);refine cE hE (fun hc6 hE=>?_) (fun hc6 hE=>?_)
 ·refine seqR (S As (nil ?_));exact rt hE
 refine sk hK2 ?_;clear hK2 K2;refine seqJH kN (fun(z:Unit)=>[]) (fun z=>H) (fun z=>Z96_j8 =some r) ?_ ?_
 ·intro K8 hK8;refine seqR (S Mv ?_);refine sLen (f:=(intE .i64)) (s:=a0) (TK rfl) rfl rfl rfl rfl fun hL11=>?_;refine S Mv (nil ?_);refine block ?_;refine loopH (TA 0 (TA 1 (TA 12 kN))) (fun(z:Nat×Nat)=>[(13,.a (.d (.int .i64 ((z.2:Nat):Int))))]) (fun z=>H) (fun z=>z.1) (fun z=>Z96_l12 a0 a1 z.1 z.2=some r) ((a0.l.length+1),0) hE wA ?_;rintro ⟨n12,s13_13⟩ hE K12 hK12;try dsimp only at hE
  cases n12 with
  | zero=>cases hE
  | succ n12 =>
    rw [Z96_l12] at hE;refine seqR (S BI (nil ?_));refine seqK fun K15 hK15=>?_;refine cE hE (fun hc16 hE=>?_) (fun hc16 hE=>?_)
    ·try dsimp only at hc16
     have hf16:=oD hc16;refine sk hK15 ?_;clear hK15 K15;refine seqK fun K17 hK17=>?_;refine block ?_;refine seqR (S Mv (S As (nil ?_)));refine AWp.seqD (Sd Mv (Sd Mv ?_));obtain⟨x20,gx20,hE⟩:=bO hE;refine Sd (ix (intE .i64) s13_13 gx20) ?_;refine Sd Ld (Sd Mv (Sd Mv ?_));obtain⟨x21,gx21,hE⟩:=bO hE;refine Sd (ix (intE .i64) s13_13 gx21) ?_;refine Sd Ld (Sd BI ?_);refine DOps.nil (by decide +kernel) ?_
     refine cE hE (fun hc22 hE=>?_) (fun hc22 hE=>?_)
     ·refine seqR (S As (nil ?_));exact rt hE
     refine sk hK17 ?_;clear hK17 K17;refine region ?_;refine SI ?_;refine S Mv (nil ?_);exact hK12 _ (n12,(s13_13+1)) wA hE (nS _)
    refine AWp.exit ?_;exact hK8 _ () wA hE
 rintro _ hE;try dsimp only at hE
 unfold Z96_j8 at hE;refine seqR (S As (nil ?_));exact rt hE
def Z123 (a0:TRef) (a1:TRef):Option Bool:=guardO (((a0.FName==a1.FName))) (Z96 a0.FWraps a1.FWraps) false fun x3=>some (((a0.FName==a1.FName))&&x3)
theorem Z123_walk {a0 a1:TRef}{r:Bool}(hE:Z123 a0 a1=some r) (H:Heap) :AC Tryz.prog 42 [.agg (TRef.c a0),.agg (TRef.c a1)] H fun v h'=>v=.a (.d (.bool r))/\h'=H:=by
 unfold Z123 at hE;refine AC.oW 17 [.tmp 4] Tryz.call42 Tryz.func42 ?_;refine seqR (S BX (S BX (S As (nil ?_))));refine seqR (S Fv (S Ld (S Fv (S Ld (S BS (S Mv (G0 Fv ?_)))))));refine G1 11 rfl Ld ?_;refine G0 Fv ?_;refine G1 13 rfl Ld ?_;obtain⟨x3,gx3,hE⟩:=gO hE;refine Gc2 12 14 rfl rfl rfl rfl rfl rfl (fun hC=>Z96_walk (gx3 hC)) ?_;refine S PA (S As (nil ?_));exact rt hE
def Z86 (a0:(Sl Int)):Option (Sl Int):=bif a0.nl then(some (Sl.nil:Sl Int)) else((appC 8 (⟨false,[]⟩:Sl Int) a0).bind fun x7=>some x7)
theorem Z86_walk {a0:Sl Int}{w0:Option Nat}{r:Sl Int}(hE:Z86 a0=some r) (H:Heap) :AC Tryz.prog 162 [.d (Sl.d 1 (intE .i64) w0 a0)] H fun v h'=>v=.a (.d (Sl.d 1 (intE .i64) none r))/\h'=H:=by
 unfold Z86 at hE;refine AC.oW 8 [.tmp 2] Tryz.call162 Tryz.func162 ?_;refine seqR ?_;refine s0 (assignNil (k':=1) rfl) rfl ?_;refine nil ?_;refine seqK fun K2 hK2=>?_;refine seqR (S Mv ?_);refine s0 (eqNil (TK rfl) rfl rfl) rfl ?_;refine nil ?_;refine cE hE (fun hc4 hE=>?_) (fun hc4 hE=>?_)
 ·refine seqR ?_;refine s0 (assignNil (k':=1) rfl) rfl ?_;refine nil ?_;exact rt hE
 refine sk hK2 ?_;clear hK2 K2;refine seqR ?_;refine s0 (buildSliceF (TK rfl) rfl (TK rfl) rfl rfl rfl rfl rfl rfl) rfl ?_;refine S Mv ?_;obtain⟨x7,gx7,hE⟩:=bO hE;refine s0 (appFM (f:=(intE .i64)) (TK rfl) rfl (TK rfl) (TK rfl) ⟨_,rfl⟩ rfl rfl (by decide) rfl rfl rfl (by intro q h; cases h<;>decide) rfl rfl gx7) rfl ?_;refine S As (nil ?_);exact rt hE
def Z119 (a0:TRef):Option Bool:=guardO ((decide ((0:Int)<((a0.FWraps.l.length:Nat):Int)))) (a0.FWraps.l[0]?) (0:Int) fun x4=>some ((decide ((0:Int)<((a0.FWraps.l.length:Nat):Int)))&&(decide (x4=(1:Int))))
theorem Z119_walk {a0:TRef}{r:Bool}(hE:Z119 a0=some r) (H:Heap) :AC Tryz.prog 173 [.agg (TRef.c a0)] H fun v h'=>v=.a (.d (.bool r))/\h'=H:=by
 unfold Z119 at hE;refine AC.oW 14 [.tmp 2] Tryz.call173 Tryz.func173 ?_;refine seqR (S BX (S As (nil ?_)));refine seqR (S Fv (S Ld ?_));refine sLen (f:=(intE .i64)) (s:=a0.FWraps) (TK rfl) rfl rfl rfl rfl fun hL3=>?_;refine S BI (S Mv (G0 Fv ?_));refine G1 8 rfl Ld ?_;obtain⟨x4,gx4,hE⟩:=gO hE;refine gC rfl rfl (fun hC=>ungdA (k:=9) rfl (idxMn (f:=(intE .i64)) (n:=0) (TK rfl) rfl (TK rfl) rfl rfl rfl (gx4 hC))) rfl ?_
 refine G1 10 rfl Ld ?_;refine G1 11 rfl BI ?_;refine S PA (S As (nil ?_));exact rt hE
def Z122_j3 (a0:TRef)  (s3_4:(Sl Int)):Option TRef:=(Z86 s3_4).bind fun x6=>some (TRef.mk a0.FName x6)
def Z122 (a0:TRef):Option TRef:=(Z119 a0).bind fun x8=>bif x8 then((partC a0.FWraps (some (1:Int)) none).bind fun x10=>Z122_j3 a0  x10) else(Z122_j3 a0  a0.FWraps)
theorem Z122_walk {a0 r:TRef}(hE:Z122 a0=some r) (H:Heap) :AC Tryz.prog 165 [.agg (TRef.c a0)] H fun v h'=>v=.a (.agg (TRef.c r))/\h'=H:=by
 unfold Z122 at hE;refine AC.oW 15 [.cell 2 50] Tryz.call165 Tryz.func165 ?_;refine seqR (S BX ?_);refine Sl ?_;refine nil ?_;refine seqR (S Fv (S Ld (S As (nil ?_))));refine seqJH (TA 1 (TA 2 kN)) (fun(z:(Sl Int))=>[(3,.a (.d (Sl.d 1 (intE .i64) none z)))]) (fun z=>H) (fun z=>Z122_j3 a0 z=some r) ?_ ?_
 ·intro K3 hK3;refine seqR (S Ld ?_);obtain⟨x8,gx8,hE⟩:=bO hE;refine Sc rfl rfl (Z119_walk gx8) ?_;refine nil ?_;refine cE hE (fun hc9 hE=>?_) (fun hc9 hE=>?_)
  ·refine region ?_;refine S Mv ?_;obtain⟨x10,gx10,hE⟩:=bO hE;refine s0 (partM (f:=(intE .i64)) (l:=(some (1:Int))) (r:=none) (TK rfl) rfl (TK rfl) rfl rfl rfl trivial gx10) rfl ?_;refine S As (nil ?_);exact hK3 _ x10 wA hE
  refine AWp.skip ?_;exact hK3 _ a0.FWraps wA hE
 rintro s3_4 hE;try dsimp only at hE
 unfold Z122_j3 at hE;refine AWp.seqD (Sd Fv (Sd Ld (Sd Mv ?_)));obtain⟨x6,gx6,hE⟩:=bO hE;refine Scd rfl rfl (Z86_walk gx6) ?_;refine Sd BU ?_;refine DOps.sLn (storeLFA (TK rfl) rfl rfl rfl rfl rfl) ?_;refine DOps.nil (by decide +kernel) ?_;exact rt hE
def Z118 (a0:TRef):Option Bool:=(Z122 a0).bind fun x3=>guardO ((decide ((0:Int)<((x3.FWraps.l.length:Nat):Int)))) (x3.FWraps.l[0]?) (0:Int) fun x6=>some ((decide ((0:Int)<((x3.FWraps.l.length:Nat):Int)))&&(decide (x6=(2:Int))))
theorem Z118_walk {a0:TRef}{r:Bool}(hE:Z118 a0=some r) (H:Heap) :AC Tryz.prog 106 [.agg (TRef.c a0)] H fun v h'=>v=.a (.d (.bool r))/\h'=H:=by
 unfold Z118 at hE;refine AC.oW 16 [.tmp 2] Tryz.call106 Tryz.func106 ?_;refine seqR ?_;refine sL (boxL rfl (by repeat (first|exact Snoc.nil|apply Snoc.cons))) rfl ?_;refine S As (nil ?_);refine seqR (S LL ?_);obtain⟨x3,gx3,hE⟩:=bO hE;refine Sc rfl rfl (Z122_walk gx3) ?_;refine Sf ?_;refine nil ?_;refine seqR (S FL (S LL ?_));refine sLen (f:=(intE .i64)) (s:=x3.FWraps) (TK rfl) rfl rfl rfl rfl fun hL5=>?_
 refine S BI (S Mv (G0 FL ?_));refine gC rfl rfl (fun hC=>ungdLA (k:=10) rfl (loadL (TK rfl) rfl rfl rfl rfl)) rfl ?_;obtain⟨x6,gx6,hE⟩:=gO hE;refine gC rfl rfl (fun hC=>ungdA (k:=11) rfl (idxMn (f:=(intE .i64)) (n:=0) (TK rfl) rfl (TK rfl) rfl rfl rfl (gx6 hC))) rfl ?_;refine G1 12 rfl Ld ?_;refine G1 13 rfl BI ?_;refine S PA (S As (nil ?_));exact rt hE
def Z121 (a0:TRef):Option TRef:=(Z119 a0).bind fun x4=>bif x4 then((Z86 a0.FWraps).bind fun x7=>some (TRef.mk a0.FName x7)) else((appC 8 (⟨false,[(1:Int)]⟩:Sl Int) a0.FWraps).bind fun x9=>some (TRef.mk a0.FName x9))
theorem Z121_walk {a0 r:TRef}(hE:Z121 a0=some r) (H:Heap) :AC Tryz.prog 166 [.agg (TRef.c a0)] H fun v h'=>v=.a (.agg (TRef.c r))/\h'=H:=by
 unfold Z121 at hE;refine AC.oW 18 [.cell 2 50] Tryz.call166 Tryz.func166 ?_;refine seqR (S BX ?_);refine Sl ?_;refine nil ?_;refine seqK fun K2 hK2=>?_;refine seqR (S Ld ?_);obtain⟨x4,gx4,hE⟩:=bO hE;refine Sc rfl rfl (Z119_walk gx4) ?_;refine nil ?_;refine cE hE (fun hc5 hE=>?_) (fun hc5 hE=>?_)
 ·refine AWp.seqD (Sd Fv (Sd Ld (Sd Fv (Sd Ld ?_))));obtain⟨x7,gx7,hE⟩:=bO hE;refine Scd rfl rfl (Z86_walk gx7) ?_;refine Sd BU ?_;refine DOps.sLn (storeLFA (TK rfl) rfl rfl rfl rfl rfl) ?_;refine DOps.nil (by decide +kernel) ?_;exact rt hE
 refine sk hK2 ?_;clear hK2 K2;refine AWp.seqD (Sd Fv (Sd Ld ?_));refine DOps.s0 (buildSliceF (TK rfl) rfl (TK rfl) rfl rfl rfl rfl rfl rfl) rfl ?_;refine Sd Fv (Sd Ld ?_);obtain⟨x9,gx9,hE⟩:=bO hE;refine DOps.s0 (appFM (f:=(intE .i64)) (TK rfl) rfl (TK rfl) (TK rfl) ⟨_,rfl⟩ rfl rfl (by decide) rfl rfl rfl (by intro q h; cases h<;>decide) rfl rfl gx9) rfl ?_;refine Sd BU ?_;refine DOps.sLn (storeLFA (TK rfl) rfl rfl rfl rfl rfl) ?_
 refine DOps.nil (by decide +kernel) ?_;exact rt hE
def Z120 (a0:Bs):Option TRef:=some (TRef.mk a0 (Sl.nil:Sl Int))
theorem Z120_walk {a0:Bs}{r:TRef}(hE:Z120 a0=some r) (H:Heap) :AC Tryz.prog 167 [.d (.str a0)] H fun v h'=>v=.a (.agg (TRef.c r))/\h'=H:=by
 unfold Z120 at hE;refine AC.oW 5 [.cell 2 50] Tryz.call167 Tryz.func167 ?_;refine seqR ?_;refine Sl ?_;refine nil ?_;refine seqR (S Mv (S BU ?_));refine Sf ?_;refine nil ?_;exact rt hE
end Go.Proofs

namespace Go.Proofs
open Go Go.Ab
open AOps Cert AWp Keeps KeepsT
variable {lou:Lou}
def Z57 :Option TRef:=(Z120 ([83,116,114,105,110,103]:Bs)).bind fun x3=>(Z121 x3).bind fun x4=>some x4
theorem Z57_walk    {r:TRef}(hE:Z57 =some r) (H:Heap) :AC Tryz.prog 107 [] H fun v h'=>v=.a (.agg (TRef.c r))/\h'=H:=by
 unfold Z57 at hE;refine AC.oW 3 [.cell 0 50] Tryz.call107 Tryz.func107 ?_;refine seqR ?_;refine Sl ?_;refine nil ?_;refine seqR ?_;obtain⟨x3,gx3,hE⟩:=bO hE;refine Sc rfl rfl (Z120_walk gx3) ?_;obtain⟨x4,gx4,hE⟩:=bO hE;refine Sc rfl rfl (Z121_walk gx4) ?_;refine Sf ?_;refine nil ?_;exact rt hE
def Z114_j8  :Option Bool:=some true
def Z114_l12 (a0:Bs) :Nat->Nat->Option Bool
 | 0,_=>none
 | n12+1,s24_13=>bif (decide (((s24_13:Nat):Int)<((a0.length:Nat):Int))) then((a0[s24_13]?).bind fun x20=>bif (!(((((decide ((97:Int)<=((x20.toNat:Nat):Int)))&&(decide (((x20.toNat:Nat):Int)<=(122:Int))))||((decide ((65:Int)<=((x20.toNat:Nat):Int)))&&(decide (((x20.toNat:Nat):Int)<=(90:Int)))))||((decide ((48:Int)<=((x20.toNat:Nat):Int)))&&(decide (((x20.toNat:Nat):Int)<=(57:Int)))))||(decide (((x20.toNat:Nat):Int)=(95:Int))))) then(some false) else((Z114_l12 a0 n12) (s24_13+1))) else(Z114_j8   )
def Z114 (a0:Bs):Option Bool:=guardO (!(((a0==([]:Bs)))||(decide ((64:Int)<((a0.length:Nat):Int))))) (a0[0]?) (0:UInt8) fun x4=>guardO ((!(((a0==([]:Bs)))||(decide ((64:Int)<((a0.length:Nat):Int))))&&(decide ((48:Int)<=((x4.toNat:Nat):Int))))) (a0[0]?) (0:UInt8) fun x5=>bif ((((a0==([]:Bs)))||(decide ((64:Int)<((a0.length:Nat):Int))))||((decide ((48:Int)<=((x4.toNat:Nat):Int)))&&(decide (((x5.toNat:Nat):Int)<=(57:Int))))) then(some false) else(Z114_l12 a0 (a0.length+1) 0)
theorem Z114_walk {a0:Bs}{r:Bool}(hE:Z114 a0=some r) (H:Heap) :AC Tryz.prog 168 [.d (.str a0)] H fun v h'=>v=.a (.d (.bool r))/\h'=H:=by
 unfold Z114 at hE;refine AC.oW 58 [.tmp 2] Tryz.call168 Tryz.func168 ?_;refine seqR (S As (nil ?_));refine seqK fun K2 hK2=>?_;refine seqR (S Mv (S BS (S Mv (G0 Mv ?_))));refine gC rfl rfl (fun hC=>ungdA (k:=8) rfl (lenS (TK rfl) rfl rfl rfl)) rfl ?_;refine G1 9 rfl BI ?_;refine S PO (S Mv (G0 Mv ?_));obtain⟨x4,gx4,hE⟩:=gO hE;refine gC rfl rfl (fun hC=>ungdA (k:=13) rfl (idxSn (n:=0) (TK rfl) rfl rfl rfl (gx4 hC))) rfl ?_
 refine G1 14 rfl BI ?_;refine G1 15 rfl Mv ?_;refine G0 Mv ?_;obtain⟨x5,gx5,hE⟩:=gO hE;refine gC rfl rfl (fun hC=>ungdA (k:=17) rfl (idxSn (n:=0) (TK rfl) rfl rfl rfl (gx5 hC))) rfl ?_;refine G1 18 rfl BI ?_;refine gC rfl rfl (fun hC=>ungdA (k:=16) rfl (pickAndA rfl rfl rfl)) rfl ?_;refine S PO (nil ?_);refine cE hE (fun hc6 hE=>?_) (fun hc6 hE=>?_)
 ·refine seqR (S As (nil ?_));exact rt hE
 refine sk hK2 ?_;clear hK2 K2;refine seqJH kN (fun(z:Unit)=>[]) (fun z=>H) (fun z=>Z114_j8 =some r) ?_ ?_
 ·intro K8 hK8;refine seqR (S Mv ?_);refine sLenS (TK rfl) rfl rfl rfl rfl fun hL11=>?_;refine S Mv (nil ?_);refine block ?_;refine loopH (TA 0 (TA 23 kN)) (fun(z:Nat×Nat)=>[(24,.a (.d (.int .i64 ((z.2:Nat):Int))))]) (fun z=>H) (fun z=>z.1) (fun z=>Z114_l12 a0 z.1 z.2=some r) ((a0.length+1),0) hE wA ?_;rintro ⟨n12,s24_13⟩ hE K12 hK12;try dsimp only at hE
  cases n12 with
  | zero=>cases hE
  | succ n12 =>
    rw [Z114_l12] at hE;refine seqR (S BI (nil ?_));refine seqK fun K15 hK15=>?_;refine cE hE (fun hc16 hE=>?_) (fun hc16 hE=>?_)
    ·try dsimp only at hc16
     have hf16:=oD hc16;refine sk hK15 ?_;clear hK15 K15;refine seqK fun K17 hK17=>?_;refine block ?_;refine seqR (S Mv (S As (nil ?_)));refine seqR (S Mv (S Mv ?_));obtain⟨x20,gx20,hE⟩:=bO hE;refine s0 (idxSn (n:=s24_13) (TK rfl) rfl rfl rfl gx20) rfl ?_;refine S As (nil ?_);refine seqR (S Mv (S BI (S Mv (G0 Mv ?_))));refine G1 33 rfl BI ?_;refine S PA (S Mv (G0 Mv ?_));refine G1 37 rfl BI ?_
     refine G1 38 rfl Mv ?_;refine G0 Mv ?_;refine G1 40 rfl BI ?_;refine gC rfl rfl (fun hC=>ungdA (k:=39) rfl (pickAndA rfl rfl rfl)) rfl ?_;refine S PO (S Mv (G0 Mv ?_));refine G1 45 rfl BI ?_;refine G1 46 rfl Mv ?_;refine G0 Mv ?_;refine G1 48 rfl BI ?_;refine gC rfl rfl (fun hC=>ungdA (k:=47) rfl (pickAndA rfl rfl rfl)) rfl ?_;refine S PO (S Mv (G0 Mv ?_));refine G1 53 rfl BI ?_;refine S PO (S NB (nil ?_))
     refine cE hE (fun hc22 hE=>?_) (fun hc22 hE=>?_)
     ·refine seqR (S As (nil ?_));exact rt hE
     refine sk hK17 ?_;clear hK17 K17;refine region ?_;refine SI ?_;refine S Mv (nil ?_);exact hK12 _ (n12,(s24_13+1)) wA hE (nS _)
    refine AWp.exit ?_;exact hK8 _ () wA hE
 rintro _ hE;try dsimp only at hE
 unfold Z114_j8 at hE;refine seqR (S As (nil ?_));exact rt hE
def Z37 (a0:Bs) (a1:Bs):Option Bool:=guardO ((decide (((a1.length:Nat):Int)<=((a0.length:Nat):Int)))) (cutC a0 none (some ((a1.length:Nat):Int))) ([]:Bs) fun x5=>some ((decide (((a1.length:Nat):Int)<=((a0.length:Nat):Int)))&&((x5==a1)))
theorem Z37_walk {a0 a1:Bs}{r:Bool}(hE:Z37 a0 a1=some r) (H:Heap) :AC Tryz.prog 239 [.d (.str a0),.d (.str a1)] H fun v h'=>v=.a (.d (.bool r))/\h'=H:=by
 unfold Z37 at hE;refine AC.oW 18 [.tmp 4] Tryz.call239 Tryz.func239 ?_;refine seqR (S As (nil ?_));refine seqR (S Mv ?_);refine sLenS (TK rfl) rfl rfl rfl rfl fun hL3=>?_;refine S Mv ?_;refine sLenS (TK rfl) rfl rfl rfl rfl fun hL4=>?_;refine S BI (S Mv (G0 Mv (G0 Mv ?_)));refine gC rfl rfl (fun hC=>ungdA (k:=12) rfl (lenS (TK rfl) rfl rfl rfl)) rfl ?_;obtain⟨x5,gx5,hE⟩:=gO hE;refine gC rfl rfl (fun hC=>ungdA (k:=11) rfl (ungdA (k:=13) rfl (cutM (l:=none) (r:=(some ((a1.length:Nat):Int))) (TK rfl) rfl rfl trivial rfl (by simp) (gx5 hC)))) rfl ?_
 refine G0 Mv ?_;refine G2 14 15 rfl rfl BS ?_;refine S PA (S As (nil ?_));exact rt hE
def Z110 (a0:Bs) (a1:Bs):Option Bool:=(Z37 a0 a1).bind fun x3=>some x3
theorem Z110_walk {a0 a1:Bs}{r:Bool}(hE:Z110 a0 a1=some r) (H:Heap) :AC Tryz.prog 211 [.d (.str a0),.d (.str a1)] H fun v h'=>v=.a (.d (.bool r))/\h'=H:=by
 unfold Z110 at hE;refine AC.oW 8 [.tmp 4] Tryz.call211 Tryz.func211 ?_;refine seqR (S As (nil ?_));refine seqR (S Mv (S Mv ?_));obtain⟨x3,gx3,hE⟩:=bO hE;refine Sc rfl rfl (Z37_walk gx3) ?_;refine S As (nil ?_);exact rt hE
def Z116 (a0:Bs):Option Bool:=(Z110 a0 ([95,95]:Bs)).bind fun x3=>some x3
theorem Z116_walk {a0:Bs}{r:Bool}(hE:Z116 a0=some r) (H:Heap) :AC Tryz.prog 169 [.d (.str a0)] H fun v h'=>v=.a (.d (.bool r))/\h'=H:=by
 unfold Z116 at hE;refine AC.oW 5 [.tmp 2] Tryz.call169 Tryz.func169 ?_;refine seqR (S As (nil ?_));refine seqR (S Mv ?_);obtain⟨x3,gx3,hE⟩:=bO hE;refine Sc rfl rfl (Z110_walk gx3) ?_;refine S As (nil ?_);exact rt hE
def Z53 (a0:Bs):Option Bool:=(Z114 a0).bind fun x3=>guardO (x3) (Z116 a0) false fun x4=>some (x3&&(!x4))
theorem Z53_walk {a0:Bs}{r:Bool}(hE:Z53 a0=some r) (H:Heap) :AC Tryz.prog 108 [.d (.str a0)] H fun v h'=>v=.a (.d (.bool r))/\h'=H:=by
 unfold Z53 at hE;refine AC.oW 10 [.tmp 2] Tryz.call108 Tryz.func108 ?_;refine seqR (S As (nil ?_));refine seqR (S Mv ?_);obtain⟨x3,gx3,hE⟩:=bO hE;refine Sc rfl rfl (Z114_walk gx3) ?_;refine S Mv (G0 Mv ?_);obtain⟨x4,gx4,hE⟩:=gO hE;refine Gc1 6 rfl rfl rfl rfl rfl (fun hC=>Z116_walk (gx4 hC)) ?_;refine G1 7 rfl NB ?_;refine S PA (S As (nil ?_));exact rt hE
def Z78_j2  (y3_l0:Z4):Option (Z4×Bool):=some ((Z4.mk ([]:Bs) (Sl.nil:Sl Z6) TRef.zero (Sl.nil:Sl TDir)),false)
def Z78_l7 (a0:TDef) (a1:Bs) :Nat->Nat->Z4->Option (Z4×Bool)
 | 0,_,_=>none
 | n7+1,s11_8,y9_l0=>bif (decide (((s11_8:Nat):Int)<((a0.FFields.l.length:Nat):Int))) then((a0.FFields.l[s11_8]?).bind fun x15=>bif ((x15.FName==a1)) then(some (x15,true)) else((Z78_l7 a0 a1 n7) (s11_8+1) y9_l0)) else(Z78_j2   y9_l0)
def Z78 (a0:TDef) (a1:Bs):Option (Z4×Bool):=Z78_l7 a0 a1 (a0.FFields.l.length+1) 0 Z4.zero
theorem Z78_walk {a0:TDef}{a1:Bs}{r:Z4×Bool}(hE:Z78 a0 a1=some r) (H:Heap) :AC Tryz.prog 109 [.agg (TDef.c a0),.d (.str a1)] H fun v h'=>v=.tup [.agg (Z4.c r.1),.d (.bool r.2)]/\h'=H:=by
 unfold Z78 at hE;refine AC.oW 22 [.cell 4 104,.tmp 5] Tryz.call109 Tryz.func109 ?_;refine seqR (S BX ?_);refine Sl ?_;refine S As (nil ?_);refine seqJ (TA 4 kN) (fun(z:Z4)=>[]) (fun z=>[Z4.c z]) (fun z=>H) (fun z=>Z78_j2 z=some r) ?_ ?_
 ·intro K2 hK2;refine seqR (S Fv (S Ld ?_));refine sLen (f:=Z4.c) (s:=a0.FFields) (TK rfl) rfl rfl rfl rfl fun hL6=>?_;refine S Mv (nil ?_);refine block ?_;refine loopO (TA 1 (TA 4 (TA 9 (TA 10 kN)))) (fun(z:Nat×Nat×Z4)=>[(11,.a (.d (.int .i64 ((z.2.1:Nat):Int))))]) (fun z=>[Z4.c z.2.2]) (fun z=>H) (fun z=>z.1) (fun z=>Z78_l7 a0 a1 z.1 z.2.1 z.2.2=some r) ((a0.FFields.l.length+1),0,Z4.zero) hE wA ?_
  rintro ⟨n7,s11_8,y9_l0⟩ hE K7 hK7;try dsimp only at hE
  cases n7 with
  | zero=>cases hE
  | succ n7 =>
    rw [Z78_l7] at hE;refine seqR (S BI (nil ?_));refine seqK fun K11 hK11=>?_;refine cE hE (fun hc12 hE=>?_) (fun hc12 hE=>?_)
    ·try dsimp only at hc12
     have hf12:=oD hc12;refine sk hK11 ?_;clear hK11 K11;refine seqK fun K13 hK13=>?_;refine block ?_;refine seqR ?_;obtain⟨x15,gx15,hE⟩:=bO hE;refine S (ix Z4.c s11_8 gx15) (S Ld ?_);refine Sl ?_;refine Sf ?_;refine nil ?_;refine freezeA 7 _ rfl (KA 1 (KA 4 (KA 9 (KA 10 (KA 11 Keeps.nil))))) ?_;refine seqR (S Fv (S Ld (S Mv (S BS (nil ?_)))));refine cE hE (fun hc17 hE=>?_) (fun hc17 hE=>?_)
     ·refine seqR (S Ld ?_);refine Sf ?_;refine S As (nil ?_);exact rt hE
     refine sk hK13 ?_;clear hK13 K13;refine region ?_;refine SI ?_;refine S Mv (nil ?_);exact hK7 _ (n7,(s11_8+1),y9_l0) wA hE (nS _)
    refine AWp.exit ?_;exact hK2 _ y9_l0 wA hE
 rintro y3_l0 hE;try dsimp only at hE
 unfold Z78_j2 at hE;refine seqR (S BU ?_);refine Sf ?_;refine S As (nil ?_);exact rt hE
def Z15 (a0:Int):Option Bool:=some (!decide (a0=a0))
theorem Z15_walk {a0:Int}{r:Bool}(hE:Z15 a0=some r) (H:Heap) :AC Tryz.prog 187 [.d (.int .i64 a0)] H fun v h'=>v=.a (.d (.bool r))/\h'=H:=by
 unfold Z15 at hE;refine AC.oW 6 [.tmp 2] Tryz.call187 Tryz.func187 ?_;refine seqR (S As (nil ?_));refine seqR (S Mv (S Mv (S BI (S As (nil ?_)))));exact rt hE
def Z14 (a0:Int) (a1:Int):Option Int:=(Z15 a0).bind fun x3=>(Z15 a1).bind fun x5=>bif x3 then(bif x5 then(some (0:Int)) else(some (-1:Int))) else(bif x5 then(some (1:Int)) else(bif (decide (a0<a1)) then(some (-1:Int)) else(bif (decide (a1<a0)) then(some (1:Int)) else(some (0:Int)))))
theorem Z14_walk {a0 a1 r:Int}(hE:Z14 a0 a1=some r) (H:Heap) :AC Tryz.prog 138 [.d (.int .i64 a0),.d (.int .i64 a1)] H fun v h'=>v=.a (.d (.int .i64 r))/\h'=H:=by
 unfold Z14 at hE;refine AC.oW 20 [.tmp 4] Tryz.call138 Tryz.func138 ?_;refine seqR (S As (nil ?_));refine seqR (S Mv ?_);obtain⟨x3,gx3,hE⟩:=bO hE;refine Sc rfl rfl (Z15_walk gx3) ?_;refine S As (nil ?_);refine seqR (S Mv ?_);obtain⟨x5,gx5,hE⟩:=bO hE;refine Sc rfl rfl (Z15_walk gx5) ?_;refine S As (nil ?_);refine seqK fun K6 hK6=>?_;refine seqR (S Mv (nil ?_));refine cE hE (fun hc8 hE=>?_) (fun hc8 hE=>?_)
 ·refine seqK fun K9 hK9=>?_;refine seqR (S Mv (nil ?_));refine cE hE (fun hc11 hE=>?_) (fun hc11 hE=>?_)
  ·refine seqR (S As (nil ?_));exact rt hE
  refine sk hK9 ?_;clear hK9 K9;refine seqR (S As (nil ?_));exact rt hE
 refine sk hK6 ?_;clear hK6 K6;refine seqK fun K14 hK14=>?_;refine seqR (S Mv (nil ?_));refine cE hE (fun hc16 hE=>?_) (fun hc16 hE=>?_)
 ·refine seqR (S As (nil ?_));exact rt hE
 refine sk hK14 ?_;clear hK14 K14;refine seqK fun K18 hK18=>?_;refine seqR (S Mv (S Mv (S BI (nil ?_))));refine cE hE (fun hc20 hE=>?_) (fun hc20 hE=>?_)
 ·refine seqR (S As (nil ?_));exact rt hE
 refine sk hK18 ?_;clear hK18 K18;refine seqK fun K22 hK22=>?_;refine seqR (S Mv (S Mv (S BI (nil ?_))));refine cE hE (fun hc24 hE=>?_) (fun hc24 hE=>?_)
 ·refine seqR (S As (nil ?_));exact rt hE
 refine sk hK22 ?_;clear hK22 K22;refine seqR (S As (nil ?_));exact rt hE
def Tryz.lay139_ren:Go.Shelf.Ren:=⟨fun|106=>139|213=>188|265=>225|n=>n,fun|9=>9|3=>3|n=>n,fun|n=>n⟩
theorem Tryz.lay139:Go.Proofs.Lays.n106 Tryz.prog Tryz.lay139_ren:={
 mixed:=by kernel_rfl
 f106:=Tryz.func139.trans (congrArg some (by kernel_rfl))
 f213:=Tryz.func188.trans (congrArg some (by kernel_rfl))
 f265:=Tryz.func225.trans (congrArg some (by kernel_rfl))
 t3:=Tryz.underlying3
 a3:=Tryz.isAgg3
 z3:=Tryz.sizeOf3
 v3:=Tryz.zeroValue3
 t9:=Tryz.underlying9
 a9:=Tryz.isAgg9
 z9:=Tryz.sizeOf9
 v9:=Tryz.zeroValue9 }
def Z109 (s t:Bs):Option Int:=some (Lib.compareBytes s t)
theorem Z109_walk {a0 a1:Bs}{r:Int}(hE:Z109 a0 a1=some r) (H:Heap):AC Tryz.prog 139 [.d (.str a0),.d (.str a1)] H fun v h'=>v=.a (.d (.int .i64 r))/\h'=H:=by
 obtain rfl:=oJ hE;exact cmpS_calls Tryz.lay139 rfl
def Z135 (a0:Z11) (a1:Int):Option Bs:=bif (decide (a1<((a0.FKeys.l.length:Nat):Int))) then((idxC a0.FKeys.l a1).bind fun x7=>some x7) else(some ([]:Bs))
theorem Z135_walk {a0:Z11}{a1:Int}{r:Bs}(hE:Z135 a0 a1=some r) (H:Heap) :AC Tryz.prog 140 [.agg (Z11.c a0),.d (.int .i64 a1)] H fun v h'=>v=.a (.d (.str r))/\h'=H:=by
 unfold Z135 at hE;refine AC.oW 15 [.tmp 4] Tryz.call140 Tryz.func140 ?_;refine seqR (S BX (S As (nil ?_)));refine seqK fun K2 hK2=>?_;refine seqR (S Mv (S Fv (S Ld ?_)));refine sLen (f:=strE) (s:=a0.FKeys) (TK rfl) rfl rfl rfl rfl fun hL4=>?_;refine S BI (nil ?_);refine cE hE (fun hc5 hE=>?_) (fun hc5 hE=>?_)
 ·refine seqR (S Fv (S Ld (S Mv ?_)));obtain⟨x7,gx7,hE⟩:=bO hE;refine s0 (idxM (f:=strE) (TK rfl) rfl (TK rfl) rfl rfl rfl gx7) rfl ?_;refine S Ld (S As (nil ?_));exact rt hE
 refine sk hK2 ?_;clear hK2 K2;refine seqR (S As (nil ?_));exact rt hE
end Go.Proofs

namespace Go.Proofs
open Go Go.Ab
open AOps Cert AWp Keeps KeepsT
variable {lou:Lou}
def Z125_j4  (s5_5:Int):Option Int:=some s5_5
def Z125_j14 (s7_10:Int) (k_next_8:Int->Int->Option Int) (s5_15:Int):Option Int:=(addC s7_10 (1:Int)).bind fun x16=>k_next_8 s5_15 x16
def Z125_j30 (a0:Z11) (a1:Z11) (s7_10:Int) (k_next_8:Int->Int->Option Int) :Option Int:=(Z14 ((a0.FItems.l.length:Nat):Int) ((a1.FItems.l.length:Nat):Int)).bind fun x33=>Z125_j14 s7_10 k_next_8 x33
def Z125_l37 (a0:Z11) (a1:Z11) (s7_10:Int) (k_next_8:Int->Int->Option Int) (k_rec_84:Z11->Z11->Option Int):Nat->Int->Option Int
 | 0,_=>none
 | n37+1,s49_38=>bif (decide (s49_38<(if ((a1.FItems.l.length:Nat):Int)<((a0.FItems.l.length:Nat):Int) then((a1.FItems.l.length:Nat):Int) else((a0.FItems.l.length:Nat):Int)))) then((Z135 a0 s49_38).bind fun x46=>(Z135 a1 s49_38).bind fun x47=>(Z109 x46 x47).bind fun x48=>bif (!decide (x48=(0:Int))) then(Z125_j4   x48) else((idxC a0.FItems.l s49_38).bind fun x52=>(idxC a1.FItems.l s49_38).bind fun x53=>(k_rec_84 x52 x53).bind fun x54=>bif (!decide (x54=(0:Int))) then(Z125_j4   x54) else((addC s49_38 (1:Int)).bind fun x57=>(Z125_l37 a0 a1 s7_10 k_next_8 k_rec_84 n37) x57))) else(Z125_j30 a0 a1 s7_10 k_next_8 )
def Z125_l8 (a0:Z11) (a1:Z11) (k_rec_84:Z11->Z11->Option Int):Nat->Int->Int->Option Int
 | 0,_,_=>none
 | n8+1,s5_9,s7_10=>bif (decide (s7_10<(1:Int))) then(bif (!decide (a0.FKind=a1.FKind)) then((Z14 a0.FKind a1.FKind).bind fun x21=>Z125_j4   x21) else(bif (!decide (a0.FInt=a1.FInt)) then((Z14 a0.FInt a1.FInt).bind fun x25=>Z125_j4   x25) else(bif (!(a0.FText==a1.FText)) then((Z109 a0.FText a1.FText).bind fun x29=>Z125_j4   x29) else(Z125_l37 a0 a1 s7_10 ((Z125_l8 a0 a1 k_rec_84 n8)) k_rec_84 F0 (0:Int))))) else(Z125_j4   s5_9)
def Z125_n:Nat->Z11->Z11->Option Int
 | 0,_,_=>none
 | n+1,a0,a1=>Z125_l8 a0 a1 (Z125_n n) F0 (0:Int) (0:Int)
theorem Z125_step (n:Nat) (ih_84:∀{a0 a1:Z11}{r:Int},Z125_n n a0 a1=some r->∀(H:Heap),AC Tryz.prog 84 [.agg (Z11.c a0),.agg (Z11.c a1)] H fun v h'=>v=.a (.d (.int .i64 r))/\h'=H):∀{a0 a1:Z11}{r:Int},Z125_n (n+1) a0 a1=some r->∀(H:Heap),AC Tryz.prog 84 [.agg (Z11.c a0),.agg (Z11.c a1)] H fun v h'=>v=.a (.d (.int .i64 r))/\h'=H:=by
 intro a0 a1   r hE H ;rw [Z125_n] at hE;refine AC.oW 84 [.tmp 4] Tryz.call84 Tryz.func84 ?_;refine seqR (S BX (S BX (S As (nil ?_))));refine AWp.scope ?_;refine seqR (S As (nil ?_));refine seqK fun K3 hK3=>?_;refine AWp.label ?_;refine hK3 _ ?_;clear hK3 K3;refine seqJH kN (fun(z:Int)=>[(5,.a (.d (.int .i64 z)))]) (fun z=>H) (fun z=>Z125_j4 z=some r) ?_ ?_
 ·intro K4 hK4;refine seqR (S Mv (nil ?_));refine block ?_;refine loopH (TA 2 (TA 3 kN)) (fun(z:Nat×Int×Int)=>[(5,.a (.d (.int .i64 z.2.1))),(7,.a (.d (.int .i64 z.2.2)))]) (fun z=>H) (fun z=>z.1) (fun z=>Z125_l8 a0 a1 (Z125_n n) z.1 z.2.1 z.2.2=some r) (F0,(0:Int),(0:Int)) hE wA ?_;rintro ⟨n8,s5_9,s7_10⟩ hE K8 hK8;try dsimp only at hE
  cases n8 with
  | zero=>cases hE
  | succ n8 =>
    rw [Z125_l8] at hE;refine seqR (S BI (nil ?_));refine seqK fun K12 hK12=>?_;refine cE hE (fun hc13 hE=>?_) (fun hc13 hE=>?_)
    ·refine sk hK12 ?_;clear hK12 K12;refine seqJH (TA 2 (TA 3 (TA 7 kN))) (fun(z:Int)=>[(5,.a (.d (.int .i64 z)))]) (fun z=>H) (fun z=>Z125_j14 s7_10 ((Z125_l8 a0 a1 (Z125_n n) n8)) z=some r) ?_ ?_
     ·intro K14 hK14;refine block ?_;refine seqK fun K17 hK17=>?_;refine block ?_;refine seqR (S Fv (S Ld (S Fv (S Ld (S BI (S As (nil ?_)))))));refine cE hE (fun hc19 hE=>?_) (fun hc19 hE=>?_)
      ·refine seqR (S Fv (S Ld (S Fv (S Ld ?_))));obtain⟨x21,gx21,hE⟩:=bO hE;refine Sc rfl rfl (Z14_walk gx21) ?_;refine S As (nil ?_);refine AWp.exit ?_;exact hK4 _ x21 wA hE
      refine seqR (S Fv (S Ld (S Fv (S Ld (S BI (S As (nil ?_)))))));refine cE hE (fun hc23 hE=>?_) (fun hc23 hE=>?_)
      ·refine seqR (S Fv (S Ld (S Fv (S Ld ?_))));obtain⟨x25,gx25,hE⟩:=bO hE;refine Sc rfl rfl (Z14_walk gx25) ?_;refine S As (nil ?_);refine AWp.exit ?_;exact hK4 _ x25 wA hE
      refine seqR (S Fv (S Ld (S Fv (S Ld (S BS (S As (nil ?_)))))));refine cE hE (fun hc27 hE=>?_) (fun hc27 hE=>?_)
      ·refine seqR (S Fv (S Ld (S Fv (S Ld ?_))));obtain⟨x29,gx29,hE⟩:=bO hE;refine Sc rfl rfl (Z109_walk gx29) ?_;refine S As (nil ?_);refine AWp.exit ?_;exact hK4 _ x29 wA hE
      refine sk hK17 ?_;clear hK17 K17;refine seqJH (TA 2 (TA 3 (TA 7 kN))) (fun(z:Unit)=>[]) (fun z=>H) (fun z=>Z125_j30 a0 a1 s7_10 ((Z125_l8 a0 a1 (Z125_n n) n8)) =some r) ?_ ?_
      ·intro K30 hK30;refine seqR (S Fv ?_);refine s0 (loadV (TK rfl) rfl rfl (congrArg (fun x=>some (A.d x)) (Z11.FItemsD_eq _))) rfl ?_;refine sLen (f:=Z11.c) (s:=a0.FItems) (TK rfl) rfl rfl rfl rfl fun hL35=>?_;refine S Fv ?_;refine s0 (loadV (TK rfl) rfl rfl (congrArg (fun x=>some (A.d x)) (Z11.FItemsD_eq _))) rfl ?_;refine sLen (f:=Z11.c) (s:=a1.FItems) (TK rfl) rfl rfl rfl rfl fun hL36=>?_;refine s0 (minM rfl rfl) rfl ?_
       refine S Mv (nil ?_);refine block ?_;refine loopH (TA 2 (TA 3 (TA 7 (TA 48 kN)))) (fun(z:Nat×Int)=>[(49,.a (.d (.int .i64 z.2)))]) (fun z=>H) (fun z=>z.1) (fun z=>Z125_l37 a0 a1 s7_10 ((Z125_l8 a0 a1 (Z125_n n) n8)) (Z125_n n) z.1 z.2=some r) (F0,(0:Int)) hE wA ?_;rintro ⟨n37,s49_38⟩ hE K37 hK37;try dsimp only at hE
       cases n37 with
       | zero=>cases hE
       | succ n37 =>
         rw [Z125_l37] at hE;refine seqR (S BI (nil ?_));refine seqK fun K40 hK40=>?_;refine cE hE (fun hc41 hE=>?_) (fun hc41 hE=>?_)
         ·refine sk hK40 ?_;clear hK40 K40;refine seqK fun K42 hK42=>?_;refine block ?_;refine seqR (S Mv (S As (nil ?_)));refine seqK fun K44 hK44=>?_;refine AWp.seqD (Sd Ld (Sd Mv ?_));obtain⟨x46,gx46,hE⟩:=bO hE;refine Scd rfl rfl (Z135_walk gx46) ?_;refine Sd Ld (Sd Mv ?_);obtain⟨x47,gx47,hE⟩:=bO hE;refine Scd rfl rfl (Z135_walk gx47) ?_;obtain⟨x48,gx48,hE⟩:=bO hE;refine Scd rfl rfl (Z109_walk gx48) ?_
          refine Sd As ?_;refine DOps.nil (by decide +kernel) ?_;refine seqR (S Mv (S BI (nil ?_)));refine cE hE (fun hc50 hE=>?_) (fun hc50 hE=>?_)
          ·refine AWp.exit ?_;exact hK4 _ x48 wA hE
          refine sk hK44 ?_;clear hK44 K44;refine AWp.seqD (Sd Fv ?_);refine DOps.s0 (loadV (TK rfl) rfl rfl (congrArg (fun x=>some (A.d x)) (Z11.FItemsD_eq _))) rfl ?_;refine Sd Mv ?_;obtain⟨x52,gx52,hE⟩:=bO hE;refine DOps.s0 (idxM (f:=Z11.c) (TK rfl) rfl (TK rfl) rfl rfl rfl gx52) rfl ?_;refine Sd Ld (Sd Fv ?_);refine DOps.s0 (loadV (TK rfl) rfl rfl (congrArg (fun x=>some (A.d x)) (Z11.FItemsD_eq _))) rfl ?_
          refine Sd Mv ?_;obtain⟨x53,gx53,hE⟩:=bO hE;refine DOps.s0 (idxM (f:=Z11.c) (TK rfl) rfl (TK rfl) rfl rfl rfl gx53) rfl ?_;refine Sd Ld ?_;obtain⟨x54,gx54,hE⟩:=bO hE;refine Scd rfl rfl (ih_84 gx54) ?_;refine Sd As ?_;refine DOps.nil (by decide +kernel) ?_;refine seqR (S Mv (S BI (nil ?_)));refine cE hE (fun hc56 hE=>?_) (fun hc56 hE=>?_)
          ·refine AWp.exit ?_;exact hK4 _ x54 wA hE
          refine sk hK42 ?_;clear hK42 K42;refine region ?_;obtain⟨x57,gx57,hE⟩:=bO hE;refine s0 (addM rfl rfl gx57) rfl ?_;refine S Mv (nil ?_);exact hK37 _ (n37,x57) wA hE (nS _)
         refine AWp.exit ?_;exact hK30 _ () wA hE
      rintro _ hE;try dsimp only at hE
      unfold Z125_j30 at hE;refine region ?_;refine S Fv ?_;refine s0 (loadV (TK rfl) rfl rfl (congrArg (fun x=>some (A.d x)) (Z11.FItemsD_eq _))) rfl ?_;refine sLen (f:=Z11.c) (s:=a0.FItems) (TK rfl) rfl rfl rfl rfl fun hL31=>?_;refine S Fv ?_;refine s0 (loadV (TK rfl) rfl rfl (congrArg (fun x=>some (A.d x)) (Z11.FItemsD_eq _))) rfl ?_;refine sLen (f:=Z11.c) (s:=a1.FItems) (TK rfl) rfl rfl rfl rfl fun hL32=>?_
      obtain⟨x33,gx33,hE⟩:=bO hE;refine Sc rfl rfl (Z14_walk gx33) ?_;refine S As (nil ?_);exact hK14 _ x33 wA hE
     rintro s5_15 hE;try dsimp only at hE
     unfold Z125_j14 at hE;refine region ?_;obtain⟨x16,gx16,hE⟩:=bO hE;refine s0 (addM rfl rfl gx16) rfl ?_;refine S Mv (nil ?_);exact hK8 _ (n8,s5_15,x16) wA hE (nS _)
    refine AWp.exit ?_;exact hK4 _ s5_9 wA hE
 rintro s5_5 hE;try dsimp only at hE
 unfold Z125_j4 at hE;refine seqR (S Mv (S As (nil ?_)));refine AWp.ret ?_;repeat (first|refine xBlock_ret ?_|refine xThen_ret ?_|refine noG_ret ?_)
 obtain rfl:=oJ hE;refine retQ.retF H rfl ⟨rfl,rfl⟩ ?_;exact(fun _ _ h=>h)
theorem Z125_all:∀(n:Nat),(∀{a0 a1:Z11}{r:Int},Z125_n n a0 a1=some r->∀(H:Heap),AC Tryz.prog 84 [.agg (Z11.c a0),.agg (Z11.c a1)] H fun v h'=>v=.a (.d (.int .i64 r))/\h'=H)
 | 0=>fun hE=>by first|cases hE|(rw [Z125_n] at hE; cases hE)
 | n+1=>Z125_step n (Z125_all n)
def Z125 (a0:Z11) (a1:Z11):Option Int:=Z125_n F0 a0 a1
theorem Z125_walk {a0 a1:Z11}{r:Int}(hE:Z125 a0 a1=some r) (H:Heap) :AC Tryz.prog 84 [.agg (Z11.c a0),.agg (Z11.c a1)] H fun v h'=>v=.a (.d (.int .i64 r))/\h'=H:=(Z125_all F0) hE H 
def Z130 (a0:Z11) (a1:Z11):Option Bool:=(Z125 a0 a1).bind fun x3=>some (decide (x3=(0:Int)))
theorem Z130_walk {a0 a1:Z11}{r:Bool}(hE:Z130 a0 a1=some r) (H:Heap) :AC Tryz.prog 45 [.agg (Z11.c a0),.agg (Z11.c a1)] H fun v h'=>v=.a (.d (.bool r))/\h'=H:=by
 unfold Z130 at hE;refine AC.oW 9 [.tmp 4] Tryz.call45 Tryz.func45 ?_;refine seqR (S BX (S BX (S As (nil ?_))));refine seqR (S Ld (S Ld ?_));obtain⟨x3,gx3,hE⟩:=bO hE;refine Sc rfl rfl (Z125_walk gx3) ?_;refine S BI (S As (nil ?_));exact rt hE
def Z80_j2  (y3_l0:Z6):Option (Z6×Bool):=some ((Z6.mk ([]:Bs) TRef.zero false Z11.zero (Sl.nil:Sl TDir)),false)
def Z80_l7 (a0:(Sl Z6)) (a1:Bs) :Nat->Nat->Z6->Option (Z6×Bool)
 | 0,_,_=>none
 | n7+1,s10_8,y9_l0=>bif (decide (((s10_8:Nat):Int)<((a0.l.length:Nat):Int))) then((a0.l[s10_8]?).bind fun x15=>bif ((x15.FName==a1)) then(some (x15,true)) else((Z80_l7 a0 a1 n7) (s10_8+1) y9_l0)) else(Z80_j2   y9_l0)
def Z80 (a0:(Sl Z6)) (a1:Bs):Option (Z6×Bool):=Z80_l7 a0 a1 (a0.l.length+1) 0 Z6.zero
theorem Z80_walk {a0:Sl Z6}{a1:Bs}{w0:Option Nat}{r:Z6×Bool}(hE:Z80 a0 a1=some r) (H:Heap) :AC Tryz.prog 170 [.d (Sl.d 10 Z6.c w0 a0),.d (.str a1)] H fun v h'=>v=.tup [.agg (Z6.c r.1),.d (.bool r.2)]/\h'=H:=by
 unfold Z80 at hE;refine AC.oW 21 [.cell 4 148,.tmp 5] Tryz.call170 Tryz.func170 ?_;refine seqR ?_;refine Sl ?_;refine S As (nil ?_);refine seqJ (TA 4 kN) (fun(z:Z6)=>[]) (fun z=>[Z6.c z]) (fun z=>H) (fun z=>Z80_j2 z=some r) ?_ ?_
 ·intro K2 hK2;refine seqR (S Mv ?_);refine sLen (f:=Z6.c) (s:=a0) (TK rfl) rfl rfl rfl rfl fun hL6=>?_;refine S Mv (nil ?_);refine block ?_;refine loopO (TA 1 (TA 4 (TA 8 (TA 9 kN)))) (fun(z:Nat×Nat×Z6)=>[(10,.a (.d (.int .i64 ((z.2.1:Nat):Int))))]) (fun z=>[Z6.c z.2.2]) (fun z=>H) (fun z=>z.1) (fun z=>Z80_l7 a0 a1 z.1 z.2.1 z.2.2=some r) ((a0.l.length+1),0,Z6.zero) hE wA ?_;rintro ⟨n7,s10_8,y9_l0⟩ hE K7 hK7
  try dsimp only at hE
  cases n7 with
  | zero=>cases hE
  | succ n7 =>
    rw [Z80_l7] at hE;refine seqR (S BI (nil ?_));refine seqK fun K11 hK11=>?_;refine cE hE (fun hc12 hE=>?_) (fun hc12 hE=>?_)
    ·try dsimp only at hc12
     have hf12:=oD hc12;refine sk hK11 ?_;clear hK11 K11;refine seqK fun K13 hK13=>?_;refine block ?_;refine seqR ?_;obtain⟨x15,gx15,hE⟩:=bO hE;refine S (ix Z6.c s10_8 gx15) (S Ld ?_);refine Sl ?_;refine Sf ?_;refine nil ?_;refine freezeA 7 _ rfl (KA 1 (KA 4 (KA 8 (KA 9 (KA 10 Keeps.nil))))) ?_;refine seqR (S Fv (S Ld (S Mv (S BS (nil ?_)))));refine cE hE (fun hc17 hE=>?_) (fun hc17 hE=>?_)
     ·refine seqR (S Ld ?_);refine Sf ?_;refine S As (nil ?_);exact rt hE
     refine sk hK13 ?_;clear hK13 K13;refine region ?_;refine SI ?_;refine S Mv (nil ?_);exact hK7 _ (n7,(s10_8+1),y9_l0) wA hE (nS _)
    refine AWp.exit ?_;exact hK2 _ y9_l0 wA hE
 rintro y3_l0 hE;try dsimp only at hE
 unfold Z80_j2 at hE;refine seqR (S BU ?_);refine Sf ?_;refine S As (nil ?_);exact rt hE
def Z87 (a0:(Sl Bs)):Option (Sl Bs):=bif a0.nl then(some (Sl.nil:Sl Bs)) else((appC 16 (⟨false,[]⟩:Sl Bs) a0).bind fun x7=>some x7)
theorem Z87_walk {a0:Sl Bs}{w0:Option Nat}{r:Sl Bs}(hE:Z87 a0=some r) (H:Heap) :AC Tryz.prog 190 [.d (Sl.d 1 strE w0 a0)] H fun v h'=>v=.a (.d (Sl.d 1 strE none r))/\h'=H:=by
 unfold Z87 at hE;refine AC.oW 8 [.tmp 2] Tryz.call190 Tryz.func190 ?_;refine seqR ?_;refine s0 (assignNil (k':=1) rfl) rfl ?_;refine nil ?_;refine seqK fun K2 hK2=>?_;refine seqR (S Mv ?_);refine s0 (eqNil (TK rfl) rfl rfl) rfl ?_;refine nil ?_;refine cE hE (fun hc4 hE=>?_) (fun hc4 hE=>?_)
 ·refine seqR ?_;refine s0 (assignNil (k':=1) rfl) rfl ?_;refine nil ?_;exact rt hE
 refine sk hK2 ?_;clear hK2 K2;refine seqR ?_;refine s0 (buildSliceF (TK rfl) rfl (TK rfl) rfl rfl rfl rfl rfl rfl) rfl ?_;refine S Mv ?_;obtain⟨x7,gx7,hE⟩:=bO hE;refine s0 (appFM (f:=strE) (TK rfl) rfl (TK rfl) (TK rfl) ⟨_,rfl⟩ rfl rfl (by decide) rfl rfl rfl (by intro q h; cases h<;>decide) rfl rfl gx7) rfl ?_;refine S As (nil ?_);exact rt hE
def Z133_j3  (s3_4:(Sl Z11)):Option (Sl Z11):=some s3_4
def Z133_l8 (a0:(Sl Z11)) (k_rec_141:Z11->Option Z11):Nat->(Sl Z11)->Nat->Option (Sl Z11)
 | 0,_,_=>none
 | n8+1,s3_9,s8_10=>bif (decide (((s8_10:Nat):Int)<((a0.l.length:Nat):Int))) then((a0.l[s8_10]?).bind fun x16=>(k_rec_141 x16).bind fun x17=>(appC 80 s3_9 (⟨false,[x17]⟩:Sl Z11)).bind fun x18=>(Z133_l8 a0 k_rec_141 n8) x18 (s8_10+1)) else(Z133_j3   s3_9)
mutual
def value_Copy_n:Nat->Z11->Option Z11
 | 0,_=>none
 | n+1,a0=>((Z133_n n) a0.FItems).bind fun x3=>(Z87 a0.FKeys).bind fun x5=>some (Z11.mk a0.FKind a0.FInt a0.FText x3.nl x3.l x5)
def Z133_n:Nat->(Sl Z11)->Option (Sl Z11)
 | 0,_=>none
 | n+1,a0=>Z133_l8 a0 (value_Copy_n n) (a0.l.length+1) (Sl.nil:Sl Z11) 0
end
theorem value_Copy_step (n:Nat) (ih_141:∀{a0 r:Z11},value_Copy_n n a0=some r->∀(H:Heap),AC Tryz.prog 141 [.agg (Z11.c a0)] H fun v h'=>v=.a (.agg (Z11.c r))/\h'=H) (ih_189:∀{a0:Sl Z11}{w0:Option Nat}{r:Sl Z11},Z133_n n a0=some r->∀(H:Heap),AC Tryz.prog 189 [.d (Sl.d 5 Z11.c w0 a0)] H fun v h'=>v=.a (.d (Sl.d 5 Z11.c none r))/\h'=H):∀{a0 r:Z11},value_Copy_n (n+1) a0=some r->∀(H:Heap),AC Tryz.prog 141 [.agg (Z11.c a0)] H fun v h'=>v=.a (.agg (Z11.c r))/\h'=H:=by
 intro a0   r hE H ;rw [value_Copy_n] at hE;refine AC.oW 12 [.cell 2 58] Tryz.call141 Tryz.func141 ?_;refine seqR ?_;refine sL (boxL rfl (by repeat (first|exact Snoc.nil|apply Snoc.cons))) rfl ?_;refine Sl ?_;refine nil ?_;refine seqR (S FL ?_);refine AOps.relocal 0 (Z11.cu a0) rfl (fun j w cs hh hx=>by rw [<- Z11.cu_eq]; exact hx) ?_;refine S LL ?_;obtain⟨x3,gx3,hE⟩:=bO hE;refine Sc rfl rfl (ih_189 gx3) ?_
 refine S FL ?_;refine Sf ?_;refine AOps.relocal 0 (Z11.c (Z11.mk a0.FKind a0.FInt a0.FText x3.nl x3.l a0.FKeys)) rfl (fun j w cs hh hx=>by rw [Z11.cu_eq]; exact hx) ?_;refine nil ?_;refine seqR (S FL (S LL ?_));obtain⟨x5,gx5,hE⟩:=bO hE;refine Sc rfl rfl (Z87_walk gx5) ?_;refine S FL ?_;refine AOps.relocal 0 (Z11.cu (Z11.mk a0.FKind a0.FInt a0.FText x3.nl x3.l a0.FKeys)) rfl (fun j w cs hh hx=>by rw [<- Z11.cu_eq]; exact hx) ?_
 refine Sf ?_;refine AOps.relocal 0 (Z11.c (Z11.mk a0.FKind a0.FInt a0.FText x3.nl x3.l x5)) rfl (fun j w cs hh hx=>by rw [Z11.cu_eq]; exact hx) ?_;refine nil ?_;refine seqR (S LL ?_);refine Sf ?_;refine nil ?_;exact rt hE
theorem Z133_step (n:Nat) (ih_141:∀{a0 r:Z11},value_Copy_n n a0=some r->∀(H:Heap),AC Tryz.prog 141 [.agg (Z11.c a0)] H fun v h'=>v=.a (.agg (Z11.c r))/\h'=H) (ih_189:∀{a0:Sl Z11}{w0:Option Nat}{r:Sl Z11},Z133_n n a0=some r->∀(H:Heap),AC Tryz.prog 189 [.d (Sl.d 5 Z11.c w0 a0)] H fun v h'=>v=.a (.d (Sl.d 5 Z11.c none r))/\h'=H):∀{a0:Sl Z11}{w0:Option Nat}{r:Sl Z11},Z133_n (n+1) a0=some r->∀(H:Heap),AC Tryz.prog 189 [.d (Sl.d 5 Z11.c w0 a0)] H fun v h'=>v=.a (.d (Sl.d 5 Z11.c none r))/\h'=H:=by
 intro a0 w0  r hE H ;rw [Z133_n] at hE;refine AC.oW 19 [.tmp 2] Tryz.call189 Tryz.func189 ?_;refine AWp.tok 5 fun tk1 htk1=>?_;refine seqR ?_;refine s0 (assignNil (k':=5) rfl) rfl ?_;refine nil ?_;refine seqR (S As (nil ?_));refine AWp.nilTok 3 5 tk1 rfl hpG ?_;refine seqJH kN (fun(z:(Sl Z11))=>[(3,.a (.d (Sl.d 5 Z11.c (some tk1) z)))]) (fun z=>(H.set tk1 (some (.tok 5 z.l.length)))) (fun z=>Z133_j3 z=some r) ?_ ?_
 ·intro K3 hK3;refine seqR (S Mv ?_);refine sLen (f:=Z11.c) (s:=a0) (TK rfl) rfl rfl rfl rfl fun hL7=>?_;refine S Mv (nil ?_);refine block ?_;refine loopH (TA 6 (TA 7 kN)) (fun(z:Nat×(Sl Z11)×Nat)=>[(3,.a (.d (Sl.d 5 Z11.c (some tk1) z.2.1))),(8,.a (.d (.int .i64 ((z.2.2:Nat):Int))))]) (fun z=>(H.set tk1 (some (.tok 5 z.2.1.l.length)))) (fun z=>z.1) (fun z=>Z133_l8 a0 (value_Copy_n n) z.1 z.2.1 z.2.2=some r) ((a0.l.length+1),(Sl.nil:Sl Z11),0) hE wA ?_
  rintro ⟨n8,s3_9,s8_10⟩ hE K8 hK8;try dsimp only at hE
  cases n8 with
  | zero=>cases hE
  | succ n8 =>
    rw [Z133_l8] at hE;refine seqR (S BI (nil ?_));refine seqK fun K12 hK12=>?_;refine cE hE (fun hc13 hE=>?_) (fun hc13 hE=>?_)
    ·try dsimp only at hc13
     have hf13:=oD hc13;refine sk hK12 ?_;clear hK12 K12;refine seqK fun K14 hK14=>?_;refine block ?_;refine seqR ?_;obtain⟨x16,gx16,hE⟩:=bO hE;refine S (ix Z11.c s8_10 gx16) (S Ld ?_);refine Sl ?_;refine Sf ?_;refine nil ?_;refine freezeA 5 _ rfl (KA 3 (KA 6 (KA 7 (KA 8 Keeps.nil)))) ?_;refine region ?_;refine S Mv (S Ld ?_);obtain⟨x17,gx17,hE⟩:=bO hE;refine Sc rfl rfl (ih_141 gx17) ?_
     refine S BV ?_;obtain⟨x18,gx18,hE⟩:=bO hE;refine SH (am Z11.c (TK rfl) rfl (TK rfl) (TK rfl) gx18) ?_;refine hq (H.set tk1 (some (.tok 5 x18.l.length))) ?_;refine S As (nil ?_);refine hK14 _ ?_;clear hK14 K14;refine region ?_;refine SI ?_;refine S Mv (nil ?_);exact hK8 _ (n8,x18,(s8_10+1)) wA hE (nS _)
    refine AWp.exit ?_;exact hK3 _ s3_9 wA hE
 rintro s3_4 hE;try dsimp only at hE
 unfold Z133_j3 at hE;refine seqR (S Mv (S As (nil ?_)));refine AWp.dropTok 2 rfl ?_;refine AWp.ret ?_;repeat (first|refine xBlock_ret ?_|refine xThen_ret ?_)
 obtain rfl:=oJ hE;refine retQ.retF H rfl ⟨rfl,rfl⟩ ?_
 first|exact Heap.sub_set htk1|(simp only [Heap.set_set]; exact Heap.sub_set htk1)
theorem value_Copy_all:∀(n:Nat),(∀{a0 r:Z11},value_Copy_n n a0=some r->∀(H:Heap),AC Tryz.prog 141 [.agg (Z11.c a0)] H fun v h'=>v=.a (.agg (Z11.c r))/\h'=H)/\(∀{a0:Sl Z11}{w0:Option Nat}{r:Sl Z11},Z133_n n a0=some r->∀(H:Heap),AC Tryz.prog 189 [.d (Sl.d 5 Z11.c w0 a0)] H fun v h'=>v=.a (.d (Sl.d 5 Z11.c none r))/\h'=H)
 | 0=>⟨fun hE=>by first|cases hE|(rw [value_Copy_n] at hE; cases hE),fun hE=>by first|cases hE|(rw [Z133_n] at hE; cases hE)⟩
 | n+1=>⟨value_Copy_step n (value_Copy_all n).1 (value_Copy_all n).2,Z133_step n (value_Copy_all n).1 (value_Copy_all n).2⟩
def value_Copy (a0:Z11):Option Z11:=value_Copy_n F0 a0
theorem value_Copy_walk {a0 r:Z11}(hE:value_Copy a0=some r) (H:Heap) :AC Tryz.prog 141 [.agg (Z11.c a0)] H fun v h'=>v=.a (.agg (Z11.c r))/\h'=H:=(value_Copy_all F0).1 hE H 
def Z28 (a0:Z11) (a1:Int):Option (Z11×Int):=bif (!decide (a1=(0:Int))) then(some ((Z11.mk (0:Int) (0:Int) ([]:Bs) true ([]) (Sl.nil:Sl Bs)),a1)) else((value_Copy a0).bind fun x7=>some (x7,(0:Int)))
theorem Z28_walk {a0:Z11}{a1:Int}{r:Z11×Int}(hE:Z28 a0 a1=some r) (H:Heap) :AC Tryz.prog 212 [.agg (Z11.c a0),.d (.int .i64 a1)] H fun v h'=>v=.tup [.agg (Z11.c r.1),.d (.int .i64 r.2)]/\h'=H:=by
 unfold Z28 at hE;refine AC.oW 12 [.cell 4 58,.tmp 5] Tryz.call212 Tryz.func212 ?_;refine seqR (S BX ?_);refine Sl ?_;refine S As (nil ?_);refine seqK fun K2 hK2=>?_;refine seqR (S Mv (S BI (nil ?_)));refine cE hE (fun hc4 hE=>?_) (fun hc4 hE=>?_)
 ·refine seqR (S BU (S Mv ?_));refine Sf ?_;refine S As (nil ?_);exact rt hE
 refine sk hK2 ?_;clear hK2 K2;refine seqR (S Ld ?_);obtain⟨x7,gx7,hE⟩:=bO hE;refine Sc rfl rfl (value_Copy_walk gx7) ?_;refine Sf ?_;refine S As (nil ?_);exact rt hE
def Z84 (a0:Bs):Option Bool:=some (((((a0==([73,110,116]:Bs)))||((a0==([83,116,114,105,110,103]:Bs))))||((a0==([66,111,111,108,101,97,110]:Bs))))||((a0==([73,68]:Bs))))
theorem Z84_walk {a0:Bs}{r:Bool}(hE:Z84 a0=some r) (H:Heap) :AC Tryz.prog 174 [.d (.str a0)] H fun v h'=>v=.a (.d (.bool r))/\h'=H:=by
 unfold Z84 at hE;refine AC.oW 17 [.tmp 2] Tryz.call174 Tryz.func174 ?_;refine seqR (S As (nil ?_));refine seqR (S Mv (S BS (S Mv (G0 Mv ?_))));refine G1 6 rfl BS ?_;refine S PO (S Mv (G0 Mv ?_));refine G1 10 rfl BS ?_;refine S PO (S Mv (G0 Mv ?_));refine G1 14 rfl BS ?_;refine S PO (S As (nil ?_));exact rt hE
def Z127 (a0:Z11) (a1:Bs):Option (Z11×Bool):=(Z103 a0.FKeys a1).bind fun x3=>bif (((!decide (a0.FKind=(6:Int)))||(decide (x3<(0:Int))))||(decide (((a0.FItems.l.length:Nat):Int)<=x3))) then(some ((Z11.mk (0:Int) (0:Int) ([]:Bs) true ([]) (Sl.nil:Sl Bs)),false)) else((idxC a0.FItems.l x3).bind fun x9=>(value_Copy x9).bind fun x10=>some (x10,true))
theorem Z127_walk {a0:Z11}{a1:Bs}{r:Z11×Bool}(hE:Z127 a0 a1=some r) (H:Heap) :AC Tryz.prog 237 [.agg (Z11.c a0),.d (.str a1)] H fun v h'=>v=.tup [.agg (Z11.c r.1),.d (.bool r.2)]/\h'=H:=by
 unfold Z127 at hE;refine AC.oW 32 [.cell 4 58,.tmp 5] Tryz.call237 Tryz.func237 ?_;refine seqR (S BX ?_);refine Sl ?_;refine S As (nil ?_);refine seqR (S Fv (S Ld (S Mv ?_)));obtain⟨x3,gx3,hE⟩:=bO hE;refine Sc rfl rfl (Z103_walk gx3) ?_;refine S As (nil ?_);refine seqK fun K4 hK4=>?_;refine seqR (S Fv (S Ld (S BI (S Mv (G0 Mv ?_)))));refine G1 15 rfl BI ?_;refine S PO (S Mv (G0 Mv (G0 Fv ?_)))
 refine gC rfl rfl (fun hC=>ungdA (k:=20) rfl (loadV (TK rfl) rfl rfl (congrArg (fun x=>some (A.d x)) (Z11.FItemsD_eq _)))) rfl ?_;refine gC rfl rfl (fun hC=>ungdA (k:=21) rfl (lenM' (f:=Z11.c) (s:=a0.FItems) (TK rfl) rfl rfl rfl)) rfl ?_;refine G2 19 22 rfl rfl BI ?_;refine S PO (nil ?_);refine cE hE (fun hc6 hE=>?_) (fun hc6 hE=>?_)
 ·refine seqR (S BU ?_);refine Sf ?_;refine S As (nil ?_);exact rt hE
 refine sk hK4 ?_;clear hK4 K4;refine seqR (S Fv ?_);refine s0 (loadV (TK rfl) rfl rfl (congrArg (fun x=>some (A.d x)) (Z11.FItemsD_eq _))) rfl ?_;refine S Mv ?_;obtain⟨x9,gx9,hE⟩:=bO hE;refine s0 (idxM (f:=Z11.c) (TK rfl) rfl (TK rfl) rfl rfl rfl gx9) rfl ?_;refine S Ld ?_;obtain⟨x10,gx10,hE⟩:=bO hE;refine Sc rfl rfl (value_Copy_walk gx10) ?_;refine Sf ?_;refine S As (nil ?_);exact rt hE
def Z85 (a0:TDoc) (a1:Bs):Option Int:=(Z79 a0 a1).bind fun x3=>some x3.1.FKind
theorem Z85_walk {a0:TDoc}{a1:Bs}{r:Int}(hE:Z85 a0 a1=some r) (H:Heap) :AC Tryz.prog 175 [.agg (TDoc.c a0),.d (.str a1)] H fun v h'=>v=.a (.d (.int .i64 r))/\h'=H:=by
 unfold Z85 at hE;refine AC.oW 15 [.tmp 4] Tryz.call175 Tryz.func175 ?_;refine seqR (S BX (S As (nil ?_)));refine seqR (S Ld (S Mv ?_));obtain⟨x3,gx3,hE⟩:=bO hE;refine Sc rfl rfl (Z79_walk gx3) ?_;refine S Mv (S EX (S EX ?_));refine Sl ?_;refine Sf ?_;refine S As (nil ?_);refine freezeA 5 _ rfl Keeps.nil ?_;refine seqR (S Fv (S Ld (S As (nil ?_))));exact rt hE
def Z82 (a0:TDoc) (a1:Bs):Option Bool:=(Z84 a1).bind fun x3=>guardO (!x3) (Z85 a0 a1) (0:Int) fun x4=>some (x3||(decide (x4=(4:Int))))
theorem Z82_walk {a0:TDoc}{a1:Bs}{r:Bool}(hE:Z82 a0 a1=some r) (H:Heap) :AC Tryz.prog 111 [.agg (TDoc.c a0),.d (.str a1)] H fun v h'=>v=.a (.d (.bool r))/\h'=H:=by
 unfold Z82 at hE;refine AC.oW 13 [.tmp 4] Tryz.call111 Tryz.func111 ?_;refine seqR (S BX (S As (nil ?_)));refine seqR (S Mv ?_);obtain⟨x3,gx3,hE⟩:=bO hE;refine Sc rfl rfl (Z84_walk gx3) ?_;refine S Mv (G0 Ld (G0 Mv ?_));obtain⟨x4,gx4,hE⟩:=gO hE;refine Gc2 8 9 rfl rfl rfl rfl rfl rfl (fun hC=>Z85_walk (gx4 hC)) ?_;refine G1 10 rfl BI ?_;refine S PO (S As (nil ?_));exact rt hE
end Go.Proofs
