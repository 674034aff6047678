import Derived.Test.YtiamohifcjoepaaGreatDoorE3
import Derived.Test.YtiamohifcjoepaaGreatDoorTab
set_option maxRecDepth 100000
set_option maxHeartbeats 2000000
set_option linter.unusedVariables false
set_option linter.unusedSimpArgs false
namespace Go.Proofs
open Go Go.Ab
inductive Z9 where
 | mk (FKind:Int) (FInt:Int) (FText:Bs) (FItems_nl:Bool) (FItems_l:List Z9) (FKeys:(Sl Bs))
def Z9.FKind:Z9->Int|.mk x _ _ _ _ _=>x
def Z9.FInt:Z9->Int|.mk _ x _ _ _ _=>x
def Z9.FText:Z9->Bs|.mk _ _ x _ _ _=>x
def Z9.FItems:Z9->(Sl Z9)|.mk _ _ _ nl l _=>⟨nl,l⟩
def Z9.FKeys:Z9->(Sl Bs)|.mk _ _ _ _ _ x=>x
noncomputable def Z9.FItemsD:Z9->D:=@Z9.rec (fun _=>D) (fun _=>List (List D)) (fun _ _ _ nl _ _ ih=>.slice 5 none nl ih) [] (fun v _ ih ihl=>((intE .i64) v.FKind++(intE .i64) v.FInt++strE v.FText++[ih]++(fun s=>[Sl.d 1 strE none s]) v.FKeys)::ihl)
noncomputable def Z9.c (v:Z9):List D:=(intE .i64) v.FKind++(intE .i64) v.FInt++strE v.FText++[v.FItemsD]++(fun s=>[Sl.d 1 strE none s]) v.FKeys
theorem Z9.FItemsD_eq (v:Z9):v.FItemsD=Sl.d 5 Z9.c none v.FItems:=by
 cases v with
 | mk y_Kind y_Int y_Text nl l y_Keys =>
  show D.slice 5 none nl _=D.slice 5 none nl (l.map Z9.c)
  congr 1
  induction l with
  | nil=>rfl
  | cons a r ih=>exact congrArg (Z9.c a::·) ih
noncomputable def Z9.cu (v:Z9):List D:=(intE .i64) v.FKind++(intE .i64) v.FInt++strE v.FText++[Sl.d 5 Z9.c none v.FItems]++(fun s=>[Sl.d 1 strE none s]) v.FKeys
theorem Z9.cu_eq (v:Z9):v.c=v.cu:=by unfold Z9.c Z9.cu; rw [Z9.FItemsD_eq]
def Z9.zero:Z9:=.mk (0:Int) (0:Int) ([]:Bs) true [] (Sl.nil:Sl Bs)
structure TArg where
 FName:Bs
 FValue:Z9
noncomputable def TArg.c (x:TArg):List D:=strE x.FName++Z9.c x.FValue
structure TDir where
 FName:Bs
 FArgs:(Sl TArg)
noncomputable def TDir.c (x:TDir):List D:=[.str x.FName,Sl.d 6 TArg.c none x.FArgs]
structure TRef where
 FName:Bs
 FWraps:(Sl Int)
noncomputable def TRef.c (x:TRef):List D:=[.str x.FName,Sl.d 1 (intE .i64) none x.FWraps]
def TRef.zero:TRef:=⟨([]:Bs),(Sl.nil:Sl Int)⟩
structure Z7 where
 FName:Bs
 FType:TRef
 FHas:Bool
 FDefault:Z9
 FDirs:(Sl TDir)
noncomputable def Z7.c (x:Z7):List D:=strE x.FName++TRef.c x.FType++boolE x.FHas++Z9.c x.FDefault++(fun s=>[Sl.d 2 TDir.c none s]) x.FDirs
structure Z6 where
 FName:Bs
 FArgs:(Sl Z7)
 FType:TRef
 FDirs:(Sl TDir)
noncomputable def Z6.c (x:Z6):List D:=strE x.FName++(fun s=>[Sl.d 10 Z7.c none s]) x.FArgs++TRef.c x.FType++(fun s=>[Sl.d 2 TDir.c none s]) x.FDirs
def Z6.zero:Z6:=⟨([]:Bs),(Sl.nil:Sl Z7),TRef.zero,(Sl.nil:Sl TDir)⟩
structure Z8 where
 FName:Bs
 FDirs:(Sl TDir)
noncomputable def Z8.c (x:Z8):List D:=[.str x.FName,Sl.d 2 TDir.c none x.FDirs]
structure TDef where
 FKind:Int
 FName:Bs
 FImplements:(Sl Bs)
 FDirs:(Sl TDir)
 FFields:(Sl Z6)
 FMembers:(Sl Z8)
 FInputs:(Sl Z7)
noncomputable def TDef.c (x:TDef):List D:=[.int .i64 x.FKind,.str x.FName,Sl.d 1 strE none x.FImplements,Sl.d 2 TDir.c none x.FDirs,Sl.d 5 Z6.c none x.FFields,Sl.d 2 Z8.c none x.FMembers,Sl.d 10 Z7.c none x.FInputs]
def TDef.zero:TDef:=⟨(0:Int),([]:Bs),(Sl.nil:Sl Bs),(Sl.nil:Sl TDir),(Sl.nil:Sl Z6),(Sl.nil:Sl Z8),(Sl.nil:Sl Z7)⟩
structure TDoc where
 FDefs:(Sl TDef)
noncomputable def TDoc.c (x:TDoc):List D:=[Sl.d 7 TDef.c none x.FDefs]
def TDoc.zero:TDoc:=⟨(Sl.nil:Sl TDef)⟩
structure Z5 where
 FErr:Int
 FAt:Bs
def Z5.c (x:Z5):List D:=[.int .i64 x.FErr,.str x.FAt]
structure Z3 where
 Finclude:(Sl Bs)
 Fexclude:(Sl Bs)
noncomputable def Z3.c (x:Z3):List D:=[Sl.d 1 strE none x.Finclude,Sl.d 1 strE none x.Fexclude]
structure Z2 where
 Fd:TDoc
 Fchanged:Bool
noncomputable def Z2.c (x:Z2):List D:=TDoc.c x.Fd++boolE x.Fchanged
structure Z4 where
 Fd:TDoc
 Ffaults:(Sl Z5)
noncomputable def Z4.cg (t1:Option Nat) (x:Z4):List D:=TDoc.c x.Fd++[Sl.d 2 Z5.c t1 x.Ffaults]
structure Z0 where
 Fd:TDoc
 Fout:(Sl Z5)
noncomputable def Z0.cg (t1:Option Nat) (x:Z0):List D:=TDoc.c x.Fd++[Sl.d 2 Z5.c t1 x.Fout]
structure Z1 where
 Fd:TDoc
 Fvars:Z9
 Fliteral:Bool
 Fnodes:Int
end Go.Proofs

namespace Go.Proofs
open Go Go.Ab Go.RowKit
section
variable {H:Type}{B:DataW H->Nat}(hB:Bulk B)
noncomputable def Z9.sz:Z9->Nat:=@Z9.rec (fun _=>Nat) (fun _=>Nat) (fun y_Kind y_Int y_Text nl l y_Keys ih=>(fun _=>1) y_Kind+((fun _=>1) y_Int+(Bs.sz y_Text+((1+ih)+((Sl.sz Bs.sz) y_Keys+(0)))))) 0 (fun _ _ ih ihl=>ih+ihl)
noncomputable def Z9.szL:List Z9->Nat:=@Z9.rec_1 (fun _=>Nat) (fun _=>Nat) (fun y_Kind y_Int y_Text nl l y_Keys ih=>(fun _=>1) y_Kind+((fun _=>1) y_Int+(Bs.sz y_Text+((1+ih)+((Sl.sz Bs.sz) y_Keys+(0)))))) 0 (fun _ _ ih ihl=>ih+ihl)
theorem Z9.szL_eq (l:List Z9):Z9.szL l=(l.map Z9.sz).sum:=by
 induction l with
 | nil=>rfl
 | cons a r ih=>exact congrArg (Z9.sz a+·) ih
theorem Z9.sz_eq (x:Z9):x.sz=(fun _=>1) x.FKind+((fun _=>1) x.FInt+(Bs.sz x.FText+((Sl.sz Z9.sz) x.FItems+((Sl.sz Bs.sz) x.FKeys+(0))))):=by
 cases x with
 | mk y_Kind y_Int y_Text nl l y_Keys =>
  show (fun _=>1) y_Kind+((fun _=>1) y_Int+(Bs.sz y_Text+((1+Z9.szL l)+((Sl.sz Bs.sz) y_Keys+(0)))))=_;rw [Z9.szL_eq]; rfl
def Z9.wf:Z9->Prop:=@Z9.rec (fun _=>Prop) (fun _=>Prop) (fun y_Kind y_Int y_Text nl l y_Keys ih=>i64 y_Kind/\(i64 y_Int/\((fun _=>True) y_Text/\(((nl=true->l=[])/\l.length<=maxN/\ih)/\((Sl.wf (fun _=>True)) y_Keys/\(True)))))) True (fun _ _ ih ihl=>ih/\ihl)
def Z9.wfL:List Z9->Prop:=@Z9.rec_1 (fun _=>Prop) (fun _=>Prop) (fun y_Kind y_Int y_Text nl l y_Keys ih=>i64 y_Kind/\(i64 y_Int/\((fun _=>True) y_Text/\(((nl=true->l=[])/\l.length<=maxN/\ih)/\((Sl.wf (fun _=>True)) y_Keys/\(True)))))) True (fun _ _ ih ihl=>ih/\ihl)
theorem Z9.wfL_iff (l:List Z9):Z9.wfL l↔∀x∈l,Z9.wf x:=by
 induction l with
 | nil=>exact⟨fun _ _ h=>(by cases h),fun _=>trivial⟩
 | cons a r ih =>
  show (Z9.wf a/\Z9.wfL r)↔_;rw [ih]; simp
theorem Z9.wf_iff (x:Z9):x.wf↔i64 x.FKind/\(i64 x.FInt/\((fun _=>True) x.FText/\((Sl.wf Z9.wf) x.FItems/\((Sl.wf (fun _=>True)) x.FKeys/\(True))))):=by
 cases x with
 | mk y_Kind y_Int y_Text nl l y_Keys =>
  show (i64 y_Kind/\(i64 y_Int/\((fun _=>True) y_Text/\(((nl=true->l=[])/\l.length<=maxN/\Z9.wfL l)/\((Sl.wf (fun _=>True)) y_Keys/\(True))))))↔_;rw [Z9.wfL_iff]; exact Iff.rfl
include hB in
theorem rd_TValue_48:∀N,RdN Tryz.prog B N 48 Z9.c Z9.sz Z9.wf:=by
 have key:∀N M,M<=N->RdN Tryz.prog B M 48 Z9.c Z9.sz Z9.wf:=by
  intro N;induction N with
  | zero=>intro M hM; rw [Nat.le_zero.1 hM]; exact .zero
  | succ N ih =>
   intro M hM;cases M with
   | zero=>exact .zero
   | succ N_ =>
    have hit:RdN Tryz.prog B N_ 45 (fun s:Sl Z9=>[Sl.d 5 Z9.c none s]) (Sl.sz Z9.sz) (Sl.wf Z9.wf):=by
     cases N_ with
     | zero=>exact .zero
     | succ M=>exact RdS.sliceN hB (Tryz.tab_ok 45 _ rfl) rfl (Tryz.tab_ok 48 _ rfl) rfl (by decide) (fun _=>rfl) (ih M (by omega))
    refine RdN.struct hB (Tryz.tab_ok 48 _ rfl) rfl (RdP.cons (n:=5) (o:=0) (o':=1) (Tryz.tab_ok 3 _ rfl) rfl ((RdS.int hB (Tryz.tab_ok 3 _ rfl) rfl) N_) (RdP.cons (n:=5) (o:=1) (o':=2) (Tryz.tab_ok 3 _ rfl) rfl ((RdS.int hB (Tryz.tab_ok 3 _ rfl) rfl) N_) (RdP.cons (n:=5) (o:=2) (o':=3) (Tryz.tab_ok 9 _ rfl) rfl ((RdS.str hB (Tryz.tab_ok 9 _ rfl) rfl) N_) (RdP.cons (n:=5) (o:=3) (o':=4) (Tryz.tab_ok 45 _ rfl) rfl hit (RdP.cons (n:=5) (o:=4) (o':=5) (Tryz.tab_ok 24 _ rfl) rfl ((RdS.slice hB (Tryz.tab_ok 24 _ rfl) rfl (Tryz.tab_ok 9 _ rfl) rfl (by decide) (fun _=>rfl) (RdS.str hB (Tryz.tab_ok 9 _ rfl) rfl)) N_) (RdP.nil (n:=5))))))) (fun a=>Z9.mk a.1 a.2.1 a.2.2.1 a.2.2.2.1.nl a.2.2.2.1.l a.2.2.2.2.1) (fun a=>?_) (fun a=>by rw [Z9.sz_eq]; exact Nat.le_refl _) (fun a h=>by rw [Z9.wf_iff]; exact h)
    unfold Z9.c;rw [Z9.FItemsD_eq];rfl
 exact fun N=>key N N (Nat.le_refl _)
noncomputable def TArg.sz (x:TArg):Nat:=Bs.sz x.FName+(Z9.sz x.FValue+(0))
def TArg.wf (x:TArg):Prop:=(fun _=>True) x.FName/\(Z9.wf x.FValue/\(True))
include hB in
theorem rd_TArg_51:∀N,RdN Tryz.prog B N 51 TArg.c TArg.sz TArg.wf:=RdA.struct hB (Tryz.tab_ok 51 _ rfl) rfl (fun N_=>(RdP.cons (n:=6) (o:=0) (o':=1) (Tryz.tab_ok 9 _ rfl) rfl ((RdS.str hB (Tryz.tab_ok 9 _ rfl) rfl) N_) (RdP.cons (n:=6) (o:=1) (o':=6) (Tryz.tab_ok 48 _ rfl) rfl ((rd_TValue_48 hB) N_) (RdP.nil (n:=6))))) (fun a=>(⟨a.1,a.2.1⟩:TArg)) (fun _=>rfl) (fun _=>Nat.le_refl _) (fun _ h=>h)
noncomputable def TDir.sz (x:TDir):Nat:=Bs.sz x.FName+((Sl.sz TArg.sz) x.FArgs+(0))
def TDir.wf (x:TDir):Prop:=(fun _=>True) x.FName/\((Sl.wf TArg.wf) x.FArgs/\(True))
include hB in
theorem rd_TDir_54:∀N,RdN Tryz.prog B N 54 TDir.c TDir.sz TDir.wf:=RdA.struct hB (Tryz.tab_ok 54 _ rfl) rfl (fun N_=>(RdP.cons (n:=2) (o:=0) (o':=1) (Tryz.tab_ok 9 _ rfl) rfl ((RdS.str hB (Tryz.tab_ok 9 _ rfl) rfl) N_) (RdP.cons (n:=2) (o:=1) (o':=2) (Tryz.tab_ok 52 _ rfl) rfl ((RdS.slice hB (Tryz.tab_ok 52 _ rfl) rfl (Tryz.tab_ok 51 _ rfl) rfl (by decide) (fun _=>rfl) (rd_TArg_51 hB)) N_) (RdP.nil (n:=2))))) (fun a=>(⟨a.1,a.2.1⟩:TDir)) (fun _=>rfl) (fun _=>Nat.le_refl _) (fun _ h=>h)
end
end Go.Proofs

namespace Go.Proofs
open Go Go.Ab
open AOps Cert AWp Keeps KeepsT
variable {lou:Lou}
def Z48 (a0:Bs):Option (Sl TDir):=some (⟨false,[(TDir.mk ([116,97,103]:Bs) (⟨false,[(TArg.mk ([110,97,109,101]:Bs) (Z9.mk (3:Int) (0:Int) a0 true ([]) (Sl.nil:Sl Bs)))]⟩:Sl TArg))]⟩:Sl TDir)
theorem Z48_walk {a0:Bs}{r:Sl TDir}(hE:Z48 a0=some r) (H:Heap) :AC Tryz.prog 7 [.d (.str a0)] H fun v h'=>v=.a (.d (Sl.d 2 TDir.c none r))/\h'=H:=by
 unfold Z48 at hE;refine AC.oW 9 [.tmp 2] Tryz.call7 Tryz.func7 ?_;refine seqR ?_;refine s0 (assignNil (k':=2) rfl) rfl ?_;refine nil ?_;refine seqR (S Mv (S BU (S BU (S BV (S BU (S BV (S As (nil ?_))))))));exact rt hE
def Z44_j2  (y3_l0:Z9):Option (Z9×Bool):=some ((Z9.mk (0:Int) (0:Int) ([]:Bs) true ([]) (Sl.nil:Sl Bs)),false)
def Z44_l7 (a0:TDir) (a1:Bs) :Nat->Nat->Z9->Option (Z9×Bool)
 | 0,_,_=>none
 | n7+1,s11_8,y9_l0=>bif (decide (((s11_8:Nat):Int)<((a0.FArgs.l.length:Nat):Int))) then((a0.FArgs.l[s11_8]?).bind fun x15=>bif ((x15.FName==a1)) then(some (x15.FValue,true)) else((Z44_l7 a0 a1 n7) (s11_8+1) y9_l0)) else(Z44_j2   y9_l0)
def Z44 (a0:TDir) (a1:Bs):Option (Z9×Bool):=Z44_l7 a0 a1 (a0.FArgs.l.length+1) 0 Z9.zero
theorem Z44_walk {a0:TDir}{a1:Bs}{r:Z9×Bool}(hE:Z44 a0 a1=some r) (H:Heap) :AC Tryz.prog 20 [.agg (TDir.c a0),.d (.str a1)] H fun v h'=>v=.tup [.agg (Z9.c r.1),.d (.bool r.2)]/\h'=H:=by
 unfold Z44 at hE;refine AC.oW 23 [.cell 4 48,.tmp 5] Tryz.call20 Tryz.func20 ?_;refine seqR (S BX ?_);refine Sl ?_;refine S As (nil ?_);refine seqJ (TA 4 kN) (fun(z:Z9)=>[]) (fun z=>[Z9.c z]) (fun z=>H) (fun z=>Z44_j2 z=some r) ?_ ?_
 ·intro K2 hK2;refine seqR (S Fv (S Ld ?_));refine sLen (f:=TArg.c) (s:=a0.FArgs) (TK rfl) rfl rfl rfl rfl fun hL6=>?_;refine S Mv (nil ?_);refine block ?_;refine loopO (TA 1 (TA 4 (TA 9 (TA 10 kN)))) (fun(z:Nat×Nat×Z9)=>[(11,.a (.d (.int .i64 ((z.2.1:Nat):Int))))]) (fun z=>[Z9.c z.2.2]) (fun z=>H) (fun z=>z.1) (fun z=>Z44_l7 a0 a1 z.1 z.2.1 z.2.2=some r) ((a0.FArgs.l.length+1),0,Z9.zero) hE wA ?_
  rintro ⟨n7,s11_8,y9_l0⟩ hE K7 hK7;try dsimp only at hE
  cases n7 with
  | zero=>cases hE
  | succ n7 =>
    rw [Z44_l7] at hE;refine seqR (S BI (nil ?_));refine seqK fun K11 hK11=>?_;refine cE hE (fun hc12 hE=>?_) (fun hc12 hE=>?_)
    ·try dsimp only at hc12
     have hf12:=oD hc12;refine sk hK11 ?_;clear hK11 K11;refine seqK fun K13 hK13=>?_;refine block ?_;refine seqR ?_;obtain⟨x15,gx15,hE⟩:=bO hE;refine S (ix TArg.c s11_8 gx15) (S Ld ?_);refine Sl ?_;refine Sf ?_;refine nil ?_;refine freezeA 7 _ rfl (KA 1 (KA 4 (KA 9 (KA 10 (KA 11 Keeps.nil))))) ?_;refine seqR (S Fv (S Ld (S Mv (S BS (nil ?_)))));refine cE hE (fun hc17 hE=>?_) (fun hc17 hE=>?_)
     ·refine seqR (S Fv (S Ld ?_));refine Sf ?_;refine S As (nil ?_);exact rt hE
     refine sk hK13 ?_;clear hK13 K13;refine region ?_;refine SI ?_;refine S Mv (nil ?_);exact hK7 _ (n7,(s11_8+1),y9_l0) wA hE (nS _)
    refine AWp.exit ?_;exact hK2 _ y9_l0 wA hE
 rintro y3_l0 hE;try dsimp only at hE
 unfold Z44_j2 at hE;refine seqR (S BU ?_);refine Sf ?_;refine S As (nil ?_);exact rt hE
def Z43_j3  (s7_4:(Sl Z9)):Option (Sl Z9):=some s7_4
def Z43_j14 (s14_10:Nat) (k_next_8:(Sl Z9)->Nat->Option (Sl Z9)) (s7_15:(Sl Z9)):Option (Sl Z9):=k_next_8 s7_15 (s14_10+1)
def Z43_l8 (a0:(Sl TDir)) (a1:Bs) (a2:Bs) :Nat->(Sl Z9)->Nat->Option (Sl Z9)
 | 0,_,_=>none
 | n8+1,s7_9,s14_10=>bif (decide (((s14_10:Nat):Int)<((a0.l.length:Nat):Int))) then((a0.l[s14_10]?).bind fun x17=>(Z44 x17 a2).bind fun x19=>bif (x19.2&&((x17.FName==a1))) then((appC 80 s7_9 (⟨false,[x19.1]⟩:Sl Z9)).bind fun x22=>Z43_j14 s14_10 ((Z43_l8 a0 a1 a2 n8)) x22) else(Z43_j14 s14_10 ((Z43_l8 a0 a1 a2 n8)) s7_9)) else(Z43_j3   s7_9)
def Z43 (a0:(Sl TDir)) (a1:Bs) (a2:Bs):Option (Sl Z9):=Z43_l8 a0 a1 a2 (a0.l.length+1) (Sl.nil:Sl Z9) 0
theorem Z43_walk {a0:Sl TDir}{a1 a2:Bs}{w0:Option Nat}{r:Sl Z9}(hE:Z43 a0 a1 a2=some r) (H:Heap) :AC Tryz.prog 10 [.d (Sl.d 2 TDir.c w0 a0),.d (.str a1),.d (.str a2)] H fun v h'=>v=.a (.d (Sl.d 5 Z9.c none r))/\h'=H:=by
 unfold Z43 at hE;refine AC.oW 37 [.tmp 6] Tryz.call10 Tryz.func10 ?_;refine AWp.tok 5 fun tk1 htk1=>?_;refine seqR ?_;refine s0 (assignNil (k':=5) rfl) rfl ?_;refine nil ?_;refine seqR (S As (nil ?_));refine AWp.nilTok 7 5 tk1 rfl hpG ?_;refine seqJH kN (fun(z:(Sl Z9))=>[(7,.a (.d (Sl.d 5 Z9.c (some tk1) z)))]) (fun z=>(H.set tk1 (some (.tok 5 z.l.length)))) (fun z=>Z43_j3 z=some r) ?_ ?_
 ·intro K3 hK3;refine seqR (S Mv ?_);refine sLen (f:=TDir.c) (s:=a0) (TK rfl) rfl rfl rfl rfl fun hL7=>?_;refine S Mv (nil ?_);refine block ?_;refine loopH (TA 1 (TA 2 (TA 12 (TA 13 kN)))) (fun(z:Nat×(Sl Z9)×Nat)=>[(7,.a (.d (Sl.d 5 Z9.c (some tk1) z.2.1))),(14,.a (.d (.int .i64 ((z.2.2:Nat):Int))))]) (fun z=>(H.set tk1 (some (.tok 5 z.2.1.l.length)))) (fun z=>z.1) (fun z=>Z43_l8 a0 a1 a2 z.1 z.2.1 z.2.2=some r) ((a0.l.length+1),(Sl.nil:Sl Z9),0) hE wA ?_
  rintro ⟨n8,s7_9,s14_10⟩ hE K8 hK8;try dsimp only at hE
  cases n8 with
  | zero=>cases hE
  | succ n8 =>
    rw [Z43_l8] at hE;refine seqR (S BI (nil ?_));refine seqK fun K12 hK12=>?_;refine cE hE (fun hc13 hE=>?_) (fun hc13 hE=>?_)
    ·try dsimp only at hc13
     have hf13:=oD hc13;refine sk hK12 ?_;clear hK12 K12;refine seqJH (TA 1 (TA 2 (TA 12 (TA 13 (TA 14 kN))))) (fun(z:(Sl Z9))=>[(7,.a (.d (Sl.d 5 Z9.c (some tk1) z)))]) (fun z=>(H.set tk1 (some (.tok 5 z.l.length)))) (fun z=>Z43_j14 s14_10 ((Z43_l8 a0 a1 a2 n8)) z=some r) ?_ ?_
     ·intro K14 hK14;refine block ?_;refine seqR ?_;obtain⟨x17,gx17,hE⟩:=bO hE;refine S (ix TDir.c s14_10 gx17) (S Ld ?_);refine Sl ?_;refine Sf ?_;refine nil ?_;refine freezeA 9 _ rfl (KA 1 (KA 2 (KA 7 (KA 12 (KA 13 (KA 14 Keeps.nil)))))) ?_;refine seqR (S Ld (S Mv ?_));obtain⟨x19,gx19,hE⟩:=bO hE;refine Sc rfl rfl (Z44_walk gx19) ?_;refine S Mv (S EX (S EX ?_));refine Sl ?_;refine Sf ?_;refine S As (nil ?_)
      refine freezeA 10 _ rfl (KA 1 (KA 2 (KA 7 (KA 9 (KA 11 (KA 12 (KA 13 (KA 14 Keeps.nil)))))))) ?_;refine seqR (S Mv (S Mv (G0 Fv ?_)));refine G1 26 rfl Ld ?_;refine G0 Mv ?_;refine G2 27 28 rfl rfl BS ?_;refine S PA (nil ?_);refine cE hE (fun hc21 hE=>?_) (fun hc21 hE=>?_)
      ·refine region ?_;refine S Mv (S Ld (S BV ?_));obtain⟨x22,gx22,hE⟩:=bO hE;refine SH (am Z9.c (TK rfl) rfl (TK rfl) (TK rfl) gx22) ?_;refine hq (H.set tk1 (some (.tok 5 x22.l.length))) ?_;refine S As (nil ?_);exact hK14 _ x22 wA hE
      refine AWp.skip ?_;exact hK14 _ s7_9 wA hE
     rintro s7_15 hE;try dsimp only at hE
     unfold Z43_j14 at hE;refine region ?_;refine SI ?_;refine S Mv (nil ?_);exact hK8 _ (n8,s7_15,(s14_10+1)) wA hE (nS _)
    refine AWp.exit ?_;exact hK3 _ s7_9 wA hE
 rintro s7_4 hE;try dsimp only at hE
 unfold Z43_j3 at hE;refine seqR (S Mv (S As (nil ?_)));refine AWp.dropTok 6 rfl ?_;refine AWp.ret ?_;repeat (first|refine xBlock_ret ?_|refine xThen_ret ?_)
 obtain rfl:=oJ hE;refine retQ.retF H rfl ⟨rfl,rfl⟩ ?_
 first|exact Heap.sub_set htk1|(simp only [Heap.set_set]; exact Heap.sub_set htk1)
def Z81_j2  :Option Int:=some (-1:Int)
def Z81_l6 (a0:(Sl Bs)) (a1:Bs) :Nat->Nat->Option Int
 | 0,_=>none
 | n6+1,s8_7=>bif (decide (((s8_7:Nat):Int)<((a0.l.length:Nat):Int))) then((a0.l[s8_7]?).bind fun x14=>bif ((a1==x14)) then(some ((s8_7:Nat):Int)) else((Z81_l6 a0 a1 n6) (s8_7+1))) else(Z81_j2   )
def Z81 (a0:(Sl Bs)) (a1:Bs):Option Int:=Z81_l6 a0 a1 (a0.l.length+1) 0
theorem Z81_walk {a0:Sl Bs}{a1:Bs}{w0:Option Nat}{r:Int}(hE:Z81 a0 a1=some r) (H:Heap) :AC Tryz.prog 21 [.d (Sl.d 1 strE w0 a0),.d (.str a1)] H fun v h'=>v=.a (.d (.int .i64 r))/\h'=H:=by
 unfold Z81 at hE;refine AC.oW 19 [.tmp 4] Tryz.call21 Tryz.func21 ?_;refine seqR (S As (nil ?_));refine seqJH kN (fun(z:Unit)=>[]) (fun z=>H) (fun z=>Z81_j2 =some r) ?_ ?_
 ·intro K2 hK2;refine seqR (S Mv ?_);refine sLen (f:=strE) (s:=a0) (TK rfl) rfl rfl rfl rfl fun hL5=>?_;refine S Mv (nil ?_);refine block ?_;refine loopH (TA 0 (TA 1 (TA 7 kN))) (fun(z:Nat×Nat)=>[(8,.a (.d (.int .i64 ((z.2:Nat):Int))))]) (fun z=>H) (fun z=>z.1) (fun z=>Z81_l6 a0 a1 z.1 z.2=some r) ((a0.l.length+1),0) hE wA ?_;rintro ⟨n6,s8_7⟩ hE K6 hK6;try dsimp only at hE
  cases n6 with
  | zero=>cases hE
  | succ n6 =>
    rw [Z81_l6] at hE;refine seqR (S BI (nil ?_));refine seqK fun K9 hK9=>?_;refine cE hE (fun hc10 hE=>?_) (fun hc10 hE=>?_)
    ·try dsimp only at hc10
     have hf10:=oD hc10;refine sk hK9 ?_;clear hK9 K9;refine seqK fun K11 hK11=>?_;refine block ?_;refine seqR (S Mv (S As (nil ?_)));refine seqR (S Mv (S Mv (S Mv ?_)));obtain⟨x14,gx14,hE⟩:=bO hE;refine S (ix strE s8_7 gx14) (S Ld (S BS (nil ?_)));refine cE hE (fun hc15 hE=>?_) (fun hc15 hE=>?_)
     ·refine seqR (S Mv (S As (nil ?_)));exact rt hE
     refine sk hK11 ?_;clear hK11 K11;refine region ?_;refine SI ?_;refine S Mv (nil ?_);exact hK6 _ (n6,(s8_7+1)) wA hE (nS _)
    refine AWp.exit ?_;exact hK2 _ () wA hE
 rintro _ hE;try dsimp only at hE
 unfold Z81_j2 at hE;refine seqR (S As (nil ?_));exact rt hE
def Z74 (a0:(Sl Bs)) (a1:Bs):Option Bool:=(Z81 a0 a1).bind fun x3=>some (decide ((0:Int)<=x3))
theorem Z74_walk {a0:Sl Bs}{a1:Bs}{w0:Option Nat}{r:Bool}(hE:Z74 a0 a1=some r) (H:Heap) :AC Tryz.prog 11 [.d (Sl.d 1 strE w0 a0),.d (.str a1)] H fun v h'=>v=.a (.d (.bool r))/\h'=H:=by
 unfold Z74 at hE;refine AC.oW 9 [.tmp 4] Tryz.call11 Tryz.func11 ?_;refine seqR (S As (nil ?_));refine seqR (S Mv (S Mv ?_));obtain⟨x3,gx3,hE⟩:=bO hE;refine Sc rfl rfl (Z81_walk gx3) ?_;refine S BI (S As (nil ?_));exact rt hE
def Z29_j3  (s3_4:(Sl Bs)):Option (Sl Bs):=some s3_4
def Z29_j15 (s9_11:Nat) (k_next_9:(Sl Bs)->Nat->Option (Sl Bs)) (s3_16:(Sl Bs)):Option (Sl Bs):=k_next_9 s3_16 (s9_11+1)
def Z29_l9 (x7:(Sl Z9)) :Nat->(Sl Bs)->Nat->Option (Sl Bs)
 | 0,_,_=>none
 | n9+1,s3_10,s9_11=>bif (decide (((s9_11:Nat):Int)<((x7.l.length:Nat):Int))) then((x7.l[s9_11]?).bind fun x18=>guardO ((decide (x18.FKind=(3:Int)))) (Z74 s3_10 x18.FText) false fun x20=>bif ((decide (x18.FKind=(3:Int)))&&(!x20)) then((appC 16 s3_10 (⟨false,[x18.FText]⟩:Sl Bs)).bind fun x22=>Z29_j15 s9_11 ((Z29_l9 x7 n9)) x22) else(Z29_j15 s9_11 ((Z29_l9 x7 n9)) s3_10)) else(Z29_j3   s3_10)
def Z29 (a0:(Sl TDir)):Option (Sl Bs):=(Z43 a0 ([116,97,103]:Bs) ([110,97,109,101]:Bs)).bind fun x7=>Z29_l9 x7 (x7.l.length+1) (Sl.nil:Sl Bs) 0
theorem Z29_walk {a0:Sl TDir}{w0:Option Nat}{r:Sl Bs}(hE:Z29 a0=some r) (H:Heap) :AC Tryz.prog 5 [.d (Sl.d 2 TDir.c w0 a0)] H fun v h'=>v=.a (.d (Sl.d 1 strE none r))/\h'=H:=by
 unfold Z29 at hE;refine AC.oW 30 [.tmp 2] Tryz.call5 Tryz.func5 ?_;refine AWp.tok 1 fun tk1 htk1=>?_;refine seqR ?_;refine s0 (assignNil (k':=1) rfl) rfl ?_;refine nil ?_;refine seqR (S As (nil ?_));refine AWp.nilTok 3 1 tk1 rfl hpG ?_;refine seqJH kN (fun(z:(Sl Bs))=>[(3,.a (.d (Sl.d 1 strE (some tk1) z)))]) (fun z=>(H.set tk1 (some (.tok 1 z.l.length)))) (fun z=>Z29_j3 z=some r) ?_ ?_
 ·intro K3 hK3;refine seqR (S Mv ?_);obtain⟨x7,gx7,hE⟩:=bO hE;refine Sc rfl rfl (Z43_walk gx7) ?_;refine sLen (f:=Z9.c) (s:=x7) (TK rfl) rfl rfl rfl rfl fun hL8=>?_;refine S Mv (nil ?_);refine block ?_;refine loopH (TA 7 (TA 8 kN)) (fun(z:Nat×(Sl Bs)×Nat)=>[(3,.a (.d (Sl.d 1 strE (some tk1) z.2.1))),(9,.a (.d (.int .i64 ((z.2.2:Nat):Int))))]) (fun z=>(H.set tk1 (some (.tok 1 z.2.1.l.length)))) (fun z=>z.1) (fun z=>Z29_l9 x7 z.1 z.2.1 z.2.2=some r) ((x7.l.length+1),(Sl.nil:Sl Bs),0) hE wA ?_
  rintro ⟨n9,s3_10,s9_11⟩ hE K9 hK9;try dsimp only at hE
  cases n9 with
  | zero=>cases hE
  | succ n9 =>
    rw [Z29_l9] at hE;refine seqR (S BI (nil ?_));refine seqK fun K13 hK13=>?_;refine cE hE (fun hc14 hE=>?_) (fun hc14 hE=>?_)
    ·try dsimp only at hc14
     have hf14:=oD hc14;refine sk hK13 ?_;clear hK13 K13;refine seqJH (TA 7 (TA 8 (TA 9 kN))) (fun(z:(Sl Bs))=>[(3,.a (.d (Sl.d 1 strE (some tk1) z)))]) (fun z=>(H.set tk1 (some (.tok 1 z.l.length)))) (fun z=>Z29_j15 s9_11 ((Z29_l9 x7 n9)) z=some r) ?_ ?_
     ·intro K15 hK15;refine block ?_;refine seqR ?_;obtain⟨x18,gx18,hE⟩:=bO hE;refine S (ix Z9.c s9_11 gx18) (S Ld ?_);refine Sl ?_;refine Sf ?_;refine nil ?_;refine freezeA 5 _ rfl (KA 3 (KA 7 (KA 8 (KA 9 Keeps.nil)))) ?_;refine seqR (S Fv (S Ld (S BI (S Mv (G0 Mv (G0 Fv ?_))))));refine G1 18 rfl Ld ?_;obtain⟨x20,gx20,hE⟩:=gO hE;refine Gc2 17 19 rfl rfl rfl rfl rfl rfl (fun hC=>Z74_walk (gx20 hC)) ?_
      refine G1 20 rfl NB ?_;refine S PA (nil ?_);refine cE hE (fun hc21 hE=>?_) (fun hc21 hE=>?_)
      ·refine region ?_;refine S Mv (S Fv (S Ld (S BV ?_)));obtain⟨x22,gx22,hE⟩:=bO hE;refine SH (am strE (TK rfl) rfl (TK rfl) (TK rfl) gx22) ?_;refine hq (H.set tk1 (some (.tok 1 x22.l.length))) ?_;refine S As (nil ?_);exact hK15 _ x22 wA hE
      refine AWp.skip ?_;exact hK15 _ s3_10 wA hE
     rintro s3_16 hE;try dsimp only at hE
     unfold Z29_j15 at hE;refine region ?_;refine SI ?_;refine S Mv (nil ?_);exact hK9 _ (n9,s3_16,(s9_11+1)) wA hE (nS _)
    refine AWp.exit ?_;exact hK3 _ s3_10 wA hE
 rintro s3_4 hE;try dsimp only at hE
 unfold Z29_j3 at hE;refine seqR (S Mv (S As (nil ?_)));refine AWp.dropTok 2 rfl ?_;refine AWp.ret ?_;repeat (first|refine xBlock_ret ?_|refine xThen_ret ?_)
 obtain rfl:=oJ hE;refine retQ.retF H rfl ⟨rfl,rfl⟩ ?_
 first|exact Heap.sub_set htk1|(simp only [Heap.set_set]; exact Heap.sub_set htk1)
def Z80_j2  :Option Int:=some (-1:Int)
def Z80_l6 (a0:(Sl Bs)) (a1:(Bs->Option Bool)) :Nat->Nat->Option Int
 | 0,_=>none
 | n6+1,s8_7=>bif (decide (((s8_7:Nat):Int)<((a0.l.length:Nat):Int))) then((a0.l[s8_7]?).bind fun x14=>(a1 x14).bind fun x15=>bif x15 then(some ((s8_7:Nat):Int)) else((Z80_l6 a0 a1 n6) (s8_7+1))) else(Z80_j2   )
def Z80 (a0:(Sl Bs)) (a1:(Bs->Option Bool)):Option Int:=Z80_l6 a0 a1 (a0.l.length+1) 0
theorem Z80_walk {a0:Sl Bs}{a1:Bs->Option Bool}{w0:Option Nat}{cl1:List D}{k1:Nat}{r:Int}(hE:Z80 a0 a1=some r) (H:Heap) (hf1:∀x0 r,a1 x0=some r->∀H,AC Tryz.prog k1 ([.d (.str x0)]++cl1.map A.d) H fun v h'=>v=.a (.d (.bool r))/\h'=H):AC Tryz.prog 35 [.d (Sl.d 1 strE w0 a0),.d (.func k1 cl1)] H fun v h'=>v=.a (.d (.int .i64 r))/\h'=H:=by
 unfold Z80 at hE;refine AC.oW 19 [.tmp 4] Tryz.call35 Tryz.func35 ?_;refine seqR (S As (nil ?_));refine seqJH kN (fun(z:Unit)=>[]) (fun z=>H) (fun z=>Z80_j2 =some r) ?_ ?_
 ·intro K2 hK2;refine seqR (S Mv ?_);refine sLen (f:=strE) (s:=a0) (TK rfl) rfl rfl rfl rfl fun hL5=>?_;refine S Mv (nil ?_);refine block ?_;refine loopH (TA 0 (TA 1 (TA 7 kN))) (fun(z:Nat×Nat)=>[(8,.a (.d (.int .i64 ((z.2:Nat):Int))))]) (fun z=>H) (fun z=>z.1) (fun z=>Z80_l6 a0 a1 z.1 z.2=some r) ((a0.l.length+1),0) hE wA ?_;rintro ⟨n6,s8_7⟩ hE K6 hK6;try dsimp only at hE
  cases n6 with
  | zero=>cases hE
  | succ n6 =>
    rw [Z80_l6] at hE;refine seqR (S BI (nil ?_));refine seqK fun K9 hK9=>?_;refine cE hE (fun hc10 hE=>?_) (fun hc10 hE=>?_)
    ·try dsimp only at hc10
     have hf10:=oD hc10;refine sk hK9 ?_;clear hK9 K9;refine seqK fun K11 hK11=>?_;refine block ?_;refine seqR (S Mv (S As (nil ?_)));refine seqR (S Mv (S Mv (S Mv ?_)));obtain⟨x14,gx14,hE⟩:=bO hE;refine S (ix strE s8_7 gx14) (S Ld ?_);obtain⟨x15,gx15,hE⟩:=bO hE;refine s0 (callP rfl rfl (hf1 _ _ gx15)) rfl ?_;refine nil ?_;refine cE hE (fun hc16 hE=>?_) (fun hc16 hE=>?_)
     ·refine seqR (S Mv (S As (nil ?_)));exact rt hE
     refine sk hK11 ?_;clear hK11 K11;refine region ?_;refine SI ?_;refine S Mv (nil ?_);exact hK6 _ (n6,(s8_7+1)) wA hE (nS _)
    refine AWp.exit ?_;exact hK2 _ () wA hE
 rintro _ hE;try dsimp only at hE
 unfold Z80_j2 at hE;refine seqR (S As (nil ?_));exact rt hE
def Z73 (a0:(Sl Bs)) (a1:(Bs->Option Bool)):Option Bool:=(Z80 a0 a1).bind fun x3=>some (decide ((0:Int)<=x3))
theorem Z73_walk {a0:Sl Bs}{a1:Bs->Option Bool}{w0:Option Nat}{cl1:List D}{k1:Nat}{r:Bool}(hE:Z73 a0 a1=some r) (H:Heap) (hf1:∀x0 r,a1 x0=some r->∀H,AC Tryz.prog k1 ([.d (.str x0)]++cl1.map A.d) H fun v h'=>v=.a (.d (.bool r))/\h'=H):AC Tryz.prog 23 [.d (Sl.d 1 strE w0 a0),.d (.func k1 cl1)] H fun v h'=>v=.a (.d (.bool r))/\h'=H:=by
 unfold Z73 at hE;refine AC.oW 9 [.tmp 4] Tryz.call23 Tryz.func23 ?_;refine seqR (S As (nil ?_));refine seqR (S Mv (S Mv ?_));obtain⟨x3,gx3,hE⟩:=bO hE;refine s0 (callP rfl rfl (fun H=>Z80_walk gx3 H hf1)) rfl ?_;refine S BI (S As (nil ?_));exact rt hE
def Z41 (a0:Bs) (a1:(Sl Bs)):Option Bool:=(Z74 a1 a0).bind fun x3=>some x3
theorem Z41_walk {a0:Bs}{a1:Sl Bs}{r:Bool}(hE:Z41 a0 a1=some r) (H:Heap) :AC Tryz.prog 24 [.d (.str a0),.d (.view ((fun s=>[Sl.d 1 strE none s]) a1))] H fun v h'=>v=.a (.d (.bool r))/\h'=H:=by
 unfold Z41 at hE;refine AC.oW 7 [.tmp 3] Tryz.call24 Tryz.func24 ?_;refine seqR (S As (nil ?_));refine seqR (S Ld (S Mv ?_));obtain⟨x3,gx3,hE⟩:=bO hE;refine Sc rfl rfl (Z74_walk gx3) ?_;refine S As (nil ?_);exact rt hE
def Z40 (a0:(Sl Bs)) (a1:(Sl Bs)):Option Bool:=(Z73 a0 (fun y0=>Z41 y0 a1)).bind fun x3=>some x3
theorem Z40_walk {a0 a1:Sl Bs}{w0 w1:Option Nat}{r:Bool}(hE:Z40 a0 a1=some r) (H:Heap) :AC Tryz.prog 14 [.d (Sl.d 1 strE w0 a0),.d (Sl.d 1 strE w1 a1)] H fun v h'=>v=.a (.d (.bool r))/\h'=H:=by
 unfold Z40 at hE;refine AC.oW 8 [.tmp 4] Tryz.call14 Tryz.func14 ?_;refine seqR ?_;refine AOps.dropTok 1 rfl ?_;refine S BX (S As (nil ?_));refine seqR (S Mv ?_);refine s0 (makeFunc rfl) rfl ?_;obtain⟨x3,gx3,hE⟩:=bO hE;refine s0 (callP rfl rfl (fun H=>Z73_walk gx3 H (fun _ _ hx=>Z41_walk hx))) rfl ?_;refine S As (nil ?_);exact rt hE
def Z70 (a0:(Sl Bs)):Option (Sl Bs):=bif a0.nl then(some (Sl.nil:Sl Bs)) else(none)
theorem Z70_walk {a0:Sl Bs}{w0:Option Nat}{r:Sl Bs}(hE:Z70 a0=some r) (H:Heap) :AC Tryz.prog 25 [.d (Sl.d 1 strE w0 a0)] H fun v h'=>v=.a (.d (Sl.d 1 strE none r))/\h'=H:=by
 unfold Z70 at hE;refine AC.oW 8 [.tmp 2] Tryz.call25 Tryz.func25 ?_;refine seqR ?_;refine s0 (assignNil (k':=1) rfl) rfl ?_;refine nil ?_;refine seqK fun K2 hK2=>?_;refine seqR (S Mv ?_);refine s0 (eqNil (TK rfl) rfl rfl) rfl ?_;refine nil ?_;refine cE hE (fun hc4 hE=>?_) (fun hc4 hE=>?_)
 ·refine seqR ?_;refine s0 (assignNil (k':=1) rfl) rfl ?_;refine nil ?_;exact rt hE
 cases hE
def Z92_j3  (s3_4:(Sl Z9)):Option (Sl Z9):=some s3_4
def Z92_l8 (a0:(Sl Z9)) :Nat->(Sl Z9)->Nat->Option (Sl Z9)
 | 0,_,_=>none
 | n8+1,s3_9,s8_10=>bif (decide (((s8_10:Nat):Int)<((a0.l.length:Nat):Int))) then(none) else(Z92_j3   s3_9)
mutual
def value_Copy_n:Nat->Z9->Option Z9
 | 0,_=>none
 | n+1,a0=>((Z92_n n) a0.FItems).bind fun x3=>(Z70 a0.FKeys).bind fun x5=>some (Z9.mk a0.FKind a0.FInt a0.FText x3.nl x3.l x5)
def Z92_n:Nat->(Sl Z9)->Option (Sl Z9)
 | 0,_=>none
 | n+1,a0=>Z92_l8 a0 (a0.l.length+1) (Sl.nil:Sl Z9) 0
end
theorem value_Copy_step (n:Nat) (ih_36:∀{a0 r:Z9},value_Copy_n n a0=some r->∀(H:Heap),AC Tryz.prog 36 [.agg (Z9.c a0)] H fun v h'=>v=.a (.agg (Z9.c r))/\h'=H) (ih_52:∀{a0:Sl Z9}{w0:Option Nat}{r:Sl Z9},Z92_n n a0=some r->∀(H:Heap),AC Tryz.prog 52 [.d (Sl.d 5 Z9.c w0 a0)] H fun v h'=>v=.a (.d (Sl.d 5 Z9.c none r))/\h'=H):∀{a0 r:Z9},value_Copy_n (n+1) a0=some r->∀(H:Heap),AC Tryz.prog 36 [.agg (Z9.c a0)] H fun v h'=>v=.a (.agg (Z9.c r))/\h'=H:=by
 intro a0   r hE H ;rw [value_Copy_n] at hE;refine AC.oW 12 [.cell 2 48] Tryz.call36 Tryz.func36 ?_;refine seqR ?_;refine sL (boxL rfl (by repeat (first|exact Snoc.nil|apply Snoc.cons))) rfl ?_;refine Sl ?_;refine nil ?_;refine seqR (S FL ?_);refine AOps.relocal 0 (Z9.cu a0) rfl (fun j w cs hh hx=>by rw [<- Z9.cu_eq]; exact hx) ?_;refine S LL ?_;obtain⟨x3,gx3,hE⟩:=bO hE;refine Sc rfl rfl (ih_52 gx3) ?_
 refine S FL ?_;refine Sf ?_;refine AOps.relocal 0 (Z9.c (Z9.mk a0.FKind a0.FInt a0.FText x3.nl x3.l a0.FKeys)) rfl (fun j w cs hh hx=>by rw [Z9.cu_eq]; exact hx) ?_;refine nil ?_;refine seqR (S FL (S LL ?_));obtain⟨x5,gx5,hE⟩:=bO hE;refine Sc rfl rfl (Z70_walk gx5) ?_;refine S FL ?_;refine AOps.relocal 0 (Z9.cu (Z9.mk a0.FKind a0.FInt a0.FText x3.nl x3.l a0.FKeys)) rfl (fun j w cs hh hx=>by rw [<- Z9.cu_eq]; exact hx) ?_
 refine Sf ?_;refine AOps.relocal 0 (Z9.c (Z9.mk a0.FKind a0.FInt a0.FText x3.nl x3.l x5)) rfl (fun j w cs hh hx=>by rw [Z9.cu_eq]; exact hx) ?_;refine nil ?_;refine seqR (S LL ?_);refine Sf ?_;refine nil ?_;exact rt hE
theorem Z92_step (n:Nat) (ih_36:∀{a0 r:Z9},value_Copy_n n a0=some r->∀(H:Heap),AC Tryz.prog 36 [.agg (Z9.c a0)] H fun v h'=>v=.a (.agg (Z9.c r))/\h'=H) (ih_52:∀{a0:Sl Z9}{w0:Option Nat}{r:Sl Z9},Z92_n n a0=some r->∀(H:Heap),AC Tryz.prog 52 [.d (Sl.d 5 Z9.c w0 a0)] H fun v h'=>v=.a (.d (Sl.d 5 Z9.c none r))/\h'=H):∀{a0:Sl Z9}{w0:Option Nat}{r:Sl Z9},Z92_n (n+1) a0=some r->∀(H:Heap),AC Tryz.prog 52 [.d (Sl.d 5 Z9.c w0 a0)] H fun v h'=>v=.a (.d (Sl.d 5 Z9.c none r))/\h'=H:=by
 intro a0 w0  r hE H ;rw [Z92_n] at hE;refine AC.oW 19 [.tmp 2] Tryz.call52 Tryz.func52 ?_;refine AWp.tok 5 fun tk1 htk1=>?_;refine seqR ?_;refine s0 (assignNil (k':=5) rfl) rfl ?_;refine nil ?_;refine seqR (S As (nil ?_));refine AWp.nilTok 3 5 tk1 rfl hpG ?_;refine seqJH kN (fun(z:(Sl Z9))=>[(3,.a (.d (Sl.d 5 Z9.c (some tk1) z)))]) (fun z=>(H.set tk1 (some (.tok 5 z.l.length)))) (fun z=>Z92_j3 z=some r) ?_ ?_
 ·intro K3 hK3;refine seqR (S Mv ?_);refine sLen (f:=Z9.c) (s:=a0) (TK rfl) rfl rfl rfl rfl fun hL7=>?_;refine S Mv (nil ?_);refine block ?_;refine loopH (TA 6 (TA 7 kN)) (fun(z:Nat×(Sl Z9)×Nat)=>[(3,.a (.d (Sl.d 5 Z9.c (some tk1) z.2.1))),(8,.a (.d (.int .i64 ((z.2.2:Nat):Int))))]) (fun z=>(H.set tk1 (some (.tok 5 z.2.1.l.length)))) (fun z=>z.1) (fun z=>Z92_l8 a0 z.1 z.2.1 z.2.2=some r) ((a0.l.length+1),(Sl.nil:Sl Z9),0) hE wA ?_
  rintro ⟨n8,s3_9,s8_10⟩ hE K8 hK8;try dsimp only at hE
  cases n8 with
  | zero=>cases hE
  | succ n8 =>
    rw [Z92_l8] at hE;refine seqR (S BI (nil ?_));refine seqK fun K12 hK12=>?_;refine cE hE (fun hc13 hE=>?_) (fun hc13 hE=>?_)
    ·try dsimp only at hc13
     have hf13:=oD hc13;cases hE
    refine AWp.exit ?_;exact hK3 _ s3_9 wA hE
 rintro s3_4 hE;try dsimp only at hE
 unfold Z92_j3 at hE;refine seqR (S Mv (S As (nil ?_)));refine AWp.dropTok 2 rfl ?_;refine AWp.ret ?_;repeat (first|refine xBlock_ret ?_|refine xThen_ret ?_)
 obtain rfl:=oJ hE;refine retQ.retF H rfl ⟨rfl,rfl⟩ ?_
 first|exact Heap.sub_set htk1|(simp only [Heap.set_set]; exact Heap.sub_set htk1)
theorem value_Copy_all:∀(n:Nat),(∀{a0 r:Z9},value_Copy_n n a0=some r->∀(H:Heap),AC Tryz.prog 36 [.agg (Z9.c a0)] H fun v h'=>v=.a (.agg (Z9.c r))/\h'=H)/\(∀{a0:Sl Z9}{w0:Option Nat}{r:Sl Z9},Z92_n n a0=some r->∀(H:Heap),AC Tryz.prog 52 [.d (Sl.d 5 Z9.c w0 a0)] H fun v h'=>v=.a (.d (Sl.d 5 Z9.c none r))/\h'=H)
 | 0=>⟨fun hE=>by first|cases hE|(rw [value_Copy_n] at hE; cases hE),fun hE=>by first|cases hE|(rw [Z92_n] at hE; cases hE)⟩
 | n+1=>⟨value_Copy_step n (value_Copy_all n).1 (value_Copy_all n).2,Z92_step n (value_Copy_all n).1 (value_Copy_all n).2⟩
def value_Copy (a0:Z9):Option Z9:=value_Copy_n F0 a0
theorem value_Copy_walk {a0 r:Z9}(hE:value_Copy a0=some r) (H:Heap) :AC Tryz.prog 36 [.agg (Z9.c a0)] H fun v h'=>v=.a (.agg (Z9.c r))/\h'=H:=(value_Copy_all F0).1 hE H 
end Go.Proofs

namespace Go.Proofs
open Go Go.Ab
open AOps Cert AWp Keeps KeepsT
variable {lou:Lou}
def Z30_j3  (s3_4:(Sl TDir)):Option (Sl TDir):=some s3_4
def Z30_j14 (s11_10:Nat) (k_next_8:(Sl TDir)->Nat->Option (Sl TDir)) (s3_15:(Sl TDir)):Option (Sl TDir):=k_next_8 s3_15 (s11_10+1)
def Z30_j20 (s3_9:(Sl TDir)) (s11_10:Nat) (k_next_8:(Sl TDir)->Nat->Option (Sl TDir)) (y21_l0:TDir):Option (Sl TDir):=(appC 40 s3_9 (⟨false,[y21_l0]⟩:Sl TDir)).bind fun x22=>Z30_j14 s11_10 k_next_8 x22
def Z30_l25 (s3_9:(Sl TDir)) (s11_10:Nat) (x17:TDir) (k_next_8:(Sl TDir)->Nat->Option (Sl TDir)):Nat->Nat->TDir->Option (Sl TDir)
 | 0,_,_=>none
 | n25+1,s21_26,y27_l0=>bif (decide (((s21_26:Nat):Int)<((x17.FArgs.l.length:Nat):Int))) then((x17.FArgs.l[s21_26]?).bind fun x33=>(value_Copy x33.FValue).bind fun x34=>(appC 96 y27_l0.FArgs (⟨false,[(TArg.mk x33.FName x34)]⟩:Sl TArg)).bind fun x35=>(Z30_l25 s3_9 s11_10 x17 k_next_8 n25) (s21_26+1) (TDir.mk y27_l0.FName x35)) else(Z30_j20 s3_9 s11_10 k_next_8 y27_l0)
def Z30_l8 (a0:(Sl TDir)) :Nat->(Sl TDir)->Nat->Option (Sl TDir)
 | 0,_,_=>none
 | n8+1,s3_9,s11_10=>bif (decide (((s11_10:Nat):Int)<((a0.l.length:Nat):Int))) then((a0.l[s11_10]?).bind fun x17=>Z30_l25 s3_9 s11_10 x17 ((Z30_l8 a0 n8)) (x17.FArgs.l.length+1) 0 (TDir.mk x17.FName (Sl.nil:Sl TArg))) else(Z30_j3   s3_9)
def Z30 (a0:(Sl TDir)):Option (Sl TDir):=Z30_l8 a0 (a0.l.length+1) (Sl.nil:Sl TDir) 0
theorem Z30_walk {a0:Sl TDir}{w0:Option Nat}{r:Sl TDir}(hE:Z30 a0=some r) (H:Heap) :AC Tryz.prog 26 [.d (Sl.d 2 TDir.c w0 a0)] H fun v h'=>v=.a (.d (Sl.d 2 TDir.c none r))/\h'=H:=by
 unfold Z30 at hE;refine AC.oW 43 [.tmp 2] Tryz.call26 Tryz.func26 ?_;refine AWp.tok 2 fun tk1 htk1=>?_;refine seqR ?_;refine s0 (assignNil (k':=2) rfl) rfl ?_;refine nil ?_;refine seqR (S As (nil ?_));refine AWp.nilTok 3 2 tk1 rfl hpG ?_;refine seqJH kN (fun(z:(Sl TDir))=>[(3,.a (.d (Sl.d 2 TDir.c (some tk1) z)))]) (fun z=>(H.set tk1 (some (.tok 2 z.l.length)))) (fun z=>Z30_j3 z=some r) ?_ ?_
 ·intro K3 hK3;refine seqR (S Mv ?_);refine sLen (f:=TDir.c) (s:=a0) (TK rfl) rfl rfl rfl rfl fun hL7=>?_;refine S Mv (nil ?_);refine block ?_;refine loopH (TA 9 (TA 10 kN)) (fun(z:Nat×(Sl TDir)×Nat)=>[(3,.a (.d (Sl.d 2 TDir.c (some tk1) z.2.1))),(11,.a (.d (.int .i64 ((z.2.2:Nat):Int))))]) (fun z=>(H.set tk1 (some (.tok 2 z.2.1.l.length)))) (fun z=>z.1) (fun z=>Z30_l8 a0 z.1 z.2.1 z.2.2=some r) ((a0.l.length+1),(Sl.nil:Sl TDir),0) hE wA ?_
  rintro ⟨n8,s3_9,s11_10⟩ hE K8 hK8;try dsimp only at hE
  cases n8 with
  | zero=>cases hE
  | succ n8 =>
    rw [Z30_l8] at hE;refine seqR (S BI (nil ?_));refine seqK fun K12 hK12=>?_;refine cE hE (fun hc13 hE=>?_) (fun hc13 hE=>?_)
    ·try dsimp only at hc13
     have hf13:=oD hc13;refine sk hK12 ?_;clear hK12 K12;refine seqJH (TA 9 (TA 10 (TA 11 kN))) (fun(z:(Sl TDir))=>[(3,.a (.d (Sl.d 2 TDir.c (some tk1) z)))]) (fun z=>(H.set tk1 (some (.tok 2 z.l.length)))) (fun z=>Z30_j14 s11_10 ((Z30_l8 a0 n8)) z=some r) ?_ ?_
     ·intro K14 hK14;refine block ?_;refine seqR ?_;obtain⟨x17,gx17,hE⟩:=bO hE;refine S (ix TDir.c s11_10 gx17) (S Ld ?_);refine Sl ?_;refine Sf ?_;refine nil ?_;refine freezeA 5 _ rfl (KA 3 (KA 9 (KA 10 (KA 11 Keeps.nil)))) ?_;refine seqR (S Fv (S Ld (S BU ?_)));refine Sl ?_;refine AOps.tok 6 fun tk6_19 htk6_19=>?_;obtain⟨ne_tk6_19_tk1,htk6_19⟩:=Heap.set_fresh htk6_19;refine AOps.relocal 0 _ rfl (fun j w cs hh hx=>tok_cell 1 6 6 hh (t:=tk6_19) hpG hx rfl) ?_
      refine Sf ?_;refine AOps.relocal 0 _ rfl (fun j w cs hh hx=>tok_cell 1 6 6 hh (t:=tk6_19) hpG hx rfl) ?_;refine nil ?_;refine seqJ (TA 3 (TA 6 (TA 9 (TA 10 (TA 11 kN))))) (fun(z:TDir)=>[]) (fun z=>[(strE z.FName++[Sl.d 6 TArg.c (some tk6_19) z.FArgs])]) (fun z=>((H.set tk1 (some (.tok 2 s3_9.l.length))).set tk6_19 (some (.tok 6 z.FArgs.l.length)))) (fun z=>Z30_j20 s3_9 s11_10 ((Z30_l8 a0 n8)) z=some r) ?_ ?_
      ·intro K20 hK20;refine seqR (S Fv (S Ld ?_));refine sLen (f:=TArg.c) (s:=x17.FArgs) (TK rfl) rfl rfl rfl rfl fun hL24=>?_;refine S Mv (nil ?_);refine block ?_;refine loopO (TA 3 (TA 6 (TA 9 (TA 10 (TA 11 (TA 19 (TA 20 kN))))))) (fun(z:Nat×Nat×TDir)=>[(21,.a (.d (.int .i64 ((z.2.1:Nat):Int))))]) (fun z=>[(strE z.2.2.FName++[Sl.d 6 TArg.c (some tk6_19) z.2.2.FArgs])]) (fun z=>((H.set tk1 (some (.tok 2 s3_9.l.length))).set tk6_19 (some (.tok 6 z.2.2.FArgs.l.length)))) (fun z=>z.1) (fun z=>Z30_l25 s3_9 s11_10 x17 ((Z30_l8 a0 n8)) z.1 z.2.1 z.2.2=some r) ((x17.FArgs.l.length+1),0,(TDir.mk x17.FName (Sl.nil:Sl TArg))) hE wA ?_
       rintro ⟨n25,s21_26,y27_l0⟩ hE K25 hK25;try dsimp only at hE
       cases n25 with
       | zero=>cases hE
       | succ n25 =>
         rw [Z30_l25] at hE;refine seqR (S BI (nil ?_));refine seqK fun K29 hK29=>?_;refine cE hE (fun hc30 hE=>?_) (fun hc30 hE=>?_)
         ·try dsimp only at hc30
          have hf30:=oD hc30;refine sk hK29 ?_;clear hK29 K29;refine seqK fun K31 hK31=>?_;refine block ?_;refine seqR ?_;obtain⟨x33,gx33,hE⟩:=bO hE;refine S (ix TArg.c s21_26 gx33) (S Ld ?_);refine Sl ?_;refine Sf ?_;refine nil ?_;refine freezeA 8 _ rfl (KA 3 (KA 6 (KA 9 (KA 10 (KA 11 (KA 19 (KA 20 (KA 21 Keeps.nil)))))))) ?_;refine AWp.draw rfl ?_;refine Sd FL (Sd LL (Sd Fv (Sd Ld (Sd Fv (Sd Ld ?_)))))
          obtain⟨x34,gx34,hE⟩:=bO hE;refine Scd rfl rfl (value_Copy_walk gx34) ?_;refine Sd BU (Sd BV ?_);obtain⟨x35,gx35,hE⟩:=bO hE;refine DOps.sH (appM (f:=TArg.c) (TK rfl) rfl (TK rfl) (TK rfl) ⟨_,rfl⟩ rfl rfl (by decide) rfl rfl rfl rfl hpG rfl gx35) rfl ?_;refine DOps.Dh ((H.set tk1 (some (.tok 2 s3_9.l.length))).set tk6_19 (some (.tok 6 x35.l.length))) ?_;refine Sd FL ?_;refine DOps.sLn (storeL1 (TK rfl) rfl rfl rfl rfl (by repeat (first|exact SetAt.zero|apply SetAt.succ)) (by repeat (first|exact SetAt.zero|apply SetAt.succ))) ?_
          refine DOps.nil (by decide +kernel) ?_;refine hK31 _ ?_;clear hK31 K31;refine region ?_;refine SI ?_;refine S Mv (nil ?_);exact hK25 _ (n25,(s21_26+1),(TDir.mk y27_l0.FName x35)) wA hE (nS _)
         refine AWp.exit ?_;exact hK20 _ y27_l0 wA hE
      rintro y21_l0 hE;try dsimp only at hE
      unfold Z30_j20 at hE;refine AWp.relocal 0 _ rfl (fun j w cs hh hx=>untok_cell 1 hx rfl) ?_;refine region ?_;refine S Mv (S LL (S BV ?_));obtain⟨x22,gx22,hE⟩:=bO hE;refine SH (am TDir.c (TK rfl) rfl (TK rfl) (TK rfl) gx22) ?_;refine hq ((H.set tk1 (some (.tok 2 x22.l.length))).set tk6_19 (some (.tok 6 y21_l0.FArgs.l.length))) ?_;refine S As (nil ?_);exact hK14 _ x22 (Weak.toFA (by(intro id_ o_ he_); (have e_tk6_19:id_≠tk6_19:=fun e_=>by rw [e_] at he_; simp [Heap.set,htk6_19,ne_tk6_19_tk1] at he_); (rw [<- he_]); (simp only [Heap.set,if_neg e_tk6_19]); (first|done|rfl))) hE
     rintro s3_15 hE;try dsimp only at hE
     unfold Z30_j14 at hE;refine region ?_;refine SI ?_;refine S Mv (nil ?_);exact hK8 _ (n8,s3_15,(s11_10+1)) wA hE (nS _)
    refine AWp.exit ?_;exact hK3 _ s3_9 wA hE
 rintro s3_4 hE;try dsimp only at hE
 unfold Z30_j3 at hE;refine seqR (S Mv (S As (nil ?_)));refine AWp.dropTok 2 rfl ?_;refine AWp.ret ?_;repeat (first|refine xBlock_ret ?_|refine xThen_ret ?_)
 obtain rfl:=oJ hE;refine retQ.retF H rfl ⟨rfl,rfl⟩ ?_
 first|exact Heap.sub_set htk1|(simp only [Heap.set_set]; exact Heap.sub_set htk1)
def Z69 (a0:(Sl Int)):Option (Sl Int):=bif a0.nl then(some (Sl.nil:Sl Int)) else(none)
theorem Z69_walk {a0:Sl Int}{w0:Option Nat}{r:Sl Int}(hE:Z69 a0=some r) (H:Heap) :AC Tryz.prog 30 [.d (Sl.d 1 (intE .i64) w0 a0)] H fun v h'=>v=.a (.d (Sl.d 1 (intE .i64) none r))/\h'=H:=by
 unfold Z69 at hE;refine AC.oW 8 [.tmp 2] Tryz.call30 Tryz.func30 ?_;refine seqR ?_;refine s0 (assignNil (k':=1) rfl) rfl ?_;refine nil ?_;refine seqK fun K2 hK2=>?_;refine seqR (S Mv ?_);refine s0 (eqNil (TK rfl) rfl rfl) rfl ?_;refine nil ?_;refine cE hE (fun hc4 hE=>?_) (fun hc4 hE=>?_)
 ·refine seqR ?_;refine s0 (assignNil (k':=1) rfl) rfl ?_;refine nil ?_;exact rt hE
 cases hE
def Z31_j3  (s3_4:(Sl Z7)):Option (Sl Z7):=some s3_4
def Z31_l8 (a0:(Sl Z7)) :Nat->(Sl Z7)->Nat->Option (Sl Z7)
 | 0,_,_=>none
 | n8+1,s3_9,s8_10=>bif (decide (((s8_10:Nat):Int)<((a0.l.length:Nat):Int))) then(none) else(Z31_j3   s3_9)
def Z31 (a0:(Sl Z7)):Option (Sl Z7):=Z31_l8 a0 (a0.l.length+1) (Sl.nil:Sl Z7) 0
theorem Z31_walk {a0:Sl Z7}{w0:Option Nat}{r:Sl Z7}(hE:Z31 a0=some r) (H:Heap) :AC Tryz.prog 27 [.d (Sl.d 10 Z7.c w0 a0)] H fun v h'=>v=.a (.d (Sl.d 10 Z7.c none r))/\h'=H:=by
 unfold Z31 at hE;refine AC.oW 32 [.tmp 2] Tryz.call27 Tryz.func27 ?_;refine AWp.tok 10 fun tk1 htk1=>?_;refine seqR ?_;refine s0 (assignNil (k':=10) rfl) rfl ?_;refine nil ?_;refine seqR (S As (nil ?_));refine AWp.nilTok 3 10 tk1 rfl hpG ?_;refine seqJH kN (fun(z:(Sl Z7))=>[(3,.a (.d (Sl.d 10 Z7.c (some tk1) z)))]) (fun z=>(H.set tk1 (some (.tok 10 z.l.length)))) (fun z=>Z31_j3 z=some r) ?_ ?_
 ·intro K3 hK3;refine seqR (S Mv ?_);refine sLen (f:=Z7.c) (s:=a0) (TK rfl) rfl rfl rfl rfl fun hL7=>?_;refine S Mv (nil ?_);refine block ?_;refine loopH (TA 6 (TA 7 kN)) (fun(z:Nat×(Sl Z7)×Nat)=>[(3,.a (.d (Sl.d 10 Z7.c (some tk1) z.2.1))),(8,.a (.d (.int .i64 ((z.2.2:Nat):Int))))]) (fun z=>(H.set tk1 (some (.tok 10 z.2.1.l.length)))) (fun z=>z.1) (fun z=>Z31_l8 a0 z.1 z.2.1 z.2.2=some r) ((a0.l.length+1),(Sl.nil:Sl Z7),0) hE wA ?_
  rintro ⟨n8,s3_9,s8_10⟩ hE K8 hK8;try dsimp only at hE
  cases n8 with
  | zero=>cases hE
  | succ n8 =>
    rw [Z31_l8] at hE;refine seqR (S BI (nil ?_));refine seqK fun K12 hK12=>?_;refine cE hE (fun hc13 hE=>?_) (fun hc13 hE=>?_)
    ·try dsimp only at hc13
     have hf13:=oD hc13;cases hE
    refine AWp.exit ?_;exact hK3 _ s3_9 wA hE
 rintro s3_4 hE;try dsimp only at hE
 unfold Z31_j3 at hE;refine seqR (S Mv (S As (nil ?_)));refine AWp.dropTok 2 rfl ?_;refine AWp.ret ?_;repeat (first|refine xBlock_ret ?_|refine xThen_ret ?_)
 obtain rfl:=oJ hE;refine retQ.retF H rfl ⟨rfl,rfl⟩ ?_
 first|exact Heap.sub_set htk1|(simp only [Heap.set_set]; exact Heap.sub_set htk1)
def Z38 (a0:Z3) (a1:(Sl Bs)):Option Bool:=(Z40 a1 a0.Fexclude).bind fun x3=>guardO (((!x3)&&!(decide (((a0.Finclude.l.length:Nat):Int)=(0:Int))))) (Z40 a1 a0.Finclude) false fun x4=>some ((!x3)&&((decide (((a0.Finclude.l.length:Nat):Int)=(0:Int)))||x4))
theorem Z38_walk {a0:Z3}{a1:Sl Bs}{w1:Option Nat}{r:Bool}(hE:Z38 a0 a1=some r) (H:Heap) :AC Tryz.prog 28 [.agg (Z3.c a0),.d (Sl.d 1 strE w1 a1)] H fun v h'=>v=.a (.d (.bool r))/\h'=H:=by
 unfold Z38 at hE;refine AC.oW 22 [.tmp 4] Tryz.call28 Tryz.func28 ?_;refine seqR (S BX (S As (nil ?_)));refine seqR (S Mv (S Fv (S Ld ?_)));obtain⟨x3,gx3,hE⟩:=bO hE;refine Sc rfl rfl (Z40_walk gx3) ?_;refine S NB (S Mv (G0 Fv ?_));refine G1 11 rfl Ld ?_;refine gC rfl rfl (fun hC=>ungdA (k:=12) rfl (lenM' (f:=strE) (s:=a0.Finclude) (TK rfl) rfl rfl rfl)) rfl ?_;refine G1 13 rfl BI ?_;refine G1 14 rfl Mv ?_
 refine G0 Mv (G0 Fv ?_);refine G1 17 rfl Ld ?_;obtain⟨x4,gx4,hE⟩:=gO hE;refine Gc2 16 18 rfl rfl rfl rfl rfl rfl (fun hC=>Z40_walk (gx4 hC)) ?_;refine gC rfl rfl (fun hC=>ungdA (k:=15) rfl (pickOrA rfl rfl rfl)) rfl ?_;refine S PA (S As (nil ?_));exact rt hE
def Tryz.lay37_ren:Go.Shelf.Ren:=⟨fun|4=>37|n=>n,fun|22=>24|25=>9|3=>3|4=>4|9=>9|20=>20|0=>0|n=>n,fun|n=>n⟩
theorem Tryz.lay37:Go.Proofs.Lays8.n4 Tryz.prog Tryz.lay37_ren:={
 mixed:=by kernel_rfl
 f4:=⟨Tryz.f37.name,by decide,Tryz.func37.trans (congrArg some (by kernel_rfl))⟩
 t0:=Tryz.underlying0
 a0:=Tryz.isAgg0
 z0:=Tryz.sizeOf0
 v0:=Tryz.zeroValue0
 t3:=Tryz.underlying3
 a3:=Tryz.isAgg3
 z3:=Tryz.sizeOf3
 v3:=Tryz.zeroValue3
 t4:=Tryz.underlying4
 a4:=Tryz.isAgg4
 z4:=Tryz.sizeOf4
 v4:=Tryz.zeroValue4
 t9:=Tryz.underlying9
 a9:=Tryz.isAgg9
 z9:=Tryz.sizeOf9
 v9:=Tryz.zeroValue9
 t20:=Tryz.underlying20
 a20:=Tryz.isAgg20
 z20:=Tryz.sizeOf20
 v20:=Tryz.zeroValue20
 t22:=Tryz.underlying24
 a22:=Tryz.isAgg24
 z22:=Tryz.sizeOf24
 v22:=Tryz.zeroValue24 }
def Z78 (n:Int):Option (Sl Bs):=if 0<=n/\n.toNat*16<=maxN/\n.toNat<=maxN then some ⟨decide (n=0),[]⟩ else none
theorem Z78_tok {n:Int}{k0:Nat}{r:Sl Bs}(hE:Z78 n=some r) (H:Heap):AC Tryz.prog 37 [.d (.slice k0 none true []),.d (.int .i64 n)] H fun v h'=>∃tk,H tk=none/\v=.a (.d (Sl.d 1 strE (some tk) r))/\h'=H.set tk (some (.tok 1 r.l.length)):=by
 unfold Z78 at hE
 split at hE
 ·rename_i h
  obtain rfl:=oJ hE;exact grow_calls Tryz.lay37 (TK rfl) rfl rfl (by decide) h.1 h.2.1 h.2.2 rfl strE H
 cases hE
def Z71_j7  (s6_8:(Sl Bs)):Option (Sl Bs):=some s6_8
def Z71_l12 (a0:(Sl (Sl Bs))) :Nat->(Sl Bs)->Nat->Option (Sl Bs)
 | 0,_,_=>none
 | n12+1,s6_13,s27_14=>bif (decide (((s27_14:Nat):Int)<((a0.l.length:Nat):Int))) then((a0.l[s27_14]?).bind fun x20=>(appC 16 s6_13 x20).bind fun x21=>(Z71_l12 a0 n12) x21 (s27_14+1)) else(Z71_j7   s6_13)
def Z71_j3 (a0:(Sl (Sl Bs)))  (s3_4:Int):Option (Sl Bs):=(Z78 s3_4).bind fun x6=>Z71_l12 a0 (a0.l.length+1) x6 0
def Z71_j30 (s11_26:Nat) (k_next_24:Int->Nat->Option (Sl Bs)) (s3_31:Int):Option (Sl Bs):=k_next_24 s3_31 (s11_26+1)
def Z71_l24 (a0:(Sl (Sl Bs))) :Nat->Int->Nat->Option (Sl Bs)
 | 0,_,_=>none
 | n24+1,s3_25,s11_26=>bif (decide (((s11_26:Nat):Int)<((a0.l.length:Nat):Int))) then((a0.l[s11_26]?).bind fun x33=>(addC s3_25 ((x33.l.length:Nat):Int)).bind fun x36=>bif (decide (x36<(0:Int))) then(none) else(Z71_j30 s11_26 ((Z71_l24 a0 n24)) x36)) else(Z71_j3 a0  s3_25)
def Z71 (a0:(Sl (Sl Bs))):Option (Sl Bs):=Z71_l24 a0 (a0.l.length+1) (0:Int) 0
theorem Z71_walk {a0:(Sl (Sl Bs))}{w0:Option Nat}{r:Sl Bs}(hE:Z71 a0=some r) (H:Heap) :AC Tryz.prog 29 [.d (Sl.d 1 (fun s=>[Sl.d 1 strE none s]) w0 a0)] H fun v h'=>v=.a (.d (Sl.d 1 strE none r))/\h'=H:=by
 unfold Z71 at hE;refine AC.oW 36 [.tmp 2] Tryz.call29 Tryz.func29 ?_;refine seqR ?_;refine s0 (assignNil (k':=1) rfl) rfl ?_;refine nil ?_;refine seqR (S As (nil ?_));refine seqJH (TA 0 kN) (fun(z:Int)=>[(3,.a (.d (.int .i64 z)))]) (fun z=>H) (fun z=>Z71_j3 a0 z=some r) ?_ ?_
 ·intro K3 hK3;refine seqR (S Mv ?_);refine sLen (f:=(fun s=>[Sl.d 1 strE none s])) (s:=a0) (TK rfl) rfl rfl rfl rfl fun hL23=>?_;refine S Mv (nil ?_);refine block ?_;refine loopH (TA 0 (TA 9 (TA 10 kN))) (fun(z:Nat×Int×Nat)=>[(3,.a (.d (.int .i64 z.2.1))),(11,.a (.d (.int .i64 ((z.2.2:Nat):Int))))]) (fun z=>H) (fun z=>z.1) (fun z=>Z71_l24 a0 z.1 z.2.1 z.2.2=some r) ((a0.l.length+1),(0:Int),0) hE wA ?_
  rintro ⟨n24,s3_25,s11_26⟩ hE K24 hK24;try dsimp only at hE
  cases n24 with
  | zero=>cases hE
  | succ n24 =>
    rw [Z71_l24] at hE;refine seqR (S BI (nil ?_));refine seqK fun K28 hK28=>?_;refine cE hE (fun hc29 hE=>?_) (fun hc29 hE=>?_)
    ·try dsimp only at hc29
     have hf29:=oD hc29;refine sk hK28 ?_;clear hK28 K28;refine seqJH (TA 0 (TA 9 (TA 10 (TA 11 kN)))) (fun(z:Int)=>[(3,.a (.d (.int .i64 z)))]) (fun z=>H) (fun z=>Z71_j30 s11_26 ((Z71_l24 a0 n24)) z=some r) ?_ ?_
     ·intro K30 hK30;refine block ?_;refine seqR ?_;obtain⟨x33,gx33,hE⟩:=bO hE;refine S (ix (fun s=>[Sl.d 1 strE none s]) s11_26 gx33) ?_;refine S Ld (S As (nil ?_));refine seqR (S Mv (S Mv ?_));refine sLen (f:=strE) (s:=x33) (TK rfl) rfl rfl rfl rfl fun hL35=>?_;obtain⟨x36,gx36,hE⟩:=bO hE;refine s0 (addM rfl rfl gx36) rfl ?_;refine S As (nil ?_);refine seqR (S Mv (S BI (nil ?_)));refine cE hE (fun hc38 hE=>?_) (fun hc38 hE=>?_)
      ·cases hE
      refine AWp.skip ?_;exact hK30 _ x36 wA hE
     rintro s3_31 hE;try dsimp only at hE
     unfold Z71_j30 at hE;refine region ?_;refine SI ?_;refine S Mv (nil ?_);exact hK24 _ (n24,s3_31,(s11_26+1)) wA hE (nS _)
    refine AWp.exit ?_;exact hK3 _ s3_25 wA hE
 rintro s3_4 hE;try dsimp only at hE
 unfold Z71_j3 at hE;refine seqR (S Mv ?_);obtain⟨x6,gx6,hE⟩:=bO hE;refine sE (StepE.call rfl rfl (Z78_tok gx6 _)) rfl (fun _ _ _ ⟨⟨tk1,htk1,e1,e2⟩,e3⟩=>?_); subst e1 e2 e3;refine S As (nil ?_);refine seqJH kN (fun(z:(Sl Bs))=>[(6,.a (.d (Sl.d 1 strE (some tk1) z)))]) (fun z=>(H.set tk1 (some (.tok 1 z.l.length)))) (fun z=>Z71_j7 z=some r) ?_ ?_
 ·intro K7 hK7;refine seqR (S Mv ?_);refine sLen (f:=(fun s=>[Sl.d 1 strE none s])) (s:=a0) (TK rfl) rfl rfl rfl rfl fun hL11=>?_;refine S Mv (nil ?_);refine block ?_;refine loopH (TA 25 (TA 26 kN)) (fun(z:Nat×(Sl Bs)×Nat)=>[(6,.a (.d (Sl.d 1 strE (some tk1) z.2.1))),(27,.a (.d (.int .i64 ((z.2.2:Nat):Int))))]) (fun z=>(H.set tk1 (some (.tok 1 z.2.1.l.length)))) (fun z=>z.1) (fun z=>Z71_l12 a0 z.1 z.2.1 z.2.2=some r) ((a0.l.length+1),x6,0) hE wA ?_
  rintro ⟨n12,s6_13,s27_14⟩ hE K12 hK12;try dsimp only at hE
  cases n12 with
  | zero=>cases hE
  | succ n12 =>
    rw [Z71_l12] at hE;refine seqR (S BI (nil ?_));refine seqK fun K16 hK16=>?_;refine cE hE (fun hc17 hE=>?_) (fun hc17 hE=>?_)
    ·try dsimp only at hc17
     have hf17:=oD hc17;refine sk hK16 ?_;clear hK16 K16;refine seqK fun K18 hK18=>?_;refine block ?_;refine seqR ?_;obtain⟨x20,gx20,hE⟩:=bO hE;refine S (ix (fun s=>[Sl.d 1 strE none s]) s27_14 gx20) ?_;refine S Ld (S As (nil ?_));refine region ?_;refine S Mv (S Mv ?_);obtain⟨x21,gx21,hE⟩:=bO hE;refine SH (am strE (TK rfl) rfl (TK rfl) (TK rfl) gx21) ?_;refine hq (H.set tk1 (some (.tok 1 x21.l.length))) ?_
     refine S As (nil ?_);refine hK18 _ ?_;clear hK18 K18;refine region ?_;refine SI ?_;refine S Mv (nil ?_);exact hK12 _ (n12,x21,(s27_14+1)) wA hE (nS _)
    refine AWp.exit ?_;exact hK7 _ s6_13 wA hE
 rintro s6_8 hE;try dsimp only at hE
 unfold Z71_j7 at hE;refine seqR (S Mv (S As (nil ?_)));refine AWp.dropTok 2 rfl ?_;refine AWp.ret ?_;repeat (first|refine xBlock_ret ?_|refine xThen_ret ?_)
 obtain rfl:=oJ hE;refine retQ.retF H rfl ⟨rfl,rfl⟩ ?_
 first|exact Heap.sub_set htk1|(simp only [Heap.set_set]; exact Heap.sub_set htk1)
def Z39_j12  (y13_l1:TDef):Option TDef:=some y13_l1
def Z39_l17 (a1:TDef) :Nat->Nat->TDef->Option TDef
 | 0,_,_=>none
 | n17+1,s67_18,y19_l1=>bif (decide (((s67_18:Nat):Int)<((a1.FMembers.l.length:Nat):Int))) then(none) else(Z39_j12   y19_l1)
def Z39_j10 (a1:TDef)  (y11_l1:TDef):Option TDef:=Z39_l17 a1 (a1.FMembers.l.length+1) 0 y11_l1
def Z39_j31 (s31_26:Nat) (k_next_25:Nat->TDef->Option TDef) (y32_l1:TDef):Option TDef:=k_next_25 (s31_26+1) y32_l1
def Z39_l25 (a0:Z3) (a1:TDef) (x3:(Sl Bs)) :Nat->Nat->TDef->Option TDef
 | 0,_,_=>none
 | n25+1,s31_26,y27_l1=>bif (decide (((s31_26:Nat):Int)<((a1.FFields.l.length:Nat):Int))) then((a1.FFields.l[s31_26]?).bind fun x34=>(Z29 x34.FDirs).bind fun x36=>(Z71 (⟨false,[x3,x36]⟩:Sl (Sl Bs))).bind fun x37=>(Z38 a0 x37).bind fun x38=>bif x38 then((Z69 x34.FType.FWraps).bind fun x41=>(Z30 x34.FDirs).bind fun x43=>(Z31 x34.FArgs).bind fun x45=>(appC 104 y27_l1.FFields (⟨false,[(Z6.mk x34.FName x45 (TRef.mk x34.FType.FName x41) x43)]⟩:Sl Z6)).bind fun x46=>Z39_j31 s31_26 ((Z39_l25 a0 a1 x3 n25)) (TDef.mk y27_l1.FKind y27_l1.FName y27_l1.FImplements y27_l1.FDirs x46 y27_l1.FMembers y27_l1.FInputs)) else(Z39_j31 s31_26 ((Z39_l25 a0 a1 x3 n25)) y27_l1)) else(Z39_j10 a1  y27_l1)
def Z39 (a0:Z3) (a1:TDef):Option TDef:=(Z29 a1.FDirs).bind fun x3=>(Z70 a1.FImplements).bind fun x5=>(Z30 a1.FDirs).bind fun x6=>(Z31 a1.FInputs).bind fun x7=>Z39_l25 a0 a1 x3 (a1.FFields.l.length+1) 0 (TDef.mk a1.FKind a1.FName x5 x6 (Sl.nil:Sl Z6) (Sl.nil:Sl Z8) x7)
theorem Z39_walk {a0:Z3}{a1 r:TDef}(hE:Z39 a0 a1=some r) (H:Heap) :AC Tryz.prog 15 [.agg (Z3.c a0),.agg (TDef.c a1)] H fun v h'=>v=.a (.agg (TDef.c r))/\h'=H:=by
 unfold Z39 at hE;refine AC.oW 97 [.cell 4 37] Tryz.call15 Tryz.func15 ?_;refine seqR (S BX (S BX ?_));refine Sl ?_;refine nil ?_;refine seqR (S Fv (S Ld ?_));obtain⟨x3,gx3,hE⟩:=bO hE;refine Sc rfl rfl (Z29_walk gx3) ?_;refine S As (nil ?_);refine AWp.seqD (Sd Fv (Sd Ld (Sd Fv (Sd Ld (Sd Fv (Sd Ld ?_))))));obtain⟨x5,gx5,hE⟩:=bO hE;refine Scd rfl rfl (Z70_walk gx5) ?_;refine Sd Fv (Sd Ld ?_);obtain⟨x6,gx6,hE⟩:=bO hE
 refine Scd rfl rfl (Z30_walk gx6) ?_;refine Sd Fv (Sd Ld ?_);obtain⟨x7,gx7,hE⟩:=bO hE;refine Scd rfl rfl (Z31_walk gx7) ?_;refine Sd BU ?_;refine DOps.sB (TK rfl) rfl rfl ?_ (by repeat (first|exact Snoc.nil|apply Snoc.cons));refine DOps.sLn (storeLFA (TK rfl) rfl rfl rfl rfl rfl) ?_;refine DOps.nil (by decide +kernel) ?_;refine AWp.tok 5 fun tk6_8 htk6_8=>?_;refine AWp.relocal 1 _ rfl (fun j w cs hh hx=>tok_cell 4 5 5 hh (t:=tk6_8) hpG hx rfl) ?_
 refine AWp.tok 2 fun tk6_9 htk6_9=>?_;obtain⟨ne_tk6_9_tk6_8,htk6_9⟩:=Heap.set_fresh htk6_9;refine AWp.relocal 1 _ rfl (fun j w cs hh hx=>tok_cell 5 2 2 hh (t:=tk6_9) hpG hx rfl) ?_;refine seqJ (TA 2 (TA 3 (TA 4 (TA 5 (TA 6 kN))))) (fun(z:TDef)=>[]) (fun z=>[TDef.c TDef.zero,((intE .i64) z.FKind++strE z.FName++(fun s=>[Sl.d 1 strE none s]) z.FImplements++(fun s=>[Sl.d 2 TDir.c none s]) z.FDirs++[Sl.d 5 Z6.c (some tk6_8) z.FFields]++[Sl.d 2 Z8.c (some tk6_9) z.FMembers]++(fun s=>[Sl.d 10 Z7.c none s]) z.FInputs)]) (fun z=>((H.set tk6_8 (some (.tok 5 z.FFields.l.length))).set tk6_9 (some (.tok 2 z.FMembers.l.length)))) (fun z=>Z39_j10 a1 z=some r) ?_ ?_
 ·intro K10 hK10;refine seqR (S Fv (S Ld ?_));refine sLen (f:=Z6.c) (s:=a1.FFields) (TK rfl) rfl rfl rfl rfl fun hL24=>?_;refine S Mv (nil ?_);refine block ?_;refine loopO (TA 2 (TA 3 (TA 4 (TA 5 (TA 6 (TA 29 (TA 30 kN))))))) (fun(z:Nat×Nat×TDef)=>[(31,.a (.d (.int .i64 ((z.2.1:Nat):Int))))]) (fun z=>[TDef.c TDef.zero,((intE .i64) z.2.2.FKind++strE z.2.2.FName++(fun s=>[Sl.d 1 strE none s]) z.2.2.FImplements++(fun s=>[Sl.d 2 TDir.c none s]) z.2.2.FDirs++[Sl.d 5 Z6.c (some tk6_8) z.2.2.FFields]++[Sl.d 2 Z8.c (some tk6_9) z.2.2.FMembers]++(fun s=>[Sl.d 10 Z7.c none s]) z.2.2.FInputs)]) (fun z=>((H.set tk6_8 (some (.tok 5 z.2.2.FFields.l.length))).set tk6_9 (some (.tok 2 z.2.2.FMembers.l.length)))) (fun z=>z.1) (fun z=>Z39_l25 a0 a1 x3 z.1 z.2.1 z.2.2=some r) ((a1.FFields.l.length+1),0,(TDef.mk a1.FKind a1.FName x5 x6 (Sl.nil:Sl Z6) (Sl.nil:Sl Z8) x7)) hE wA ?_
  rintro ⟨n25,s31_26,y27_l1⟩ hE K25 hK25;try dsimp only at hE
  cases n25 with
  | zero=>cases hE
  | succ n25 =>
    rw [Z39_l25] at hE;refine seqR (S BI (nil ?_));refine seqK fun K29 hK29=>?_;refine cE hE (fun hc30 hE=>?_) (fun hc30 hE=>?_)
    ·try dsimp only at hc30
     have hf30:=oD hc30;refine sk hK29 ?_;clear hK29 K29;refine seqJ (TA 2 (TA 3 (TA 4 (TA 5 (TA 6 (TA 29 (TA 30 (TA 31 kN)))))))) (fun(z:TDef)=>[]) (fun z=>[TDef.c TDef.zero,((intE .i64) z.FKind++strE z.FName++(fun s=>[Sl.d 1 strE none s]) z.FImplements++(fun s=>[Sl.d 2 TDir.c none s]) z.FDirs++[Sl.d 5 Z6.c (some tk6_8) z.FFields]++[Sl.d 2 Z8.c (some tk6_9) z.FMembers]++(fun s=>[Sl.d 10 Z7.c none s]) z.FInputs)]) (fun z=>((H.set tk6_8 (some (.tok 5 z.FFields.l.length))).set tk6_9 (some (.tok 2 z.FMembers.l.length)))) (fun z=>Z39_j31 s31_26 ((Z39_l25 a0 a1 x3 n25)) z=some r) ?_ ?_
     ·intro K31 hK31;refine block ?_;refine seqR ?_;obtain⟨x34,gx34,hE⟩:=bO hE;refine S (ix Z6.c s31_26 gx34) (S Ld ?_);refine Sl ?_;refine Sf ?_;refine nil ?_;refine AWp.seqD (Sd Ld (Sd Mv (Sd FL (Sd LL ?_))));obtain⟨x36,gx36,hE⟩:=bO hE;refine Scd rfl rfl (Z29_walk gx36) ?_;refine Sd BV ?_;obtain⟨x37,gx37,hE⟩:=bO hE;refine Scd rfl rfl (Z71_walk gx37) ?_;obtain⟨x38,gx38,hE⟩:=bO hE;refine Scd rfl rfl (Z38_walk gx38) ?_
      refine DOps.nil (by decide +kernel) ?_;refine cE hE (fun hc39 hE=>?_) (fun hc39 hE=>?_)
      ·refine seqR (S FL (S FL (S LL ?_)));obtain⟨x41,gx41,hE⟩:=bO hE;refine Sc rfl rfl (Z69_walk gx41) ?_;refine S FL (S FL ?_);refine Sf ?_;refine nil ?_;refine seqR (S FL (S LL ?_));obtain⟨x43,gx43,hE⟩:=bO hE;refine Sc rfl rfl (Z30_walk gx43) ?_;refine S FL ?_;refine Sf ?_;refine nil ?_;refine seqR (S FL (S LL ?_));obtain⟨x45,gx45,hE⟩:=bO hE;refine Sc rfl rfl (Z31_walk gx45) ?_;refine S FL ?_;refine Sf ?_
       refine nil ?_;refine region ?_;refine S FL (S LL (S LL (S BV ?_)));obtain⟨x46,gx46,hE⟩:=bO hE;refine SH (am Z6.c (TK rfl) rfl (TK rfl) (TK rfl) gx46) ?_;refine hq ((H.set tk6_8 (some (.tok 5 x46.l.length))).set tk6_9 (some (.tok 2 y27_l1.FMembers.l.length))) ?_;refine S FL ?_;refine Sf ?_;refine nil ?_;exact hK31 _ (TDef.mk y27_l1.FKind y27_l1.FName y27_l1.FImplements y27_l1.FDirs x46 y27_l1.FMembers y27_l1.FInputs) wA hE
      refine AWp.skip ?_;exact hK31 _ y27_l1 wA hE
     rintro y32_l1 hE;try dsimp only at hE
     unfold Z39_j31 at hE;refine region ?_;refine SI ?_;refine S Mv (nil ?_);exact hK25 _ (n25,(s31_26+1),y32_l1) wA hE (nS _)
    refine AWp.exit ?_;exact hK10 _ y27_l1 wA hE
 rintro y11_l1 hE;try dsimp only at hE
 unfold Z39_j10 at hE;refine seqJ (TA 4 (TA 6 kN)) (fun(z:TDef)=>[]) (fun z=>[TDef.c TDef.zero,((intE .i64) z.FKind++strE z.FName++(fun s=>[Sl.d 1 strE none s]) z.FImplements++(fun s=>[Sl.d 2 TDir.c none s]) z.FDirs++[Sl.d 5 Z6.c (some tk6_8) z.FFields]++[Sl.d 2 Z8.c (some tk6_9) z.FMembers]++(fun s=>[Sl.d 10 Z7.c none s]) z.FInputs)]) (fun z=>((H.set tk6_8 (some (.tok 5 z.FFields.l.length))).set tk6_9 (some (.tok 2 z.FMembers.l.length)))) (fun z=>Z39_j12 z=some r) ?_ ?_
 ·intro K12 hK12;refine seqR (S Fv (S Ld ?_));refine sLen (f:=Z8.c) (s:=a1.FMembers) (TK rfl) rfl rfl rfl rfl fun hL16=>?_;refine S Mv (nil ?_);refine block ?_;refine loopO (TA 2 (TA 3 (TA 4 (TA 5 (TA 6 (TA 65 (TA 66 kN))))))) (fun(z:Nat×Nat×TDef)=>[(67,.a (.d (.int .i64 ((z.2.1:Nat):Int))))]) (fun z=>[TDef.c TDef.zero,((intE .i64) z.2.2.FKind++strE z.2.2.FName++(fun s=>[Sl.d 1 strE none s]) z.2.2.FImplements++(fun s=>[Sl.d 2 TDir.c none s]) z.2.2.FDirs++[Sl.d 5 Z6.c (some tk6_8) z.2.2.FFields]++[Sl.d 2 Z8.c (some tk6_9) z.2.2.FMembers]++(fun s=>[Sl.d 10 Z7.c none s]) z.2.2.FInputs)]) (fun z=>((H.set tk6_8 (some (.tok 5 z.2.2.FFields.l.length))).set tk6_9 (some (.tok 2 z.2.2.FMembers.l.length)))) (fun z=>z.1) (fun z=>Z39_l17 a1 z.1 z.2.1 z.2.2=some r) ((a1.FMembers.l.length+1),0,y11_l1) hE wA ?_
  rintro ⟨n17,s67_18,y19_l1⟩ hE K17 hK17;try dsimp only at hE
  cases n17 with
  | zero=>cases hE
  | succ n17 =>
    rw [Z39_l17] at hE;refine seqR (S BI (nil ?_));refine seqK fun K21 hK21=>?_;refine cE hE (fun hc22 hE=>?_) (fun hc22 hE=>?_)
    ·try dsimp only at hc22
     have hf22:=oD hc22;cases hE
    refine AWp.exit ?_;exact hK12 _ y19_l1 wA hE
 rintro y13_l1 hE;try dsimp only at hE
 unfold Z39_j12 at hE;refine seqK fun K14 hK14=>?_;refine AWp.relocal 1 _ rfl (fun j w cs hh hx=>untok_cell 4 hx rfl) ?_;refine AWp.relocal 1 _ rfl (fun j w cs hh hx=>untok_cell 5 hx rfl) ?_;refine region ?_;refine S LL ?_;refine Sf ?_;refine nil ?_;refine hK14 _ ?_;clear hK14 K14;refine AWp.ret ?_;repeat (first|refine xBlock_ret ?_|refine xThen_ret ?_)
 obtain rfl:=oJ hE;refine retQ.retF H rfl ⟨rfl,rfl⟩ ?_;intro id_ o_ he_;have e_tk6_8:id_≠tk6_8:=fun e_=>by subst e_; simp_all [Heap.set]
 have e_tk6_9:id_≠tk6_9:=fun e_=>by subst e_; simp_all [Heap.set]
 rw [<- he_];simp only [Heap.set] at he_ ⊢
 (repeat' split)<;>simp_all
def Z79_j2  :Option Int:=some (-1:Int)
def Z79_l6 (a0:(Sl Z7)) :Nat->Nat->Option Int
 | 0,_=>none
 | n6+1,s8_7=>bif (decide (((s8_7:Nat):Int)<((a0.l.length:Nat):Int))) then(none) else(Z79_j2   )
def Z79 (a0:(Sl Z7)) (a1:(Z7->Option Bool)):Option Int:=Z79_l6 a0 (a0.l.length+1) 0
theorem Z79_walk {a0:Sl Z7}{a1:Z7->Option Bool}{w0:Option Nat}{cl1:List D}{k1:Nat}{r:Int}(hE:Z79 a0 a1=some r) (H:Heap) (hf1:∀x0 r,a1 x0=some r->∀H,AC Tryz.prog k1 ([.agg (Z7.c x0)]++cl1.map A.d) H fun v h'=>v=.a (.d (.bool r))/\h'=H):AC Tryz.prog 71 [.d (Sl.d 10 Z7.c w0 a0),.d (.func k1 cl1)] H fun v h'=>v=.a (.d (.int .i64 r))/\h'=H:=by
 unfold Z79 at hE;refine AC.oW 19 [.tmp 4] Tryz.call71 Tryz.func71 ?_;refine seqR (S As (nil ?_));refine seqJH kN (fun(z:Unit)=>[]) (fun z=>H) (fun z=>Z79_j2 =some r) ?_ ?_
 ·intro K2 hK2;refine seqR (S Mv ?_);refine sLen (f:=Z7.c) (s:=a0) (TK rfl) rfl rfl rfl rfl fun hL5=>?_;refine S Mv (nil ?_);refine block ?_;refine loopH (TA 0 (TA 1 (TA 7 kN))) (fun(z:Nat×Nat)=>[(8,.a (.d (.int .i64 ((z.2:Nat):Int))))]) (fun z=>H) (fun z=>z.1) (fun z=>Z79_l6 a0 z.1 z.2=some r) ((a0.l.length+1),0) hE wA ?_;rintro ⟨n6,s8_7⟩ hE K6 hK6;try dsimp only at hE
  cases n6 with
  | zero=>cases hE
  | succ n6 =>
    rw [Z79_l6] at hE;refine seqR (S BI (nil ?_));refine seqK fun K9 hK9=>?_;refine cE hE (fun hc10 hE=>?_) (fun hc10 hE=>?_)
    ·try dsimp only at hc10
     have hf10:=oD hc10;cases hE
    refine AWp.exit ?_;exact hK2 _ () wA hE
 rintro _ hE;try dsimp only at hE
 unfold Z79_j2 at hE;refine seqR (S As (nil ?_));exact rt hE
def Z72 (a0:(Sl Z7)) (a1:(Z7->Option Bool)):Option Bool:=(Z79 a0 a1).bind fun x3=>some (decide ((0:Int)<=x3))
theorem Z72_walk {a0:Sl Z7}{a1:Z7->Option Bool}{w0:Option Nat}{cl1:List D}{k1:Nat}{r:Bool}(hE:Z72 a0 a1=some r) (H:Heap) (hf1:∀x0 r,a1 x0=some r->∀H,AC Tryz.prog k1 ([.agg (Z7.c x0)]++cl1.map A.d) H fun v h'=>v=.a (.d (.bool r))/\h'=H):AC Tryz.prog 53 [.d (Sl.d 10 Z7.c w0 a0),.d (.func k1 cl1)] H fun v h'=>v=.a (.d (.bool r))/\h'=H:=by
 unfold Z72 at hE;refine AC.oW 9 [.tmp 4] Tryz.call53 Tryz.func53 ?_;refine seqR (S As (nil ?_));refine seqR (S Mv (S Mv ?_));obtain⟨x3,gx3,hE⟩:=bO hE;refine s0 (callP rfl rfl (fun H=>Z79_walk gx3 H hf1)) rfl ?_;refine S BI (S As (nil ?_));exact rt hE
end Go.Proofs

namespace Go.Proofs
open Go Go.Ab
open AOps Cert AWp Keeps KeepsT
variable {lou:Lou}
def Z55_j2  (y3_l0:TDef):Option (TDef×Bool):=some ((TDef.mk (0:Int) ([]:Bs) (Sl.nil:Sl Bs) (Sl.nil:Sl TDir) (Sl.nil:Sl Z6) (Sl.nil:Sl Z8) (Sl.nil:Sl Z7)),false)
def Z55_l7 (a0:TDoc) (a1:Bs) :Nat->Nat->TDef->Option (TDef×Bool)
 | 0,_,_=>none
 | n7+1,s11_8,y9_l0=>bif (decide (((s11_8:Nat):Int)<((a0.FDefs.l.length:Nat):Int))) then((a0.FDefs.l[s11_8]?).bind fun x15=>bif ((x15.FName==a1)) then(some (x15,true)) else((Z55_l7 a0 a1 n7) (s11_8+1) y9_l0)) else(Z55_j2   y9_l0)
def Z55 (a0:TDoc) (a1:Bs):Option (TDef×Bool):=Z55_l7 a0 a1 (a0.FDefs.l.length+1) 0 TDef.zero
theorem Z55_walk {a0:TDoc}{a1:Bs}{r:TDef×Bool}(hE:Z55 a0 a1=some r) (H:Heap) :AC Tryz.prog 19 [.agg (TDoc.c a0),.d (.str a1)] H fun v h'=>v=.tup [.agg (TDef.c r.1),.d (.bool r.2)]/\h'=H:=by
 unfold Z55 at hE;refine AC.oW 22 [.cell 4 37,.tmp 5] Tryz.call19 Tryz.func19 ?_;refine seqR (S BX ?_);refine Sl ?_;refine S As (nil ?_);refine seqJ (TA 4 kN) (fun(z:TDef)=>[]) (fun z=>[TDef.c z]) (fun z=>H) (fun z=>Z55_j2 z=some r) ?_ ?_
 ·intro K2 hK2;refine seqR (S Fv (S Ld ?_));refine sLen (f:=TDef.c) (s:=a0.FDefs) (TK rfl) rfl rfl rfl rfl fun hL6=>?_;refine S Mv (nil ?_);refine block ?_;refine loopO (TA 1 (TA 4 (TA 9 (TA 10 kN)))) (fun(z:Nat×Nat×TDef)=>[(11,.a (.d (.int .i64 ((z.2.1:Nat):Int))))]) (fun z=>[TDef.c z.2.2]) (fun z=>H) (fun z=>z.1) (fun z=>Z55_l7 a0 a1 z.1 z.2.1 z.2.2=some r) ((a0.FDefs.l.length+1),0,TDef.zero) hE wA ?_
  rintro ⟨n7,s11_8,y9_l0⟩ hE K7 hK7;try dsimp only at hE
  cases n7 with
  | zero=>cases hE
  | succ n7 =>
    rw [Z55_l7] at hE;refine seqR (S BI (nil ?_));refine seqK fun K11 hK11=>?_;refine cE hE (fun hc12 hE=>?_) (fun hc12 hE=>?_)
    ·try dsimp only at hc12
     have hf12:=oD hc12;refine sk hK11 ?_;clear hK11 K11;refine seqK fun K13 hK13=>?_;refine block ?_;refine seqR ?_;obtain⟨x15,gx15,hE⟩:=bO hE;refine S (ix TDef.c s11_8 gx15) (S Ld ?_);refine Sl ?_;refine Sf ?_;refine nil ?_;refine freezeA 7 _ rfl (KA 1 (KA 4 (KA 9 (KA 10 (KA 11 Keeps.nil))))) ?_;refine seqR (S Fv (S Ld (S Mv (S BS (nil ?_)))));refine cE hE (fun hc17 hE=>?_) (fun hc17 hE=>?_)
     ·refine seqR (S Ld ?_);refine Sf ?_;refine S As (nil ?_);exact rt hE
     refine sk hK13 ?_;clear hK13 K13;refine region ?_;refine SI ?_;refine S Mv (nil ?_);exact hK7 _ (n7,(s11_8+1),y9_l0) wA hE (nS _)
    refine AWp.exit ?_;exact hK2 _ y9_l0 wA hE
 rintro y3_l0 hE;try dsimp only at hE
 unfold Z55_j2 at hE;refine seqR (S BU ?_);refine Sf ?_;refine S As (nil ?_);exact rt hE
def Z59 (a0:Bs):Option Bool:=some (((((a0==([73,110,116]:Bs)))||((a0==([83,116,114,105,110,103]:Bs))))||((a0==([66,111,111,108,101,97,110]:Bs))))||((a0==([73,68]:Bs))))
theorem Z59_walk {a0:Bs}{r:Bool}(hE:Z59 a0=some r) (H:Heap) :AC Tryz.prog 58 [.d (.str a0)] H fun v h'=>v=.a (.d (.bool r))/\h'=H:=by
 unfold Z59 at hE;refine AC.oW 17 [.tmp 2] Tryz.call58 Tryz.func58 ?_;refine seqR (S As (nil ?_));refine seqR (S Mv (S BS (S Mv (G0 Mv ?_))));refine G1 6 rfl BS ?_;refine S PO (S Mv (G0 Mv ?_));refine G1 10 rfl BS ?_;refine S PO (S Mv (G0 Mv ?_));refine G1 14 rfl BS ?_;refine S PO (S As (nil ?_));exact rt hE
def Z33 (a0:Z2) (a1:Bs):Option Bool:=(Z55 a0.Fd a1).bind fun x3=>guardO ((!x3.2)) (Z59 a1) false fun x5=>some ((!x3.2)&&(!x5))
theorem Z33_walk {a0:Z2}{a1:Bs}{c0:Nat}{r:Bool}(hE:Z33 a0 a1=some r) (H:Heap) (hc0:H c0=some (.cells (Z2.c a0))):AC Tryz.prog 39 [.d (.ptr c0 0),.d (.str a1)] H fun v h'=>v=.a (.d (.bool r))/\h'=H:=by
 unfold Z33 at hE;refine AC.oW 23 [.tmp 4] Tryz.call39 Tryz.func39 ?_;refine seqR (S As (nil ?_));refine seqR (S Mv (S NP ?_));refine s0 (fieldP (TK rfl) rfl rfl (TK rfl) rfl rfl) rfl ?_;refine s0 (loadP (TK rfl) rfl rfl hpG rfl) rfl ?_;refine S Mv ?_;obtain⟨x3,gx3,hE⟩:=bO hE;refine Sc rfl rfl (Z55_walk gx3) ?_;refine S Mv (S EX (S EX ?_));refine Sl ?_;refine Sf ?_;refine S As (nil ?_);refine freezeA 5 _ rfl (KA 1 (KA 6 Keeps.nil)) ?_
 refine seqR (S Mv (S NB (S Mv (G0 Mv ?_))));obtain⟨x5,gx5,hE⟩:=gO hE;refine Gc1 19 rfl rfl rfl rfl rfl (fun hC=>Z59_walk (gx5 hC)) ?_;refine G1 20 rfl NB ?_;refine S PA (S As (nil ?_));exact rt hE
def Z75 (a0:(Sl Z7)) (a1:(Z7->Option Bool)):Option (Sl Z7):=(Z79 a0 a1).bind fun x3=>bif (decide (x3=(-1:Int))) then(some a0) else(none)
theorem Z75_walk {a0:Sl Z7}{a1:Z7->Option Bool}{w0:Option Nat}{cl1:List D}{k1:Nat}{r:Sl Z7}(hE:Z75 a0 a1=some r) (H:Heap) (hf1:∀x0 r,a1 x0=some r->∀H,AC Tryz.prog k1 ([.agg (Z7.c x0)]++cl1.map A.d) H fun v h'=>v=.a (.d (.bool r))/\h'=H):AC Tryz.prog 56 [.d (Sl.d 10 Z7.c w0 a0),.d (.func k1 cl1)] H fun v h'=>v=.a (.d (Sl.d 10 Z7.c none r))/\h'=H:=by
 unfold Z75 at hE;refine AC.oW 42 [.tmp 4] Tryz.call56 Tryz.func56 ?_;refine seqR ?_;refine s0 (assignNil (k':=10) rfl) rfl ?_;refine nil ?_;refine seqR (S Mv (S Mv ?_));obtain⟨x3,gx3,hE⟩:=bO hE;refine s0 (callP rfl rfl (fun H=>Z79_walk gx3 H hf1)) rfl ?_;refine S As (nil ?_);refine seqK fun K4 hK4=>?_;refine seqR (S Mv (S BI (nil ?_)));refine cE hE (fun hc6 hE=>?_) (fun hc6 hE=>?_)
 ·refine seqR (S Mv (S As (nil ?_)));refine AWp.dropTok 4 rfl ?_;exact rt hE
 cases hE
def Z34 (a0:Z2) (a1:(Sl Z7)):Option ((Sl Z7)×Bool×Z2):=(Z72 a1 (fun _=>none)).bind fun x3=>(Z75 a1 (fun _=>none)).bind fun x7=>some (x7,x3,(Z2.mk a0.Fd (a0.Fchanged||(decide (((x7.l.length:Nat):Int)<((a1.l.length:Nat):Int))))))
theorem Z34_walk {a0:Z2}{a1:Sl Z7}{w1:Option Nat}{c0:Nat}{r:((Sl Z7)×Bool×Z2)}(hE:Z34 a0 a1=some r) (H:Heap) (hc0:H c0=some (.cells (Z2.c a0))):AC Tryz.prog 38 [.d (.ptr c0 0),.d (Sl.d 10 Z7.c w1 a1)] H fun v h'=>v=.tup [.d (Sl.d 10 Z7.c none r.1),.d (.bool r.2.1)]/\h'=(H.set c0 (some (.cells (Z2.c r.2.2)))):=by
 unfold Z34 at hE;refine AC.oW 31 [.tmp 4,.tmp 5] Tryz.call38 Tryz.func38 ?_;refine AWp.heqA (h':=(H.set c0 (some (.cells (Z2.c a0))))) (by funext n_; simp only [Heap.set]; (repeat' split)<;>simp_all) ?_;refine seqR (S BX ?_);refine s0 (assignNil (k':=10) rfl) rfl ?_;refine S As (nil ?_);refine seqR (S Mv ?_);refine s0 (makeFunc rfl) rfl ?_;obtain⟨x3,gx3,hE⟩:=bO hE;refine s0 (callP rfl rfl (fun H=>Z72_walk gx3 H (fun _ _ hx=>by cases hx))) rfl ?_
 refine S As (nil ?_);refine seqR (S Mv ?_);refine sLen (f:=Z7.c) (s:=a1) (TK rfl) rfl rfl rfl rfl fun hL5=>?_;refine S As (nil ?_);refine seqR (S Mv ?_);refine s0 (makeFunc rfl) rfl ?_;obtain⟨x7,gx7,hE⟩:=bO hE;refine s0 (callP rfl rfl (fun H=>Z75_walk gx7 H (fun _ _ hx=>by cases hx))) rfl ?_;refine S As (nil ?_);refine AWp.seqD (Sd Ld (Sd Ld (Sd NP ?_)));refine DOps.s0 (fieldP (TK rfl) rfl rfl (TK rfl) rfl rfl) rfl ?_
 refine DOps.s0 (loadP (TK rfl) rfl rfl hpG rfl) rfl ?_;refine Sd Mv (G0d Mv ?_);refine DOps.gC rfl rfl (fun hC=>ungdA (k:=22) rfl (lenM' (f:=Z7.c) (s:=x7) (TK rfl) rfl rfl rfl)) rfl ?_;refine G0d Mv ?_;refine G2d 23 24 rfl rfl BI ?_;refine Sd PO (Sd NP ?_);refine DOps.s0 (fieldP (TK rfl) rfl rfl (TK rfl) rfl rfl) rfl ?_;refine DOps.sHn (storeP1 (TK rfl) rfl rfl hpG rfl (by repeat (first|exact SetAt.zero|apply SetAt.succ))) rfl rfl ?_
 refine DOps.Dh (H.set c0 (some (.cells (Z2.c (Z2.mk a0.Fd (a0.Fchanged||(decide (((x7.l.length:Nat):Int)<((a1.l.length:Nat):Int))))))))) ?_;refine DOps.nil (by decide +kernel) ?_;refine seqR (S Mv (S Mv (S As (S As (nil ?_)))));exact rt hE
def Z76 (a0:(Sl Bs)) (a1:(Bs->Option Bool)):Option (Sl Bs):=(Z80 a0 a1).bind fun x3=>bif (decide (x3=(-1:Int))) then(some a0) else(none)
theorem Z80_none {a0:Sl Bs}{x:Int}(h:Z80 a0 (fun _=>none)=some x):x = -1:=by
 unfold Z80 at h;rw [Z80_l6] at h;cases hc:decide (((0:Nat):Int)<((a0.l.length:Nat):Int))
 ·rw [hc,cond_false] at h;unfold Z80_j2 at h;cases h; rfl
 rw [hc,cond_true] at h;obtain⟨x14,_,h⟩:=bindO_some h;cases h
theorem Z80_any {a0:Sl Bs}{w0:Option Nat}{r:Int}(hE:Z80 a0 (fun _=>none)=some r) (H:Heap):AC Tryz.prog 35 [.d (Sl.d 1 strE w0 a0),.d .fany] H fun v h'=>v=.a (.d (.int .i64 r))/\h'=H:=by
 unfold Z80 at hE;refine AC.oW 19 [.tmp 4] Tryz.call35 Tryz.func35 ?_;refine seqR (S As (nil ?_));refine seqJH kN (fun(z:Unit)=>[]) (fun z=>H) (fun z=>Z80_j2 =some r) ?_ ?_
 ·intro K2 hK2;refine seqR (S Mv ?_);refine sLen (f:=strE) (s:=a0) (TK rfl) rfl rfl rfl rfl fun hL5=>?_;refine S Mv (nil ?_);refine block ?_;refine loopH (TA 0 (TA 1 (TA 7 kN))) (fun(z:Nat×Nat)=>[(8,.a (.d (.int .i64 ((z.2:Nat):Int))))]) (fun z=>H) (fun z=>z.1) (fun z=>Z80_l6 a0 (fun _=>none) z.1 z.2=some r) ((a0.l.length+1),0) hE wA ?_;rintro ⟨n6,s8_7⟩ hE K6 hK6;try dsimp only at hE
  cases n6 with
  | zero=>cases hE
  | succ n6 =>
    rw [Z80_l6] at hE;refine seqR (S BI (nil ?_));refine seqK fun K9 hK9=>?_;refine cE hE (fun hc10 hE=>?_) (fun hc10 hE=>?_)
    ·try dsimp only at hc10
     have hf10:=oD hc10;refine sk hK9 ?_;clear hK9 K9;refine seqK fun K11 hK11=>?_;refine block ?_;refine seqR (S Mv (S As (nil ?_)));refine seqK fun K13 hK13=>?_;refine region ?_;refine S Mv (S Mv (S Mv ?_));obtain⟨x14,gx14,hE⟩:=bO hE;refine S (ix strE s8_7 gx14) (S Ld ?_);obtain⟨x15,gx15,hE⟩:=bO hE;cases gx15
    refine AWp.exit ?_;exact hK2 _ () wA hE
 rintro _ hE;try dsimp only at hE
 unfold Z80_j2 at hE;refine seqR (S As (nil ?_));exact rt hE
theorem Z76_any {a0:Sl Bs}{w0:Option Nat}{r:Sl Bs}(hE:Z76 a0 (fun _=>none)=some r) (H:Heap):AC Tryz.prog 42 [.d (Sl.d 1 strE w0 a0),.d .fany] H fun v h'=>v=.a (.d (Sl.d 1 strE none r))/\h'=H:=by
 unfold Z76 at hE;refine AC.oW 42 [.tmp 4] Tryz.call42 Tryz.func42 ?_;refine seqR ?_;refine s0 (assignNil (k':=1) rfl) rfl ?_;refine nil ?_;refine seqR (S Mv (S Mv ?_));obtain⟨x3,gx3,hE⟩:=bO hE;refine Sc rfl rfl (Z80_any gx3) ?_;refine S As (nil ?_);refine seqK fun K4 hK4=>?_;refine seqR (S Mv (S BI (nil ?_)));refine cE hE (fun hc6 hE=>?_) (fun hc6 hE=>?_)
 ·refine seqR (S Mv (S As (nil ?_)));refine AWp.dropTok 4 rfl ?_;exact rt hE
 rw [Z80_none gx3] at hc6;cases hc6
end Go.Proofs

namespace Go.Proofs
open Go Go.Ab
open AOps Cert AWp Keeps KeepsT
variable {lou:Lou}
def Z32_j18 (x9:((Sl Z7)×Bool×Z2)) (x11:Int) (y13_c1:TDef) (x15:(Sl Bs)) (x17:Int)  :Option (Bool×Z2×TDef):=some (((!x9.2.1)&&(decide ((0:Int)<((y13_c1.FInputs.l.length:Nat):Int)))),(Z2.mk x9.2.2.Fd (x9.2.2.Fchanged||(decide (x17<x11)))),(TDef.mk y13_c1.FKind y13_c1.FName x15 y13_c1.FDirs y13_c1.FFields y13_c1.FMembers y13_c1.FInputs))
def Z32_j21 (x9:((Sl Z7)×Bool×Z2)) (x11:Int) (y13_c1:TDef) (x15:(Sl Bs)) (x17:Int)  (s121_22:Bool):Option (Bool×Z2×TDef):=bif s121_22 then(some ((decide ((0:Int)<((y13_c1.FFields.l.length:Nat):Int))),(Z2.mk x9.2.2.Fd (x9.2.2.Fchanged||(decide (x17<x11)))),(TDef.mk y13_c1.FKind y13_c1.FName x15 y13_c1.FDirs y13_c1.FFields y13_c1.FMembers y13_c1.FInputs))) else(none)
def Z32_j12 (x9:((Sl Z7)×Bool×Z2)) (x11:Int)  (y13_c1:TDef):Option (Bool×Z2×TDef):=(Z76 y13_c1.FImplements (fun _=>none)).bind fun x15=>guardO (!x9.2.2.Fchanged) (addC ((y13_c1.FMembers.l.length:Nat):Int) ((x15.l.length:Nat):Int)) (0:Int) fun x17=>bif (decide (y13_c1.FKind=(1:Int))) then(Z32_j21 x9 x11 y13_c1 x15 x17  (decide (y13_c1.FKind=(1:Int)))) else(none)
def Z32_j3 (a1:TDef)  (s5_4:(Sl Z6)) (y5_c0:Z2):Option (Bool×Z2×TDef):=(Z34 y5_c0 a1.FInputs).bind fun x9=>(addC ((a1.FMembers.l.length:Nat):Int) ((a1.FImplements.l.length:Nat):Int)).bind fun x11=>bif (decide (a1.FKind=(3:Int))) then(none) else(Z32_j12 x9 x11  (TDef.mk a1.FKind a1.FName a1.FImplements a1.FDirs s5_4 a1.FMembers x9.1))
def Z32_j39 (s16_34:Nat) (k_next_32:(Sl Z6)->Nat->Z2->Option (Bool×Z2×TDef)) (s5_40:(Sl Z6)) (y41_c0:Z2):Option (Bool×Z2×TDef):=k_next_32 s5_40 (s16_34+1) y41_c0
def Z32_l32 (a1:TDef) :Nat->(Sl Z6)->Nat->Z2->Option (Bool×Z2×TDef)
 | 0,_,_,_=>none
 | n32+1,s5_33,s16_34,y35_c0=>bif (decide (((s16_34:Nat):Int)<((a1.FFields.l.length:Nat):Int))) then((a1.FFields.l[s16_34]?).bind fun x43=>(Z34 y35_c0 x43.FArgs).bind fun x46=>guardO (!x46.2.1) (Z33 x46.2.2 x43.FType.FName) false fun x49=>bif (x46.2.1||x49) then(none) else((appC 104 s5_33 (⟨false,[(Z6.mk x43.FName x46.1 x43.FType x43.FDirs)]⟩:Sl Z6)).bind fun x51=>Z32_j39 s16_34 ((Z32_l32 a1 n32)) x51 x46.2.2)) else(Z32_j3 a1  s5_33 y35_c0)
def Z32 (a0:Z2) (a1:TDef):Option (Bool×Z2×TDef):=Z32_l32 a1 (a1.FFields.l.length+1) (Sl.nil:Sl Z6) 0 a0
theorem Z32_walk {a0:Z2}{a1:TDef}{c0 c1:Nat}{r:Bool×Z2×TDef}(hE:Z32 a0 a1=some r) (H:Heap) (hc0:H c0=some (.cells (Z2.c a0))) (hc1:H c1=some (.cells (TDef.c a1))) (ne_c1_c0:c1≠c0):AC Tryz.prog 31 [.d (.ptr c0 0),.d (.ptr c1 0)] H fun v h'=>v=.a (.d (.bool r.1))/\h'=((H.set c0 (some (.cells (Z2.c r.2.1)))).set c1 (some (.cells (TDef.c r.2.2)))):=by
 unfold Z32 at hE;refine AC.oW 149 [.tmp 4] Tryz.call31 Tryz.func31 ?_;refine AWp.heqA (h':=((H.set c0 (some (.cells (Z2.c a0)))).set c1 (some (.cells (TDef.c a1))))) (by funext n_; simp only [Heap.set]; (repeat' split)<;>simp_all) ?_;refine AWp.tok 5 fun tk1 htk1=>?_;obtain⟨ne_tk1_c1,htk1⟩:=Heap.set_fresh htk1;obtain⟨ne_tk1_c0,htk1⟩:=Heap.set_fresh htk1;refine seqR (S BX (S As (nil ?_)));refine seqR (S As (nil ?_))
 refine AWp.nilTok 5 5 tk1 rfl hpG ?_;refine seqJH (TA 1 (TA 2 kN)) (fun(z:(Sl Z6)×Z2)=>[(5,.a (.d (Sl.d 5 Z6.c (some tk1) z.1)))]) (fun z=>(((H.set c0 (some (.cells (Z2.c z.2)))).set c1 (some (.cells (TDef.c a1)))).set tk1 (some (.tok 5 z.1.l.length)))) (fun z=>Z32_j3 a1 z.1 z.2=some r) ?_ ?_
 ·intro K3 hK3;refine seqR (S Mv (S NP ?_));refine s0 (fieldP (TK rfl) rfl rfl (TK rfl) rfl rfl) rfl ?_;refine s0 (loadP (TK rfl) rfl rfl hpG rfl) rfl ?_;refine sLen (f:=Z6.c) (s:=a1.FFields) (TK rfl) rfl rfl rfl rfl fun hL31=>?_;refine S Mv (nil ?_);refine block ?_;refine loopH (TA 1 (TA 2 (TA 14 (TA 15 kN)))) (fun(z:Nat×(Sl Z6)×Nat×Z2)=>[(5,.a (.d (Sl.d 5 Z6.c (some tk1) z.2.1))),(16,.a (.d (.int .i64 ((z.2.2.1:Nat):Int))))]) (fun z=>(((H.set c0 (some (.cells (Z2.c z.2.2.2)))).set c1 (some (.cells (TDef.c a1)))).set tk1 (some (.tok 5 z.2.1.l.length)))) (fun z=>z.1) (fun z=>Z32_l32 a1 z.1 z.2.1 z.2.2.1 z.2.2.2=some r) ((a1.FFields.l.length+1),(Sl.nil:Sl Z6),0,a0) hE wA ?_
  rintro ⟨n32,s5_33,s16_34,y35_c0⟩ hE K32 hK32;try dsimp only at hE
  cases n32 with
  | zero=>cases hE
  | succ n32 =>
    rw [Z32_l32] at hE;refine seqR (S BI (nil ?_));refine seqK fun K37 hK37=>?_;refine cE hE (fun hc38 hE=>?_) (fun hc38 hE=>?_)
    ·try dsimp only at hc38
     have hf38:=oD hc38;refine sk hK37 ?_;clear hK37 K37;refine seqJH (TA 1 (TA 2 (TA 14 (TA 15 (TA 16 kN))))) (fun(z:(Sl Z6)×Z2)=>[(5,.a (.d (Sl.d 5 Z6.c (some tk1) z.1)))]) (fun z=>(((H.set c0 (some (.cells (Z2.c z.2)))).set c1 (some (.cells (TDef.c a1)))).set tk1 (some (.tok 5 z.1.l.length)))) (fun z=>Z32_j39 s16_34 ((Z32_l32 a1 n32)) z.1 z.2=some r) ?_ ?_
     ·intro K39 hK39;refine block ?_;refine seqR ?_;obtain⟨x43,gx43,hE⟩:=bO hE;refine S (ix Z6.c s16_34 gx43) (S Ld ?_);refine Sl ?_;refine Sf ?_;refine nil ?_;refine seqR (S As (nil ?_));refine seqR (S Ld (S FL (S LL ?_)));obtain⟨x46,gx46,hE⟩:=bO hE;refine sH (callH rfl rfl (Z34_walk gx46 _ hpG)) rfl ?_;refine hq (((H.set c0 (some (.cells (Z2.c x46.2.2)))).set c1 (some (.cells (TDef.c a1)))).set tk1 (some (.tok 5 s5_33.l.length))) ?_
      refine S Mv (S EX (S EX (S FL ?_)));refine Sf ?_;refine S As (nil ?_);refine seqK fun K47 hK47=>?_;refine seqR (S Mv (S Mv (G0 Ld (G0 FL ?_))));refine gC rfl rfl (fun hC=>ungdLA (k:=31) rfl (fieldL (TK rfl) rfl rfl (TK rfl) rfl rfl)) rfl ?_;refine gC rfl rfl (fun hC=>ungdLA (k:=32) rfl (loadL (TK rfl) rfl rfl rfl rfl)) rfl ?_;obtain⟨x49,gx49,hE⟩:=gO hE;refine gC rfl rfl (fun hC=>ungdA (k:=30) rfl (ungdA (k:=33) rfl (callR rfl rfl (Z33_walk (gx49 hC) _ hpG)))) rfl ?_
      refine S PO (nil ?_);refine cE hE (fun hc50 hE=>?_) (fun hc50 hE=>?_)
      ·cases hE
      refine sk hK47 ?_;clear hK47 K47;refine region ?_;refine S Mv (S LL (S BV ?_));obtain⟨x51,gx51,hE⟩:=bO hE;refine SH (am Z6.c (TK rfl) rfl (TK rfl) (TK rfl) gx51) ?_;refine hq (((H.set c0 (some (.cells (Z2.c x46.2.2)))).set c1 (some (.cells (TDef.c a1)))).set tk1 (some (.tok 5 x51.l.length))) ?_;refine S As (nil ?_);exact hK39 _ (x51,x46.2.2) wA hE
     rintro ⟨s5_40,y41_c0⟩ hE;try dsimp only at hE
     unfold Z32_j39 at hE;refine region ?_;refine SI ?_;refine S Mv (nil ?_);exact hK32 _ (n32,s5_40,(s16_34+1),y41_c0) wA hE (nS _)
    refine AWp.exit ?_;exact hK3 _ (s5_33,y35_c0) wA hE
 rintro ⟨s5_4,y5_c0⟩ hE;try dsimp only at hE
 unfold Z32_j3 at hE;refine seqR (S Mv (S Mv (S NP ?_)));refine s0 (fieldP (TK rfl) rfl rfl (TK rfl) rfl rfl) rfl ?_;refine AOps.dropTok 45 rfl ?_;refine sHn (storeP1 (TK rfl) rfl rfl hpG rfl (by repeat (first|exact SetAt.zero|apply SetAt.succ))) rfl rfl ?_;refine hq (((H.set c0 (some (.cells (Z2.c y5_c0)))).set c1 (some (.cells (TDef.c (TDef.mk a1.FKind a1.FName a1.FImplements a1.FDirs s5_4 a1.FMembers a1.FInputs))))).set tk1 (some (.tok 5 s5_4.l.length))) ?_
 refine nil ?_;refine seqR (S As (nil ?_));refine AWp.seqD (Sd Mv (Sd Ld (Sd Mv (Sd NP ?_))));refine DOps.s0 (fieldP (TK rfl) rfl rfl (TK rfl) rfl rfl) rfl ?_;refine DOps.s0 (loadP (TK rfl) rfl rfl hpG rfl) rfl ?_;obtain⟨x9,gx9,hE⟩:=bO hE;refine DOps.sH (callH rfl rfl (Z34_walk gx9 _ hpG)) rfl ?_;refine DOps.Dh (((H.set c0 (some (.cells (Z2.c x9.2.2)))).set c1 (some (.cells (TDef.c (TDef.mk a1.FKind a1.FName a1.FImplements a1.FDirs s5_4 a1.FMembers a1.FInputs))))).set tk1 (some (.tok 5 s5_4.l.length))) ?_
 refine Sd Mv (Sd EX (Sd EX (Sd NP ?_)));refine DOps.s0 (fieldP (TK rfl) rfl rfl (TK rfl) rfl rfl) rfl ?_;refine DOps.sHn (storeP1 (TK rfl) rfl rfl hpG rfl (by repeat (first|exact SetAt.zero|apply SetAt.succ))) rfl rfl ?_;refine DOps.Dh (((H.set c0 (some (.cells (Z2.c x9.2.2)))).set c1 (some (.cells (TDef.c (TDef.mk a1.FKind a1.FName a1.FImplements a1.FDirs s5_4 a1.FMembers x9.1))))).set tk1 (some (.tok 5 s5_4.l.length))) ?_
 refine Sd As ?_;refine DOps.nil (by decide +kernel) ?_;refine AWp.seqD (Sd Mv (Sd NP ?_));refine DOps.s0 (fieldP (TK rfl) rfl rfl (TK rfl) rfl rfl) rfl ?_;refine DOps.s0 (loadP (TK rfl) rfl rfl hpG rfl) rfl ?_;refine DOps.s0 (lenM' (f:=Z8.c) (s:=a1.FMembers) (TK rfl) rfl rfl rfl) rfl ?_;refine Sd Mv (Sd NP ?_);refine DOps.s0 (fieldP (TK rfl) rfl rfl (TK rfl) rfl rfl) rfl ?_;refine DOps.s0 (loadP (TK rfl) rfl rfl hpG rfl) rfl ?_
 refine DOps.s0 (lenM' (f:=strE) (s:=a1.FImplements) (TK rfl) rfl rfl rfl) rfl ?_;obtain⟨x11,gx11,hE⟩:=bO hE;refine DOps.s0 (addM rfl rfl gx11) rfl ?_;refine Sd As ?_;refine DOps.nil (by decide +kernel) ?_;refine seqJH (TA 1 (TA 2 (TA 9 (TA 10 kN)))) (fun(z:TDef)=>[]) (fun z=>(((H.set c0 (some (.cells (Z2.c x9.2.2)))).set c1 (some (.cells (TDef.c z)))).set tk1 (some (.tok 5 s5_4.l.length)))) (fun z=>Z32_j12 x9 x11 z=some r) ?_ ?_
 ·intro K12 hK12;refine seqR (S Mv (S NP ?_));refine s0 (fieldP (TK rfl) rfl rfl (TK rfl) rfl rfl) rfl ?_;refine s0 (loadP (TK rfl) rfl rfl hpG rfl) rfl ?_;refine S BI (nil ?_);refine cE hE (fun hc29 hE=>?_) (fun hc29 hE=>?_)
  ·cases hE
  refine AWp.skip ?_;exact hK12 _ (TDef.mk a1.FKind a1.FName a1.FImplements a1.FDirs s5_4 a1.FMembers x9.1) wA hE
 rintro y13_c1 hE;try dsimp only at hE
 unfold Z32_j12 at hE;refine AWp.seqD (Sd Mv (Sd Mv (Sd NP ?_)));refine DOps.s0 (fieldP (TK rfl) rfl rfl (TK rfl) rfl rfl) rfl ?_;refine DOps.s0 (loadP (TK rfl) rfl rfl hpG rfl) rfl ?_;refine Sd Ld ?_;refine DOps.s0 (makeFuncF) rfl ?_;obtain⟨x15,gx15,hE⟩:=bO hE;refine Scd rfl rfl (Z76_any gx15) ?_;refine Sd NP ?_;refine DOps.s0 (fieldP (TK rfl) rfl rfl (TK rfl) rfl rfl) rfl ?_;refine DOps.sHn (storeP1 (TK rfl) rfl rfl hpG rfl (by repeat (first|exact SetAt.zero|apply SetAt.succ))) rfl rfl ?_
 refine DOps.Dh (((H.set c0 (some (.cells (Z2.c x9.2.2)))).set c1 (some (.cells (TDef.c (TDef.mk y13_c1.FKind y13_c1.FName x15 y13_c1.FDirs y13_c1.FFields y13_c1.FMembers y13_c1.FInputs))))).set tk1 (some (.tok 5 s5_4.l.length))) ?_;refine DOps.nil (by decide +kernel) ?_;refine AWp.seqD (Sd Ld (Sd Ld (Sd NP ?_)));refine DOps.s0 (fieldP (TK rfl) rfl rfl (TK rfl) rfl rfl) rfl ?_;refine DOps.s0 (loadP (TK rfl) rfl rfl hpG rfl) rfl ?_
 refine Sd Mv (G0d Mv ?_);refine G1d 101 rfl NP ?_;refine DOps.gC rfl rfl (fun hC=>ungdA (k:=102) rfl (fieldP (TK rfl) rfl rfl (TK rfl) rfl rfl)) rfl ?_;refine DOps.gC rfl rfl (fun hC=>ungdA (k:=103) rfl (loadP (TK rfl) rfl rfl hpG rfl)) rfl ?_;refine DOps.gC rfl rfl (fun hC=>ungdA (k:=104) rfl (lenM' (f:=Z8.c) (s:=y13_c1.FMembers) (TK rfl) rfl rfl rfl)) rfl ?_;refine G0d Mv ?_;refine G1d 106 rfl NP ?_
 refine DOps.gC rfl rfl (fun hC=>ungdA (k:=107) rfl (fieldP (TK rfl) rfl rfl (TK rfl) rfl rfl)) rfl ?_;refine DOps.gC rfl rfl (fun hC=>ungdA (k:=108) rfl (loadP (TK rfl) rfl rfl hpG rfl)) rfl ?_;refine DOps.gC rfl rfl (fun hC=>ungdA (k:=109) rfl (lenM' (f:=strE) (s:=x15) (TK rfl) rfl rfl rfl)) rfl ?_;obtain⟨x17,gx17,hE⟩:=gO hE;refine DOps.gC rfl rfl (fun hC=>ungdA (k:=105) rfl (ungdA (k:=110) rfl (addM rfl rfl (gx17 hC)))) rfl ?_
 refine G0d Mv ?_;refine G2d 111 112 rfl rfl BI ?_;refine Sd PO (Sd NP ?_);refine DOps.s0 (fieldP (TK rfl) rfl rfl (TK rfl) rfl rfl) rfl ?_;refine DOps.sHn (storeP1 (TK rfl) rfl rfl hpG rfl (by repeat (first|exact SetAt.zero|apply SetAt.succ))) rfl rfl ?_;refine DOps.Dh (((H.set c0 (some (.cells (Z2.c (Z2.mk x9.2.2.Fd (x9.2.2.Fchanged||(decide (x17<x11)))))))).set c1 (some (.cells (TDef.c (TDef.mk y13_c1.FKind y13_c1.FName x15 y13_c1.FDirs y13_c1.FFields y13_c1.FMembers y13_c1.FInputs))))).set tk1 (some (.tok 5 s5_4.l.length))) ?_
 refine DOps.nil (by decide +kernel) ?_;refine seqJH (TA 1 (TA 9 kN)) (fun(z:Unit)=>[]) (fun z=>(((H.set c0 (some (.cells (Z2.c (Z2.mk x9.2.2.Fd (x9.2.2.Fchanged||(decide (x17<x11)))))))).set c1 (some (.cells (TDef.c (TDef.mk y13_c1.FKind y13_c1.FName x15 y13_c1.FDirs y13_c1.FFields y13_c1.FMembers y13_c1.FInputs))))).set tk1 (some (.tok 5 s5_4.l.length)))) (fun z=>Z32_j18 x9 x11 y13_c1 x15 x17 =some r) ?_ ?_
 ·intro K18 hK18;refine seqR (S Mv (S NP ?_));refine s0 (fieldP (TK rfl) rfl rfl (TK rfl) rfl rfl) rfl ?_;refine s0 (loadP (TK rfl) rfl rfl hpG rfl) rfl ?_;refine nil ?_;refine block ?_;refine seqJH (TA 1 (TA 9 (TA 120 kN))) (fun(z:Bool)=>[(121,.a (.d (.bool z)))]) (fun z=>(((H.set c0 (some (.cells (Z2.c (Z2.mk x9.2.2.Fd (x9.2.2.Fchanged||(decide (x17<x11)))))))).set c1 (some (.cells (TDef.c (TDef.mk y13_c1.FKind y13_c1.FName x15 y13_c1.FDirs y13_c1.FFields y13_c1.FMembers y13_c1.FInputs))))).set tk1 (some (.tok 5 s5_4.l.length)))) (fun z=>Z32_j21 x9 x11 y13_c1 x15 x17 z=some r) ?_ ?_
  ·intro K21 hK21;refine seqR (S BI (S As (nil ?_)));refine cE hE (fun hc27 hE=>?_) (fun hc27 hE=>?_)
   ·refine AWp.skip ?_;exact hK21 _ (decide (y13_c1.FKind=(1:Int))) wA hE
   cases hE
  rintro s121_22 hE;try dsimp only at hE
  unfold Z32_j21 at hE;refine cE hE (fun hc23 hE=>?_) (fun hc23 hE=>?_)
  ·refine seqR (S Mv (S NP ?_));refine s0 (fieldP (TK rfl) rfl rfl (TK rfl) rfl rfl) rfl ?_;refine s0 (loadP (TK rfl) rfl rfl hpG rfl) rfl ?_;refine sLen (f:=Z6.c) (s:=y13_c1.FFields) (TK rfl) rfl rfl rfl rfl fun hL25=>?_;refine S BI (S As (nil ?_));refine AWp.ret ?_;repeat (first|refine xBlock_ret ?_|refine xThen_ret ?_)
   obtain rfl:=oJ hE;refine retQ.retF ((H.set c0 (some (.cells (Z2.c (Z2.mk x9.2.2.Fd (x9.2.2.Fchanged||(decide (x17<x11)))))))).set c1 (some (.cells (TDef.c (TDef.mk y13_c1.FKind y13_c1.FName x15 y13_c1.FDirs y13_c1.FFields y13_c1.FMembers y13_c1.FInputs))))) rfl ⟨rfl,rfl⟩ ?_;intro id_ o_ he_;have e_tk1:id_≠tk1:=fun e_=>by subst e_; simp_all [Heap.set]
   rw [<- he_];simp only [Heap.set] at he_ ⊢
   (repeat' split)<;>simp_all
  cases hE
 rintro _ hE;try dsimp only at hE
 unfold Z32_j18 at hE;refine seqR (S Mv (S NB (S Mv (G0 Mv ?_))));refine G1 142 rfl NP ?_;refine gC rfl rfl (fun hC=>ungdA (k:=143) rfl (fieldP (TK rfl) rfl rfl (TK rfl) rfl rfl)) rfl ?_;refine gC rfl rfl (fun hC=>ungdA (k:=144) rfl (loadP (TK rfl) rfl rfl hpG rfl)) rfl ?_;refine gC rfl rfl (fun hC=>ungdA (k:=145) rfl (lenM' (f:=Z7.c) (s:=y13_c1.FInputs) (TK rfl) rfl rfl rfl)) rfl ?_;refine G1 146 rfl BI ?_
 refine S PA (S As (nil ?_));refine AWp.ret ?_;repeat (first|refine xBlock_ret ?_|refine xThen_ret ?_)
 obtain rfl:=oJ hE;refine retQ.retF ((H.set c0 (some (.cells (Z2.c (Z2.mk x9.2.2.Fd (x9.2.2.Fchanged||(decide (x17<x11)))))))).set c1 (some (.cells (TDef.c (TDef.mk y13_c1.FKind y13_c1.FName x15 y13_c1.FDirs y13_c1.FFields y13_c1.FMembers y13_c1.FInputs))))) rfl ⟨rfl,rfl⟩ ?_;intro id_ o_ he_;have e_tk1:id_≠tk1:=fun e_=>by subst e_; simp_all [Heap.set]
 rw [<- he_];simp only [Heap.set] at he_ ⊢
 (repeat' split)<;>simp_all
def Z37_j3  (s2_4:(Sl TDef)) (y5_c0:Z2):Option Z2:=some (Z2.mk (TDoc.mk s2_4) y5_c0.Fchanged)
def Z37_j15 (s14_10:Nat) (k_next_8:(Sl TDef)->Nat->Z2->Option Z2) (s2_16:(Sl TDef)) (y17_c0:Z2):Option Z2:=k_next_8 s2_16 (s14_10+1) y17_c0
def Z37_l8 (a0:Z2) :Nat->(Sl TDef)->Nat->Z2->Option Z2
 | 0,_,_,_=>none
 | n8+1,s2_9,s14_10,y11_c0=>bif (decide (((s14_10:Nat):Int)<((a0.Fd.FDefs.l.length:Nat):Int))) then((a0.Fd.FDefs.l[s14_10]?).bind fun x19=>(Z32 y11_c0 x19).bind fun x22=>bif x22.1 then((appC 144 s2_9 (⟨false,[x22.2.2]⟩:Sl TDef)).bind fun x24=>Z37_j15 s14_10 ((Z37_l8 a0 n8)) x24 x22.2.1) else(Z37_j15 s14_10 ((Z37_l8 a0 n8)) s2_9 (Z2.mk x22.2.1.Fd true))) else(Z37_j3   s2_9 y11_c0)
def Z37 (a0:Z2):Option Z2:=Z37_l8 a0 (a0.Fd.FDefs.l.length+1) (Sl.nil:Sl TDef) 0 (Z2.mk a0.Fd false)
theorem Z37_walk {a0:Z2}{c0:Nat}{r:Z2}(hE:Z37 a0=some r) (H:Heap) (hc0:H c0=some (.cells (Z2.c a0))):AC Tryz.prog 16 [.d (.ptr c0 0)] H fun v h'=>v=.tup []/\h'=(H.set c0 (some (.cells (Z2.c r)))):=by
 unfold Z37 at hE;refine AC.oW 33 [] Tryz.call16 Tryz.func16 ?_;refine AWp.heqA (h':=(H.set c0 (some (.cells (Z2.c a0))))) (by funext n_; simp only [Heap.set]; (repeat' split)<;>simp_all) ?_;refine AWp.tok 7 fun tk1 htk1=>?_;obtain⟨ne_tk1_c0,htk1⟩:=Heap.set_fresh htk1;refine seqR (S Mv (S NP ?_));refine s0 (fieldP (TK rfl) rfl rfl (TK rfl) rfl rfl) rfl ?_;refine sHn (storeP1 (TK rfl) rfl rfl hpG rfl (by repeat (first|exact SetAt.zero|apply SetAt.succ))) rfl rfl ?_
 refine hq ((H.set c0 (some (.cells (Z2.c (Z2.mk a0.Fd false))))).set tk1 (some (.tok 7 0))) ?_;refine nil ?_;refine seqR (S As (nil ?_));refine AWp.nilTok 2 7 tk1 rfl hpG ?_;refine seqJH (TA 0 kN) (fun(z:(Sl TDef)×Z2)=>[(2,.a (.d (Sl.d 7 TDef.c (some tk1) z.1)))]) (fun z=>((H.set c0 (some (.cells (Z2.c z.2)))).set tk1 (some (.tok 7 z.1.l.length)))) (fun z=>Z37_j3 z.1 z.2=some r) ?_ ?_
 ·intro K3 hK3;refine seqR (S Mv (S NP ?_));refine s0 (fieldP (TK rfl) rfl rfl (TK rfl) rfl rfl) rfl ?_;refine s0 (fieldP (TK rfl) rfl rfl (TK rfl) rfl rfl) rfl ?_;refine s0 (loadP (TK rfl) rfl rfl hpG rfl) rfl ?_;refine sLen (f:=TDef.c) (s:=a0.Fd.FDefs) (TK rfl) rfl rfl rfl rfl fun hL7=>?_;refine S Mv (nil ?_);refine block ?_;refine loopH (TA 0 (TA 12 (TA 13 kN))) (fun(z:Nat×(Sl TDef)×Nat×Z2)=>[(2,.a (.d (Sl.d 7 TDef.c (some tk1) z.2.1))),(14,.a (.d (.int .i64 ((z.2.2.1:Nat):Int))))]) (fun z=>((H.set c0 (some (.cells (Z2.c z.2.2.2)))).set tk1 (some (.tok 7 z.2.1.l.length)))) (fun z=>z.1) (fun z=>Z37_l8 a0 z.1 z.2.1 z.2.2.1 z.2.2.2=some r) ((a0.Fd.FDefs.l.length+1),(Sl.nil:Sl TDef),0,(Z2.mk a0.Fd false)) hE wA ?_
  rintro ⟨n8,s2_9,s14_10,y11_c0⟩ hE K8 hK8;try dsimp only at hE
  cases n8 with
  | zero=>cases hE
  | succ n8 =>
    rw [Z37_l8] at hE;refine seqR (S BI (nil ?_));refine seqK fun K13 hK13=>?_;refine cE hE (fun hc14 hE=>?_) (fun hc14 hE=>?_)
    ·try dsimp only at hc14
     have hf14:=oD hc14;refine sk hK13 ?_;clear hK13 K13;refine seqJH (TA 0 (TA 12 (TA 13 (TA 14 kN)))) (fun(z:(Sl TDef)×Z2)=>[(2,.a (.d (Sl.d 7 TDef.c (some tk1) z.1)))]) (fun z=>((H.set c0 (some (.cells (Z2.c z.2)))).set tk1 (some (.tok 7 z.1.l.length)))) (fun z=>Z37_j15 s14_10 ((Z37_l8 a0 n8)) z.1 z.2=some r) ?_ ?_
     ·intro K15 hK15;refine block ?_;refine seqR ?_;obtain⟨x19,gx19,hE⟩:=bO hE;refine S (ix TDef.c s14_10 gx19) (S Ld ?_);refine sE (StepE.allocO (TK rfl) rfl) rfl (fun _ _ _ ⟨id4_20,hid4_20,e1,e2,e3⟩=>?_); subst e1 e2 e3;obtain⟨ne_id4_20_tk1,hid4_20⟩:=Heap.set_fresh hid4_20;obtain⟨ne_id4_20_c0,hid4_20⟩:=Heap.set_fresh hid4_20;refine hq (((H.set c0 (some (.cells (Z2.c y11_c0)))).set tk1 (some (.tok 7 s2_9.l.length))).set id4_20 (some (.cells (TDef.c TDef.zero)))) ?_
      refine sHn (storeP' (TK rfl) rfl rfl hpG rfl (Nat.le_of_ble_eq_true rfl) rfl rfl) rfl rfl ?_;refine hq (((H.set c0 (some (.cells (Z2.c y11_c0)))).set tk1 (some (.tok 7 s2_9.l.length))).set id4_20 (some (.cells (TDef.c x19)))) ?_;refine nil ?_;refine seqR (S Mv ?_);obtain⟨x22,gx22,hE⟩:=bO hE;refine sH (callH rfl rfl (Z32_walk gx22 _ hpG hpG (by assumption))) rfl ?_;refine hq (((H.set c0 (some (.cells (Z2.c x22.2.1)))).set tk1 (some (.tok 7 s2_9.l.length))).set id4_20 (some (.cells (TDef.c x22.2.2)))) ?_
      refine nil ?_;refine cE hE (fun hc23 hE=>?_) (fun hc23 hE=>?_)
      ·refine region ?_;refine S Mv ?_;refine s0 (loadP (TK rfl) rfl rfl hpG rfl) rfl ?_;refine S BV ?_;obtain⟨x24,gx24,hE⟩:=bO hE;refine SH (am TDef.c (TK rfl) rfl (TK rfl) (TK rfl) gx24) ?_;refine hq (((H.set c0 (some (.cells (Z2.c x22.2.1)))).set tk1 (some (.tok 7 x24.l.length))).set id4_20 (some (.cells (TDef.c x22.2.2)))) ?_;refine S As (nil ?_);exact hK15 _ (x24,x22.2.1) (Weak.toFA (by(intro id_ o_ he_); (have e_id4_20:id_≠id4_20:=fun e_=>by rw [e_] at he_; simp [Heap.set,hid4_20,ne_id4_20_c0,ne_id4_20_tk1] at he_); (rw [<- he_]); (simp only [Heap.set,if_neg e_id4_20]); (first|done|rfl))) hE
      refine region ?_;refine S Mv (S NP ?_);refine s0 (fieldP (TK rfl) rfl rfl (TK rfl) rfl rfl) rfl ?_;refine sHn (storeP1 (TK rfl) rfl rfl hpG rfl (by repeat (first|exact SetAt.zero|apply SetAt.succ))) rfl rfl ?_;refine hq (((H.set c0 (some (.cells (Z2.c (Z2.mk x22.2.1.Fd true))))).set tk1 (some (.tok 7 s2_9.l.length))).set id4_20 (some (.cells (TDef.c x22.2.2)))) ?_;refine nil ?_;exact hK15 _ (s2_9,(Z2.mk x22.2.1.Fd true)) (Weak.toFA (by(intro id_ o_ he_); (have e_id4_20:id_≠id4_20:=fun e_=>by rw [e_] at he_; simp [Heap.set,hid4_20,ne_id4_20_c0,ne_id4_20_tk1] at he_); (rw [<- he_]); (simp only [Heap.set,if_neg e_id4_20]); (first|done|rfl))) hE
     rintro ⟨s2_16,y17_c0⟩ hE;try dsimp only at hE
     unfold Z37_j15 at hE;refine region ?_;refine SI ?_;refine S Mv (nil ?_);exact hK8 _ (n8,s2_16,(s14_10+1),y17_c0) wA hE (nS _)
    refine AWp.exit ?_;exact hK3 _ (s2_9,y11_c0) wA hE
 rintro ⟨s2_4,y5_c0⟩ hE;try dsimp only at hE
 unfold Z37_j3 at hE;refine region ?_;refine S Mv (S Mv ?_);refine AOps.dropTok 29 rfl ?_;refine S BU (S NP ?_);refine s0 (fieldP (TK rfl) rfl rfl (TK rfl) rfl rfl) rfl ?_;refine sHn (storeP' (TK rfl) rfl rfl hpG rfl (Nat.le_of_ble_eq_true rfl) rfl rfl) rfl rfl ?_;refine hq ((H.set c0 (some (.cells (Z2.c (Z2.mk (TDoc.mk s2_4) y5_c0.Fchanged))))).set tk1 (some (.tok 7 s2_4.l.length))) ?_;refine nil ?_
 repeat (first|refine xBlock_normal ?_|refine xThen_exit ?_|refine xBlock_exit ?_)
 obtain rfl:=oJ hE;refine retQ.normalF (H.set c0 (some (.cells (Z2.c (Z2.mk (TDoc.mk s2_4) y5_c0.Fchanged))))) (xs:=[]) rfl ⟨rfl,rfl⟩ ?_;intro id_ o_ he_;have e_tk1:id_≠tk1:=fun e_=>by subst e_; simp_all [Heap.set]
 rw [<- he_];simp only [Heap.set] at he_ ⊢
 (repeat' split)<;>simp_all
def Z60 (a0:Z4) (a1:Bool) (a2:Int) (a3:Bs):Option Z4:=bif a1 then(none) else(some a0)
theorem Z60_walk {a0:Z4}{a1:Bool}{a2:Int}{a3:Bs}{c0 c0_1:Nat}{r:Z4}(hE:Z60 a0 a1 a2 a3=some r) (H:Heap) (hc0:H c0=some (.cells (Z4.cg (some c0_1) a0))) (ht0_1:H c0_1=some (.tok 2 a0.Ffaults.l.length)):AC Tryz.prog 44 [.d (.ptr c0 0),.d (.bool a1),.d (.int .i64 a2),.d (.str a3)] H fun v h'=>v=.tup []/\h'=((H.set c0_1 (some (.tok 2 r.Ffaults.l.length))).set c0 (some (.cells (Z4.cg (some c0_1) r)))):=by
 unfold Z60 at hE;refine AC.oW 21 [] Tryz.call44 Tryz.func44 ?_;have ne_c0_c0_1:c0≠c0_1:=fun e_=>by subst e_; simp_all
 refine AWp.heqA (h':=((H.set c0_1 (some (.tok 2 a0.Ffaults.l.length))).set c0 (some (.cells (Z4.cg (some c0_1) a0))))) (by funext n_; simp only [Heap.set]; (repeat' split)<;>simp_all) ?_;refine seqR (S Mv (nil ?_));refine cE hE (fun hc2 hE=>?_) (fun hc2 hE=>?_)
 ·cases hE
 refine AWp.skip ?_;repeat (first|refine xBlock_normal ?_|refine xThen_exit ?_|refine xBlock_exit ?_)
 obtain rfl:=oJ hE;refine retQ.normalF ((H.set c0_1 (some (.tok 2 a0.Ffaults.l.length))).set c0 (some (.cells (Z4.cg (some c0_1) a0)))) (xs:=[]) rfl ⟨rfl,rfl⟩ ?_;exact(fun _ _ h=>h)
def Z83_j7  :Option Bool:=some true
def Z83_l11 (a0:Bs) :Nat->Nat->Option Bool
 | 0,_=>none
 | n11+1,s24_12=>bif (decide (((s24_12:Nat):Int)<((a0.length:Nat):Int))) then((a0[s24_12]?).bind fun x19=>bif (!(((((decide ((97:Int)<=((x19.toNat:Nat):Int)))&&(decide (((x19.toNat:Nat):Int)<=(122:Int))))||((decide ((65:Int)<=((x19.toNat:Nat):Int)))&&(decide (((x19.toNat:Nat):Int)<=(90:Int)))))||((decide ((48:Int)<=((x19.toNat:Nat):Int)))&&(decide (((x19.toNat:Nat):Int)<=(57:Int)))))||(decide (((x19.toNat:Nat):Int)=(95:Int))))) then(none) else((Z83_l11 a0 n11) (s24_12+1))) else(Z83_j7   )
def Z83 (a0:Bs):Option Bool:=guardO (!(((a0==([]:Bs)))||(decide ((64:Int)<((a0.length:Nat):Int))))) (a0[0]?) (0:UInt8) fun x4=>guardO ((!(((a0==([]:Bs)))||(decide ((64:Int)<((a0.length:Nat):Int))))&&(decide ((48:Int)<=((x4.toNat:Nat):Int))))) (a0[0]?) (0:UInt8) fun x5=>bif ((((a0==([]:Bs)))||(decide ((64:Int)<((a0.length:Nat):Int))))||((decide ((48:Int)<=((x4.toNat:Nat):Int)))&&(decide (((x5.toNat:Nat):Int)<=(57:Int))))) then(none) else(Z83_l11 a0 (a0.length+1) 0)
theorem Z83_walk {a0:Bs}{r:Bool}(hE:Z83 a0=some r) (H:Heap) :AC Tryz.prog 60 [.d (.str a0)] H fun v h'=>v=.a (.d (.bool r))/\h'=H:=by
 unfold Z83 at hE;refine AC.oW 58 [.tmp 2] Tryz.call60 Tryz.func60 ?_;refine seqR (S As (nil ?_));refine seqK fun K2 hK2=>?_;refine seqR (S Mv (S BS (S Mv (G0 Mv ?_))));refine gC rfl rfl (fun hC=>ungdA (k:=8) rfl (lenS (TK rfl) rfl rfl rfl)) rfl ?_;refine G1 9 rfl BI ?_;refine S PO (S Mv (G0 Mv ?_));obtain⟨x4,gx4,hE⟩:=gO hE;refine gC rfl rfl (fun hC=>ungdA (k:=13) rfl (idxSn (n:=0) (TK rfl) rfl rfl rfl (gx4 hC))) rfl ?_
 refine G1 14 rfl BI ?_;refine G1 15 rfl Mv ?_;refine G0 Mv ?_;obtain⟨x5,gx5,hE⟩:=gO hE;refine gC rfl rfl (fun hC=>ungdA (k:=17) rfl (idxSn (n:=0) (TK rfl) rfl rfl rfl (gx5 hC))) rfl ?_;refine G1 18 rfl BI ?_;refine gC rfl rfl (fun hC=>ungdA (k:=16) rfl (pickAndA rfl rfl rfl)) rfl ?_;refine S PO (nil ?_);refine cE hE (fun hc6 hE=>?_) (fun hc6 hE=>?_)
 ·cases hE
 refine sk hK2 ?_;clear hK2 K2;refine seqJH kN (fun(z:Unit)=>[]) (fun z=>H) (fun z=>Z83_j7 =some r) ?_ ?_
 ·intro K7 hK7;refine seqR (S Mv ?_);refine sLenS (TK rfl) rfl rfl rfl rfl fun hL10=>?_;refine S Mv (nil ?_);refine block ?_;refine loopH (TA 0 (TA 23 kN)) (fun(z:Nat×Nat)=>[(24,.a (.d (.int .i64 ((z.2:Nat):Int))))]) (fun z=>H) (fun z=>z.1) (fun z=>Z83_l11 a0 z.1 z.2=some r) ((a0.length+1),0) hE wA ?_;rintro ⟨n11,s24_12⟩ hE K11 hK11;try dsimp only at hE
  cases n11 with
  | zero=>cases hE
  | succ n11 =>
    rw [Z83_l11] at hE;refine seqR (S BI (nil ?_));refine seqK fun K14 hK14=>?_;refine cE hE (fun hc15 hE=>?_) (fun hc15 hE=>?_)
    ·try dsimp only at hc15
     have hf15:=oD hc15;refine sk hK14 ?_;clear hK14 K14;refine seqK fun K16 hK16=>?_;refine block ?_;refine seqR (S Mv (S As (nil ?_)));refine seqR (S Mv (S Mv ?_));obtain⟨x19,gx19,hE⟩:=bO hE;refine s0 (idxSn (n:=s24_12) (TK rfl) rfl rfl rfl gx19) rfl ?_;refine S As (nil ?_);refine seqR (S Mv (S BI (S Mv (G0 Mv ?_))));refine G1 33 rfl BI ?_;refine S PA (S Mv (G0 Mv ?_));refine G1 37 rfl BI ?_
     refine G1 38 rfl Mv ?_;refine G0 Mv ?_;refine G1 40 rfl BI ?_;refine gC rfl rfl (fun hC=>ungdA (k:=39) rfl (pickAndA rfl rfl rfl)) rfl ?_;refine S PO (S Mv (G0 Mv ?_));refine G1 45 rfl BI ?_;refine G1 46 rfl Mv ?_;refine G0 Mv ?_;refine G1 48 rfl BI ?_;refine gC rfl rfl (fun hC=>ungdA (k:=47) rfl (pickAndA rfl rfl rfl)) rfl ?_;refine S PO (S Mv (G0 Mv ?_));refine G1 53 rfl BI ?_;refine S PO (S NB (nil ?_))
     refine cE hE (fun hc21 hE=>?_) (fun hc21 hE=>?_)
     ·cases hE
     refine sk hK16 ?_;clear hK16 K16;refine region ?_;refine SI ?_;refine S Mv (nil ?_);exact hK11 _ (n11,(s24_12+1)) wA hE (nS _)
    refine AWp.exit ?_;exact hK7 _ () wA hE
 rintro _ hE;try dsimp only at hE
 unfold Z83_j7 at hE;refine seqR (S As (nil ?_));exact rt hE
def Z45 (a0:Bs) (a1:Bs):Option Bool:=guardO ((decide (((a1.length:Nat):Int)<=((a0.length:Nat):Int)))) (cutC a0 none (some ((a1.length:Nat):Int))) ([]:Bs) fun x5=>some ((decide (((a1.length:Nat):Int)<=((a0.length:Nat):Int)))&&((x5==a1)))
theorem Z45_walk {a0 a1:Bs}{r:Bool}(hE:Z45 a0 a1=some r) (H:Heap) :AC Tryz.prog 90 [.d (.str a0),.d (.str a1)] H fun v h'=>v=.a (.d (.bool r))/\h'=H:=by
 unfold Z45 at hE;refine AC.oW 18 [.tmp 4] Tryz.call90 Tryz.func90 ?_;refine seqR (S As (nil ?_));refine seqR (S Mv ?_);refine sLenS (TK rfl) rfl rfl rfl rfl fun hL3=>?_;refine S Mv ?_;refine sLenS (TK rfl) rfl rfl rfl rfl fun hL4=>?_;refine S BI (S Mv (G0 Mv (G0 Mv ?_)));refine gC rfl rfl (fun hC=>ungdA (k:=12) rfl (lenS (TK rfl) rfl rfl rfl)) rfl ?_;obtain⟨x5,gx5,hE⟩:=gO hE;refine gC rfl rfl (fun hC=>ungdA (k:=11) rfl (ungdA (k:=13) rfl (cutM (l:=none) (r:=(some ((a1.length:Nat):Int))) (TK rfl) rfl rfl trivial rfl (by simp) (gx5 hC)))) rfl ?_
 refine G0 Mv ?_;refine G2 14 15 rfl rfl BS ?_;refine S PA (S As (nil ?_));exact rt hE
def Z82 (a0:Bs) (a1:Bs):Option Bool:=(Z45 a0 a1).bind fun x3=>some x3
theorem Z82_walk {a0 a1:Bs}{r:Bool}(hE:Z82 a0 a1=some r) (H:Heap) :AC Tryz.prog 73 [.d (.str a0),.d (.str a1)] H fun v h'=>v=.a (.d (.bool r))/\h'=H:=by
 unfold Z82 at hE;refine AC.oW 8 [.tmp 4] Tryz.call73 Tryz.func73 ?_;refine seqR (S As (nil ?_));refine seqR (S Mv (S Mv ?_));obtain⟨x3,gx3,hE⟩:=bO hE;refine Sc rfl rfl (Z45_walk gx3) ?_;refine S As (nil ?_);exact rt hE
def Z84 (a0:Bs):Option Bool:=(Z82 a0 ([95,95]:Bs)).bind fun x3=>some x3
theorem Z84_walk {a0:Bs}{r:Bool}(hE:Z84 a0=some r) (H:Heap) :AC Tryz.prog 61 [.d (.str a0)] H fun v h'=>v=.a (.d (.bool r))/\h'=H:=by
 unfold Z84 at hE;refine AC.oW 5 [.tmp 2] Tryz.call61 Tryz.func61 ?_;refine seqR (S As (nil ?_));refine seqR (S Mv ?_);obtain⟨x3,gx3,hE⟩:=bO hE;refine Sc rfl rfl (Z82_walk gx3) ?_;refine S As (nil ?_);exact rt hE
def Z65_j2  (y3_c3:(List Bs)):Option (Bool×(List Bs)):=some (false,y3_c3)
def Z65_l7 (a0:TDef) :Nat->Nat->(List Bs)->Option (Bool×(List Bs))
 | 0,_,_=>none
 | n7+1,s14_8,y9_c3=>bif (decide (((s14_8:Nat):Int)<((a0.FInputs.l.length:Nat):Int))) then(none) else(Z65_j2   y9_c3)
def Z65_n:Nat->TDef->TDef->Z4->(List Bs)->Option (Bool×(List Bs))
 | 0,_,_,_,_=>none
 | n+1,a0,a1,a2,a3=>Z65_l7 a0 (a0.FInputs.l.length+1) 0 a3
theorem Z65_step (n:Nat) (ih_74:∀{a0 a1:TDef}{a2:Z4}{a3:List Bs}{q2_1:Option Nat}{c2 c3 c4:Nat}{r:(Bool×(List Bs))},Z65_n n a0 a1 a2 a3=some r->∀(H:Heap) (hc2:H c2=some (.cells (Z4.cg q2_1 a2))) (hc3:H c3=some (.map (seenM a3))) (hc4:H c4=some (.cells [.func 74 [.view (TDef.c a1),.view [.ptr c2 0],.view [.map c3],.ptr c4 0]])),AC Tryz.prog 74 [.agg (TDef.c a0),.d (.view (TDef.c a1)),.d (.view [.ptr c2 0]),.d (.view [.map c3]),.d (.ptr c4 0)] H fun v h'=>v=.a (.d (.bool r.1))/\h'=(H.set c3 (some (.map (seenM r.2))))):∀{a0 a1:TDef}{a2:Z4}{a3:List Bs}{q2_1:Option Nat}{c2 c3 c4:Nat}{r:(Bool×(List Bs))},Z65_n (n+1) a0 a1 a2 a3=some r->∀(H:Heap) (hc2:H c2=some (.cells (Z4.cg q2_1 a2))) (hc3:H c3=some (.map (seenM a3))) (hc4:H c4=some (.cells [.func 74 [.view (TDef.c a1),.view [.ptr c2 0],.view [.map c3],.ptr c4 0]])),AC Tryz.prog 74 [.agg (TDef.c a0),.d (.view (TDef.c a1)),.d (.view [.ptr c2 0]),.d (.view [.map c3]),.d (.ptr c4 0)] H fun v h'=>v=.a (.d (.bool r.1))/\h'=(H.set c3 (some (.map (seenM r.2)))):=by
 intro a0 a1 a2 a3 q2_1 c2 c3 c4 r hE H hc2 hc3 hc4;rw [Z65_n] at hE;refine AC.oW 68 [.tmp 6] Tryz.call74 Tryz.func74 ?_;have ne_c3_c2:c3≠c2:=fun e_=>by subst e_; simp_all
 have ne_c4_c3:c4≠c3:=fun e_=>by subst e_; simp_all
 refine AWp.heqA (h':=(H.set c3 (some (.map (seenM a3))))) (by funext n_; simp only [Heap.set]; (repeat' split)<;>simp_all) ?_;refine seqR (S BX (S As (nil ?_)));refine seqJH kN (fun(z:(List Bs))=>[]) (fun z=>(H.set c3 (some (.map (seenM z))))) (fun z=>Z65_j2 z=some r) ?_ ?_
 ·intro K2 hK2;refine seqR (S Fv (S Ld ?_));refine sLen (f:=Z7.c) (s:=a0.FInputs) (TK rfl) rfl rfl rfl rfl fun hL6=>?_;refine S Mv (nil ?_);refine block ?_;refine loopH (TA 1 (TA 2 (TA 3 (TA 4 (TA 12 (TA 13 kN)))))) (fun(z:Nat×Nat×(List Bs))=>[(14,.a (.d (.int .i64 ((z.2.1:Nat):Int))))]) (fun z=>(H.set c3 (some (.map (seenM z.2.2))))) (fun z=>z.1) (fun z=>Z65_l7 a0 z.1 z.2.1 z.2.2=some r) ((a0.FInputs.l.length+1),0,a3) hE wA ?_
  rintro ⟨n7,s14_8,y9_c3⟩ hE K7 hK7;try dsimp only at hE
  cases n7 with
  | zero=>cases hE
  | succ n7 =>
    rw [Z65_l7] at hE;refine seqR (S BI (nil ?_));refine seqK fun K11 hK11=>?_;refine cE hE (fun hc12 hE=>?_) (fun hc12 hE=>?_)
    ·try dsimp only at hc12
     have hf12:=oD hc12;cases hE
    refine AWp.exit ?_;exact hK2 _ y9_c3 wA hE
 rintro y3_c3 hE;try dsimp only at hE
 unfold Z65_j2 at hE;refine seqR (S As (nil ?_));exact rt hE
theorem Z65_all:∀(n:Nat),(∀{a0 a1:TDef}{a2:Z4}{a3:List Bs}{q2_1:Option Nat}{c2 c3 c4:Nat}{r:(Bool×(List Bs))},Z65_n n a0 a1 a2 a3=some r->∀(H:Heap) (hc2:H c2=some (.cells (Z4.cg q2_1 a2))) (hc3:H c3=some (.map (seenM a3))) (hc4:H c4=some (.cells [.func 74 [.view (TDef.c a1),.view [.ptr c2 0],.view [.map c3],.ptr c4 0]])),AC Tryz.prog 74 [.agg (TDef.c a0),.d (.view (TDef.c a1)),.d (.view [.ptr c2 0]),.d (.view [.map c3]),.d (.ptr c4 0)] H fun v h'=>v=.a (.d (.bool r.1))/\h'=(H.set c3 (some (.map (seenM r.2)))))
 | 0=>fun hE=>by first|cases hE|(rw [Z65_n] at hE; cases hE)
 | n+1=>Z65_step n (Z65_all n)
def Z65 (a0:TDef) (a1:TDef) (a2:Z4) (a3:(List Bs)):Option (Bool×(List Bs)):=Z65_n F0 a0 a1 a2 a3
theorem Z65_walk {a0 a1:TDef}{a2:Z4}{a3:List Bs}{q2_1:Option Nat}{c2 c3 c4:Nat}{r:(Bool×(List Bs))}(hE:Z65 a0 a1 a2 a3=some r) (H:Heap) (hc2:H c2=some (.cells (Z4.cg q2_1 a2))) (hc3:H c3=some (.map (seenM a3))) (hc4:H c4=some (.cells [.func 74 [.view (TDef.c a1),.view [.ptr c2 0],.view [.map c3],.ptr c4 0]])):AC Tryz.prog 74 [.agg (TDef.c a0),.d (.view (TDef.c a1)),.d (.view [.ptr c2 0]),.d (.view [.map c3]),.d (.ptr c4 0)] H fun v h'=>v=.a (.d (.bool r.1))/\h'=(H.set c3 (some (.map (seenM r.2)))):=(Z65_all F0) hE H hc2 hc3 hc4
def Z64 (a0:Z4) (a1:TDef):Option Bool:=(Z65 a1 a1 a0 ([]:List Bs)).bind fun x8=>some x8.1
theorem Z64_walk {a0:Z4}{a1:TDef}{q0_1:Option Nat}{c0:Nat}{r:Bool}(hE:Z64 a0 a1=some r) (H:Heap) (hc0:H c0=some (.cells (Z4.cg q0_1 a0))):AC Tryz.prog 62 [.d (.ptr c0 0),.agg (TDef.c a1)] H fun v h'=>v=.a (.d (.bool r))/\h'=H:=by
 unfold Z64 at hE;refine AC.oW 12 [.tmp 4] Tryz.call62 Tryz.func62 ?_;refine seqR (S BX (S BX (S As (nil ?_))));refine seqR ?_;refine sE StepE.makeMap rfl (fun _ _ _ ⟨id7_3,hid7_3,e1,e2,e3⟩=>?_); subst e1 e2 e3;have ne_id7_3_c0:id7_3≠c0:=fun e_=>by subst e_; simp_all
 refine hq (H.set id7_3 (some (.map (seenM ([]:List Bs))))) ?_;refine Sl ?_;refine Sf ?_;refine nil ?_;refine freezeA 5 _ rfl (KA 2 (KA 3 Keeps.nil)) ?_;refine seqR ?_;refine sE (StepE.allocO (TK rfl) rfl) rfl (fun _ _ _ ⟨id6_5,hid6_5,e1,e2,e3⟩=>?_); subst e1 e2 e3;obtain⟨ne_id6_5_id7_3,hid6_5⟩:=Heap.set_fresh hid6_5;have ne_id6_5_c0:id6_5≠c0:=fun e_=>by subst e_; simp_all
 refine hq ((H.set id7_3 (some (.map (seenM ([]:List Bs))))).set id6_5 (some (.cells [.nilFunc]))) ?_;refine nil ?_;refine seqR ?_;refine s0 (makeFunc rfl) rfl ?_;refine sHn (storeP1 (TK rfl) rfl rfl hpG rfl (by repeat (first|exact SetAt.zero|apply SetAt.succ))) rfl rfl ?_;refine hq ((H.set id7_3 (some (.map (seenM ([]:List Bs))))).set id6_5 (some (.cells [.func 74 [.view (TDef.c a1),.view [.ptr c0 0],.view [.map id7_3],.ptr id6_5 0]]))) ?_
 refine nil ?_;refine seqR ?_;refine s0 (loadP (TK rfl) rfl rfl hpG rfl) rfl ?_;refine S Ld ?_;obtain⟨x8,gx8,hE⟩:=bO hE;refine sH (callH rfl rfl (Z65_walk gx8 _ hpG hpG hpG)) rfl ?_;refine hq ((H.set id7_3 (some (.map (seenM x8.2)))).set id6_5 (some (.cells [.func 74 [.view (TDef.c a1),.view [.ptr c0 0],.view [.map id7_3],.ptr id6_5 0]]))) ?_;refine S As (nil ?_);refine AWp.ret ?_;repeat (first|refine xBlock_ret ?_|refine xThen_ret ?_)
 obtain rfl:=oJ hE;refine retQ.retF H rfl ⟨rfl,rfl⟩ ?_;intro id_ o_ he_;have e_id7_3:id_≠id7_3:=fun e_=>by subst e_; simp_all [Heap.set]
 have e_id6_5:id_≠id6_5:=fun e_=>by subst e_; simp_all [Heap.set]
 rw [<- he_];simp only [Heap.set] at he_ ⊢
 (repeat' split)<;>simp_all
end Go.Proofs
