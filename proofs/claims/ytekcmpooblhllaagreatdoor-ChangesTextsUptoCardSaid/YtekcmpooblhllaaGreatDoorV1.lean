import Derived.Test.YtekcmpooblhllaaGreatDoorE3
import Derived.Test.YtekcmpooblhllaaGreatDoorTab
set_option maxRecDepth 100000
set_option maxHeartbeats 2000000
set_option linter.unusedVariables false
set_option linter.unusedSimpArgs false
namespace Go.Proofs
open Go Go.Ab
structure Z3 where
 FKind:Int
 FType:Bs
 FField:Bs
 FArg:Bs
 FFrom:Bs
 FTo:Bs
def Z3.c (x:Z3):List D:=[.int .i64 x.FKind,.str x.FType,.str x.FField,.str x.FArg,.str x.FFrom,.str x.FTo]
def Z3.zero:Z3:=⟨(0:Int),([]:Bs),([]:Bs),([]:Bs),([]:Bs),([]:Bs)⟩
structure TRef where
 FName:Bs
 FWraps:(Sl Int)
noncomputable def TRef.c (x:TRef):List D:=[.str x.FName,Sl.d 1 (intE .i64) none x.FWraps]
def TRef.zero:TRef:=⟨([]:Bs),(Sl.nil:Sl Int)⟩
inductive Z7 where
 | mk (FKind:Int) (FInt:Int) (FText:Bs) (FItems_nl:Bool) (FItems_l:List Z7) (FKeys:(Sl Bs))
def Z7.FKind:Z7->Int|.mk x _ _ _ _ _=>x
def Z7.FInt:Z7->Int|.mk _ x _ _ _ _=>x
def Z7.FText:Z7->Bs|.mk _ _ x _ _ _=>x
def Z7.FItems:Z7->(Sl Z7)|.mk _ _ _ nl l _=>⟨nl,l⟩
def Z7.FKeys:Z7->(Sl Bs)|.mk _ _ _ _ _ x=>x
noncomputable def Z7.FItemsD:Z7->D:=@Z7.rec (fun _=>D) (fun _=>List (List D)) (fun _ _ _ nl _ _ ih=>.slice 5 none nl ih) [] (fun v _ ih ihl=>((intE .i64) v.FKind++(intE .i64) v.FInt++strE v.FText++[ih]++(fun s=>[Sl.d 1 strE none s]) v.FKeys)::ihl)
noncomputable def Z7.c (v:Z7):List D:=(intE .i64) v.FKind++(intE .i64) v.FInt++strE v.FText++[v.FItemsD]++(fun s=>[Sl.d 1 strE none s]) v.FKeys
theorem Z7.FItemsD_eq (v:Z7):v.FItemsD=Sl.d 5 Z7.c none v.FItems:=by
 cases v with
 | mk y_Kind y_Int y_Text nl l y_Keys =>
  show D.slice 5 none nl _=D.slice 5 none nl (l.map Z7.c)
  congr 1
  induction l with
  | nil=>rfl
  | cons a r ih=>exact congrArg (Z7.c a::·) ih
def Z7.zero:Z7:=.mk (0:Int) (0:Int) ([]:Bs) true [] (Sl.nil:Sl Bs)
structure TArg where
 FName:Bs
 FValue:Z7
noncomputable def TArg.c (x:TArg):List D:=strE x.FName++Z7.c x.FValue
structure TDir where
 FName:Bs
 FArgs:(Sl TArg)
noncomputable def TDir.c (x:TDir):List D:=[.str x.FName,Sl.d 6 TArg.c none x.FArgs]
structure Z5 where
 FName:Bs
 FType:TRef
 FHas:Bool
 FDefault:Z7
 FDirs:(Sl TDir)
noncomputable def Z5.c (x:Z5):List D:=strE x.FName++TRef.c x.FType++boolE x.FHas++Z7.c x.FDefault++(fun s=>[Sl.d 2 TDir.c none s]) x.FDirs
def Z5.zero:Z5:=⟨([]:Bs),TRef.zero,false,Z7.zero,(Sl.nil:Sl TDir)⟩
structure Z4 where
 FName:Bs
 FArgs:(Sl Z5)
 FType:TRef
 FDirs:(Sl TDir)
noncomputable def Z4.c (x:Z4):List D:=strE x.FName++(fun s=>[Sl.d 10 Z5.c none s]) x.FArgs++TRef.c x.FType++(fun s=>[Sl.d 2 TDir.c none s]) x.FDirs
def Z4.zero:Z4:=⟨([]:Bs),(Sl.nil:Sl Z5),TRef.zero,(Sl.nil:Sl TDir)⟩
structure Z6 where
 FName:Bs
 FDirs:(Sl TDir)
noncomputable def Z6.c (x:Z6):List D:=[.str x.FName,Sl.d 2 TDir.c none x.FDirs]
structure TDef where
 FKind:Int
 FName:Bs
 FImplements:(Sl Bs)
 FDirs:(Sl TDir)
 FFields:(Sl Z4)
 FMembers:(Sl Z6)
 FInputs:(Sl Z5)
noncomputable def TDef.c (x:TDef):List D:=[.int .i64 x.FKind,.str x.FName,Sl.d 1 strE none x.FImplements,Sl.d 2 TDir.c none x.FDirs,Sl.d 5 Z4.c none x.FFields,Sl.d 2 Z6.c none x.FMembers,Sl.d 10 Z5.c none x.FInputs]
def TDef.zero:TDef:=⟨(0:Int),([]:Bs),(Sl.nil:Sl Bs),(Sl.nil:Sl TDir),(Sl.nil:Sl Z4),(Sl.nil:Sl Z6),(Sl.nil:Sl Z5)⟩
structure TDoc where
 FDefs:(Sl TDef)
noncomputable def TDoc.c (x:TDoc):List D:=[Sl.d 7 TDef.c none x.FDefs]
structure Z0 where
 Fname:Bs
 Fout:(Sl Z3)
noncomputable def Z0.cg (t1:Option Nat) (x:Z0):List D:=strE x.Fname++[Sl.d 6 Z3.c t1 x.Fout]
structure Z8 where
 FKind:Int
 FText:Bs
 FAt:Int
def Z8.c (x:Z8):List D:=[.int .i64 x.FKind,.str x.FText,.int .i64 x.FAt]
def Z8.zero:Z8:=⟨(0:Int),([]:Bs),(0:Int)⟩
structure Z2 where
 FKind:Int
 FText:Bs
 FAt:Int
def Z2.c (x:Z2):List D:=[.int .i64 x.FKind,.str x.FText,.int .i64 x.FAt]
def Z2.zero:Z2:=⟨(0:Int),([]:Bs),(0:Int)⟩
structure Z1 where
 Fgone:Int
 Fadd:Int
 Ftyp:Int
 Fdef:Int
def Z1.c (x:Z1):List D:=[.int .i64 x.Fgone,.int .i64 x.Fadd,.int .i64 x.Ftyp,.int .i64 x.Fdef]
end Go.Proofs

namespace Go.Proofs
open Go Go.Ab Go.RowKit
section
variable {H:Type}{B:DataW H->Nat}(hB:Bulk B)
noncomputable def Z3.sz (x:Z3):Nat:=(fun _=>1) x.FKind+(Bs.sz x.FType+(Bs.sz x.FField+(Bs.sz x.FArg+(Bs.sz x.FFrom+(Bs.sz x.FTo+(0))))))
def Z3.wf (x:Z3):Prop:=i64 x.FKind/\((fun _=>True) x.FType/\((fun _=>True) x.FField/\((fun _=>True) x.FArg/\((fun _=>True) x.FFrom/\((fun _=>True) x.FTo/\(True))))))
include hB in
theorem rd_TChange_23:∀N,RdN Tryz.prog B N 23 Z3.c Z3.sz Z3.wf:=RdA.struct hB (Tryz.tab_ok 23 _ rfl) rfl (fun N_=>(RdP.cons (n:=6) (o:=0) (o':=1) (Tryz.tab_ok 3 _ rfl) rfl ((RdS.int hB (Tryz.tab_ok 3 _ rfl) rfl) N_) (RdP.cons (n:=6) (o:=1) (o':=2) (Tryz.tab_ok 9 _ rfl) rfl ((RdS.str hB (Tryz.tab_ok 9 _ rfl) rfl) N_) (RdP.cons (n:=6) (o:=2) (o':=3) (Tryz.tab_ok 9 _ rfl) rfl ((RdS.str hB (Tryz.tab_ok 9 _ rfl) rfl) N_) (RdP.cons (n:=6) (o:=3) (o':=4) (Tryz.tab_ok 9 _ rfl) rfl ((RdS.str hB (Tryz.tab_ok 9 _ rfl) rfl) N_) (RdP.cons (n:=6) (o:=4) (o':=5) (Tryz.tab_ok 9 _ rfl) rfl ((RdS.str hB (Tryz.tab_ok 9 _ rfl) rfl) N_) (RdP.cons (n:=6) (o:=5) (o':=6) (Tryz.tab_ok 9 _ rfl) rfl ((RdS.str hB (Tryz.tab_ok 9 _ rfl) rfl) N_) (RdP.nil (n:=6))))))))) (fun a=>(⟨a.1,a.2.1,a.2.2.1,a.2.2.2.1,a.2.2.2.2.1,a.2.2.2.2.2.1⟩:Z3)) (fun _=>rfl) (fun _=>Nat.le_refl _) (fun _ h=>h)
end
theorem Z3.sz_def (x:Z3):x.sz=0+1+Bs.sz x.FType+Bs.sz x.FField+Bs.sz x.FArg+Bs.sz x.FFrom+Bs.sz x.FTo:=by
 unfold Z3.sz; try dsimp only
 omega
end Go.Proofs

namespace Go.Proofs
open Go Go.Ab
open AOps Cert AWp Keeps KeepsT
variable {lou:Lou}
def Tryz.lay44_ren:Go.Shelf.Ren:=⟨fun|171=>44|243=>74|246=>105|283=>130|284=>131|285=>132|286=>133|129=>146|317=>145|318=>147|319=>148|320=>149|337=>157|338=>158|n=>n,fun|3=>3|9=>9|2=>2|4=>4|171=>157|0=>0|53=>158|37=>111|5=>5|173=>161|212=>171|51=>137|20=>20|213=>172|46=>114|232=>187|233=>188|n=>n,fun|17=>1|18=>4|19=>5|n=>n⟩
theorem Tryz.lay44:Go.Proofs.LaysM.n171 Tryz.prog Tryz.lay44_ren:={
 mixed:=by kernel_rfl
 f129:=Tryz.func146.trans (congrArg some (by kernel_rfl))
 f171:=Tryz.func44.trans (congrArg some (by kernel_rfl))
 f243:=Tryz.func74.trans (congrArg some (by kernel_rfl))
 f246:=Tryz.func105.trans (congrArg some (by kernel_rfl))
 f283:=Tryz.func130.trans (congrArg some (by kernel_rfl))
 f284:=Tryz.func131.trans (congrArg some (by kernel_rfl))
 f285:=Tryz.func132.trans (congrArg some (by kernel_rfl))
 f286:=Tryz.func133.trans (congrArg some (by kernel_rfl))
 f317:=Tryz.func145.trans (congrArg some (by kernel_rfl))
 f318:=Tryz.func147.trans (congrArg some (by kernel_rfl))
 f319:=Tryz.func148.trans (congrArg some (by kernel_rfl))
 f320:=Tryz.func149.trans (congrArg some (by kernel_rfl))
 f337:=Tryz.func157.trans (congrArg some (by kernel_rfl))
 f338:=Tryz.func158.trans (congrArg some (by kernel_rfl))
 t0:=Tryz.underlying0
 a0:=Tryz.isAgg0
 z0:=Tryz.sizeOf0
 v0:=Tryz.zeroValue0
 t2:=Tryz.underlying2
 a2:=Tryz.isAgg2
 z2:=Tryz.sizeOf2
 v2:=Tryz.zeroValue2
 t3:=Tryz.underlying3
 a3:=Tryz.isAgg3
 z3:=Tryz.sizeOf3
 v3:=Tryz.zeroValue3
 t4:=Tryz.underlying4
 a4:=Tryz.isAgg4
 z4:=Tryz.sizeOf4
 v4:=Tryz.zeroValue4
 t5:=Tryz.underlying5
 a5:=Tryz.isAgg5
 z5:=Tryz.sizeOf5
 v5:=Tryz.zeroValue5
 t9:=Tryz.underlying9
 a9:=Tryz.isAgg9
 z9:=Tryz.sizeOf9
 v9:=Tryz.zeroValue9
 t20:=Tryz.underlying20
 a20:=Tryz.isAgg20
 z20:=Tryz.sizeOf20
 v20:=Tryz.zeroValue20
 t37:=Tryz.underlying111
 a37:=Tryz.isAgg111
 z37:=Tryz.sizeOf111
 v37:=Tryz.zeroValue111
 t46:=Tryz.underlying114
 a46:=Tryz.isAgg114
 z46:=Tryz.sizeOf114
 v46:=Tryz.zeroValue114
 t51:=Tryz.underlying137
 a51:=Tryz.isAgg137
 z51:=Tryz.sizeOf137
 v51:=Tryz.zeroValue137
 t53:=Tryz.underlying158
 a53:=Tryz.isAgg158
 z53:=Tryz.sizeOf158
 v53:=Tryz.zeroValue158
 t171:=Tryz.underlying157
 a171:=Tryz.isAgg157
 z171:=Tryz.sizeOf157
 v171:=Tryz.zeroValue157
 t173:=Tryz.underlying161
 a173:=Tryz.isAgg161
 z173:=Tryz.sizeOf161
 v173:=Tryz.zeroValue161
 t212:=Tryz.underlying171
 a212:=Tryz.isAgg171
 z212:=Tryz.sizeOf171
 v212:=Tryz.zeroValue171
 t213:=Tryz.underlying172
 a213:=Tryz.isAgg172
 z213:=Tryz.sizeOf172
 t232:=Tryz.underlying187
 a232:=Tryz.isAgg187
 z232:=Tryz.sizeOf187
 v232:=Tryz.zeroValue187
 t233:=Tryz.underlying188
 a233:=Tryz.isAgg188
 z233:=Tryz.sizeOf188
 v233:=Tryz.zeroValue188
 g17:=by kernel_rfl
 g18:=by kernel_rfl
 g19:=by kernel_rfl
 i0:=by kernel_rfl
 i2:=by kernel_rfl
 i3:=by kernel_rfl
 i4:=by kernel_rfl
 i5:=by kernel_rfl
 i9:=by kernel_rfl
 i20:=by kernel_rfl
 i37:=by kernel_rfl
 i46:=by kernel_rfl
 i51:=by kernel_rfl
 i53:=by kernel_rfl
 i171:=by kernel_rfl
 i173:=by kernel_rfl
 i212:=by kernel_rfl
 i232:=by kernel_rfl
 i233:=by kernel_rfl
 m17:=by kernel_rfl
 m18:=by kernel_rfl
 m19:=by kernel_rfl }
def Z84 (n:Int):Option Bs:=if -9223372036854775808<=n/\n<=9223372036854775807/\(Lib.itoa n).length<=maxS then some (Lib.itoa n) else none
def Z84_q (n:Int):Option Bs:=Z84 n
theorem Z84_eq (n:Int):Z84 n=Z84_q n:=rfl
theorem Z84_walk {a0:Int}{oT:Ab.Obj}{gT:Nat}{r:Bs}(hE:Z84 a0=some r) (H:Heap) (hgT:H gT=some oT) (hoT:IsTab Tryz.prog oT):AC Tryz.prog 44 [.d (.int .i64 a0)] H fun v h'=>v=.a (.d (.str r))/\h'=H:=by
 unfold Z84 at hE
 split at hE
 ·rename_i h
  obtain rfl:=oJ hE;exact itoa_calls Tryz.lay44 h.1 h.2.1 rfl hgT hoT h.2.2
 cases hE
def Z99 (a0:Int):Option Bs:=(Z84 a0).bind fun x3=>some x3
theorem Z99_walk {a0:Int}{oT:Ab.Obj}{gT:Nat}{r:Bs}(hE:Z99 a0=some r) (H:Heap) (hgT:H gT=some oT) (hoT:IsTab Tryz.prog oT):AC Tryz.prog 26 [.d (.int .i64 a0)] H fun v h'=>v=.a (.d (.str r))/\h'=H:=by
 unfold Z99 at hE;refine AC.oW 5 [.tmp 2] Tryz.call26 Tryz.func26 ?_;refine seqR (S As (nil ?_));refine seqR (S Mv ?_);obtain⟨x3,gx3,hE⟩:=bO hE;refine s0 (callR rfl rfl (Z84_walk (gT:=gT) (oT:=oT) gx3 _ hpG (by assumption))) rfl ?_;refine S As (nil ?_);exact rt hE
def Z25 (a0:Int):Option Bs:=bif ((decide (a0<(1:Int)))||(decide ((18:Int)<a0))) then((Z99 a0).bind fun x7=>(catC ([67,104,97,110,103,101,32]:Bs) x7).bind fun x8=>some x8) else((idxC ([([]:Bs),([84,121,112,101,71,111,110,101]:Bs),([84,121,112,101,78,101,119]:Bs),([84,121,112,101,75,105,110,100]:Bs),([70,105,101,108,100,71,111,110,101]:Bs),([70,105,101,108,100,78,101,119]:Bs),([70,105,101,108,100,84,121,112,101]:Bs),([65,114,103,71,111,110,101]:Bs),([65,114,103,78,101,119]:Bs),([65,114,103,84,121,112,101]:Bs),([65,114,103,68,101,102,97,117,108,116]:Bs),([77,101,109,98,101,114,71,111,110,101]:Bs),([77,101,109,98,101,114,78,101,119]:Bs),([73,110,112,117,116,71,111,110,101]:Bs),([73,110,112,117,116,78,101,119]:Bs),([73,110,112,117,116,84,121,112,101]:Bs),([73,110,112,117,116,68,101,102,97,117,108,116]:Bs),([70,97,99,101,71,111,110,101]:Bs),([70,97,99,101,78,101,119]:Bs)]:List Bs) a0).bind fun x10=>some x10)
theorem Z25_walk {a0:Int}{oT:Ab.Obj}{gT:Nat}{r:Bs}(hE:Z25 a0=some r) (H:Heap) (hgT:H gT=some oT) (hoT:IsTab Tryz.prog oT):AC Tryz.prog 11 [.d (.int .i64 a0)] H fun v h'=>v=.a (.d (.str r))/\h'=H:=by
 unfold Z25 at hE;refine AC.oW 17 [.tmp 2] Tryz.call11 Tryz.func11 ?_;refine seqR (S As (nil ?_));refine seqR ?_;refine s0 (buildArr Tryz.tab_ok Tryz.underlying65 rfl rfl rfl rfl rfl) rfl ?_;refine Sl ?_;refine Sf ?_;refine nil ?_;refine freezeA 3 _ rfl (KA 0 Keeps.nil) ?_;refine seqK fun K3 hK3=>?_;refine seqR (S Mv (S BI (S Mv (G0 Mv ?_))));refine G1 8 rfl BI ?_;refine S PO (nil ?_);refine cE hE (fun hc5 hE=>?_) (fun hc5 hE=>?_)
 ·refine seqR (S Mv ?_);obtain⟨x7,gx7,hE⟩:=bO hE;refine s0 (callR rfl rfl (Z99_walk (gT:=gT) (oT:=oT) gx7 _ hpG (by assumption))) rfl ?_;obtain⟨x8,gx8,hE⟩:=bO hE;refine s0 (catM rfl rfl gx8) rfl ?_;refine S As (nil ?_);exact rt hE
 refine sk hK3 ?_;clear hK3 K3;refine seqR (S Mv ?_);obtain⟨x10,gx10,hE⟩:=bO hE;refine s0 (idxArr (f:=D.str) (l:=([([]:Bs),([84,121,112,101,71,111,110,101]:Bs),([84,121,112,101,78,101,119]:Bs),([84,121,112,101,75,105,110,100]:Bs),([70,105,101,108,100,71,111,110,101]:Bs),([70,105,101,108,100,78,101,119]:Bs),([70,105,101,108,100,84,121,112,101]:Bs),([65,114,103,71,111,110,101]:Bs),([65,114,103,78,101,119]:Bs),([65,114,103,84,121,112,101]:Bs),([65,114,103,68,101,102,97,117,108,116]:Bs),([77,101,109,98,101,114,71,111,110,101]:Bs),([77,101,109,98,101,114,78,101,119]:Bs),([73,110,112,117,116,71,111,110,101]:Bs),([73,110,112,117,116,78,101,119]:Bs),([73,110,112,117,116,84,121,112,101]:Bs),([73,110,112,117,116,68,101,102,97,117,108,116]:Bs),([70,97,99,101,71,111,110,101]:Bs),([70,97,99,101,78,101,119]:Bs)]:List Bs)) Tryz.underlying65 (TK rfl) rfl rfl rfl rfl gx10) rfl ?_
 refine S Ld (S As (nil ?_));exact rt hE
def Z24 (a0:Bs):Option Bs:=bif ((a0==([]:Bs))) then(some ([110,111,110,101]:Bs)) else(some a0)
theorem Z24_walk {a0 r:Bs}(hE:Z24 a0=some r) (H:Heap) :AC Tryz.prog 12 [.d (.str a0)] H fun v h'=>v=.a (.d (.str r))/\h'=H:=by
 unfold Z24 at hE;refine AC.oW 6 [.tmp 2] Tryz.call12 Tryz.func12 ?_;refine seqR (S As (nil ?_));refine seqK fun K2 hK2=>?_;refine seqR (S Mv (S BS (nil ?_)));refine cE hE (fun hc4 hE=>?_) (fun hc4 hE=>?_)
 ·refine seqR (S As (nil ?_));exact rt hE
 refine sk hK2 ?_;clear hK2 K2;refine seqR (S Mv (S As (nil ?_)));exact rt hE
def Z11_j10  (s3_11:Bs):Option Bs:=some s3_11
def Z11_j8 (a0:Z3)  (s3_9:Bs):Option Bs:=bif ((!(a0.FFrom==([]:Bs)))||(!(a0.FTo==([]:Bs)))) then((Z24 a0.FFrom).bind fun x15=>(catC ([58,32]:Bs) x15).bind fun x16=>(catC x16 ([32,45,62,32]:Bs)).bind fun x17=>(Z24 a0.FTo).bind fun x18=>(catC x17 x18).bind fun x19=>(catC s3_9 x19).bind fun x20=>Z11_j10   x20) else(Z11_j10   s3_9)
def Z11_j6 (a0:Z3)  (s3_7:Bs):Option Bs:=bif (!(a0.FArg==([]:Bs))) then((catC ([40]:Bs) a0.FArg).bind fun x23=>(catC x23 ([41]:Bs)).bind fun x24=>(catC s3_7 x24).bind fun x25=>Z11_j8 a0  x25) else(Z11_j8 a0  s3_7)
def Z11 (a0:Z3):Option Bs:=(Z25 a0.FKind).bind fun x3=>(catC x3 ([32]:Bs)).bind fun x4=>(catC x4 a0.FType).bind fun x5=>bif (!(a0.FField==([]:Bs))) then((catC ([46]:Bs) a0.FField).bind fun x28=>(catC x5 x28).bind fun x29=>Z11_j6 a0  x29) else(Z11_j6 a0  x5)
theorem Z11_walk {a0:Z3}{oT:Ab.Obj}{gT:Nat}{r:Bs}(hE:Z11 a0=some r) (H:Heap) (hgT:H gT=some oT) (hoT:IsTab Tryz.prog oT):AC Tryz.prog 5 [.agg (Z3.c a0)] H fun v h'=>v=.a (.d (.str r))/\h'=H:=by
 unfold Z11 at hE;refine AC.oW 48 [.tmp 2] Tryz.call5 Tryz.func5 ?_;refine seqR (S BX (S As (nil ?_)));refine AWp.seqD (Sd Fv (Sd Ld ?_));obtain⟨x3,gx3,hE⟩:=bO hE;refine DOps.s0 (callR rfl rfl (Z25_walk (gT:=gT) (oT:=oT) gx3 _ hpG (by assumption))) rfl ?_;obtain⟨x4,gx4,hE⟩:=bO hE;refine DOps.s0 (catM rfl rfl gx4) rfl ?_;refine Sd Fv (Sd Ld ?_);obtain⟨x5,gx5,hE⟩:=bO hE;refine DOps.s0 (catM rfl rfl gx5) rfl ?_
 refine Sd As ?_;refine DOps.nil (by decide +kernel) ?_;refine seqJH (TA 1 kN) (fun(z:Bs)=>[(3,.a (.d (.str z)))]) (fun z=>H) (fun z=>Z11_j6 a0 z=some r) ?_ ?_
 ·intro K6 hK6;refine seqR (S Fv (S Ld (S BS (nil ?_))));refine cE hE (fun hc27 hE=>?_) (fun hc27 hE=>?_)
  ·refine region ?_;refine S Mv (S Fv (S Ld ?_));obtain⟨x28,gx28,hE⟩:=bO hE;refine s0 (catM rfl rfl gx28) rfl ?_;obtain⟨x29,gx29,hE⟩:=bO hE;refine s0 (catM rfl rfl gx29) rfl ?_;refine S As (nil ?_);exact hK6 _ x29 wA hE
  refine AWp.skip ?_;exact hK6 _ x5 wA hE
 rintro s3_7 hE;try dsimp only at hE
 unfold Z11_j6 at hE;refine seqJH (TA 1 kN) (fun(z:Bs)=>[(3,.a (.d (.str z)))]) (fun z=>H) (fun z=>Z11_j8 a0 z=some r) ?_ ?_
 ·intro K8 hK8;refine seqR (S Fv (S Ld (S BS (nil ?_))));refine cE hE (fun hc22 hE=>?_) (fun hc22 hE=>?_)
  ·refine region ?_;refine S Mv (S Fv (S Ld ?_));obtain⟨x23,gx23,hE⟩:=bO hE;refine s0 (catM rfl rfl gx23) rfl ?_;obtain⟨x24,gx24,hE⟩:=bO hE;refine s0 (catM rfl rfl gx24) rfl ?_;obtain⟨x25,gx25,hE⟩:=bO hE;refine s0 (catM rfl rfl gx25) rfl ?_;refine S As (nil ?_);exact hK8 _ x25 wA hE
  refine AWp.skip ?_;exact hK8 _ s3_7 wA hE
 rintro s3_9 hE;try dsimp only at hE
 unfold Z11_j8 at hE;refine seqJH kN (fun(z:Bs)=>[(3,.a (.d (.str z)))]) (fun z=>H) (fun z=>Z11_j10 z=some r) ?_ ?_
 ·intro K10 hK10;refine seqR (S Fv (S Ld (S BS (S Mv (G0 Fv ?_)))));refine G1 32 rfl Ld ?_;refine G1 33 rfl BS ?_;refine S PO (nil ?_);refine cE hE (fun hc14 hE=>?_) (fun hc14 hE=>?_)
  ·refine AWp.draw rfl ?_;refine Sd Mv (Sd Fv (Sd Ld ?_));obtain⟨x15,gx15,hE⟩:=bO hE;refine Scd rfl rfl (Z24_walk gx15) ?_;obtain⟨x16,gx16,hE⟩:=bO hE;refine DOps.s0 (catM rfl rfl gx16) rfl ?_;obtain⟨x17,gx17,hE⟩:=bO hE;refine DOps.s0 (catM rfl rfl gx17) rfl ?_;refine Sd Fv (Sd Ld ?_);obtain⟨x18,gx18,hE⟩:=bO hE;refine Scd rfl rfl (Z24_walk gx18) ?_;obtain⟨x19,gx19,hE⟩:=bO hE;refine DOps.s0 (catM rfl rfl gx19) rfl ?_
   obtain⟨x20,gx20,hE⟩:=bO hE;refine DOps.s0 (catM rfl rfl gx20) rfl ?_;refine Sd As ?_;refine DOps.nil (by decide +kernel) ?_;exact hK10 _ x20 wA hE
  refine AWp.skip ?_;exact hK10 _ s3_9 wA hE
 rintro s3_11 hE;try dsimp only at hE
 unfold Z11_j10 at hE;refine seqR (S Mv (S As (nil ?_)));exact rt hE
def Z29 (a0:Bs) (a1:Bs):Option Bool:=guardO ((decide (((a1.length:Nat):Int)<=((a0.length:Nat):Int)))) (subC ((a0.length:Nat):Int) ((a1.length:Nat):Int)) (0:Int) fun x5=>guardO ((decide (((a1.length:Nat):Int)<=((a0.length:Nat):Int)))) (cutC a0 (some x5) none) ([]:Bs) fun x6=>some ((decide (((a1.length:Nat):Int)<=((a0.length:Nat):Int)))&&((x6==a1)))
theorem Z29_walk {a0 a1:Bs}{r:Bool}(hE:Z29 a0 a1=some r) (H:Heap) :AC Tryz.prog 28 [.d (.str a0),.d (.str a1)] H fun v h'=>v=.a (.d (.bool r))/\h'=H:=by
 unfold Z29 at hE;refine AC.oW 21 [.tmp 4] Tryz.call28 Tryz.func28 ?_;refine seqR (S As (nil ?_));refine seqR (S Mv ?_);refine sLenS (TK rfl) rfl rfl rfl rfl fun hL3=>?_;refine S Mv ?_;refine sLenS (TK rfl) rfl rfl rfl rfl fun hL4=>?_;refine S BI (S Mv (G0 Mv (G0 Mv ?_)));refine gC rfl rfl (fun hC=>ungdA (k:=12) rfl (lenS (TK rfl) rfl rfl rfl)) rfl ?_;refine G0 Mv ?_;refine gC rfl rfl (fun hC=>ungdA (k:=14) rfl (lenS (TK rfl) rfl rfl rfl)) rfl ?_
 obtain⟨x5,gx5,hE⟩:=gO hE;refine gC rfl rfl (fun hC=>ungdA (k:=13) rfl (ungdA (k:=15) rfl (subM rfl rfl (gx5 hC)))) rfl ?_;obtain⟨x6,gx6,hE⟩:=gO hE;refine gC rfl rfl (fun hC=>ungdA (k:=11) rfl (ungdA (k:=16) rfl (cutM (l:=(some x5)) (r:=none) (TK rfl) rfl rfl rfl trivial (by simp) (gx6 hC)))) rfl ?_;refine G0 Mv ?_;refine G2 17 18 rfl rfl BS ?_;refine S PA (S As (nil ?_));exact rt hE
def Z93 (a0:Bs) (a1:Bs):Option Bool:=(Z29 a0 a1).bind fun x3=>some x3
theorem Z93_walk {a0 a1:Bs}{r:Bool}(hE:Z93 a0 a1=some r) (H:Heap) :AC Tryz.prog 15 [.d (.str a0),.d (.str a1)] H fun v h'=>v=.a (.d (.bool r))/\h'=H:=by
 unfold Z93 at hE;refine AC.oW 8 [.tmp 4] Tryz.call15 Tryz.func15 ?_;refine seqR (S As (nil ?_));refine seqR (S Mv (S Mv ?_));obtain⟨x3,gx3,hE⟩:=bO hE;refine Sc rfl rfl (Z29_walk gx3) ?_;refine S As (nil ?_);exact rt hE
def Tryz.lay16_ren:Go.Shelf.Ren:=⟨fun|144=>16|143=>29|219=>46|217=>75|225=>76|224=>77|267=>78|266=>106|314=>107|n=>n,fun|9=>9|4=>4|3=>3|5=>5|46=>114|146=>138|51=>137|n=>n,fun|1=>0|n=>n⟩
theorem Tryz.lay16:Go.Proofs.LaysM.n144 Tryz.prog Tryz.lay16_ren:={
 mixed:=by kernel_rfl
 f143:=Tryz.func29.trans (congrArg some (by kernel_rfl))
 f144:=Tryz.func16.trans (congrArg some (by kernel_rfl))
 f217:=Tryz.func75.trans (congrArg some (by kernel_rfl))
 f219:=Tryz.func46.trans (congrArg some (by kernel_rfl))
 f224:=Tryz.func77.trans (congrArg some (by kernel_rfl))
 f225:=Tryz.func76.trans (congrArg some (by kernel_rfl))
 f266:=Tryz.func106.trans (congrArg some (by kernel_rfl))
 f267:=Tryz.func78.trans (congrArg some (by kernel_rfl))
 f314:=Tryz.func107.trans (congrArg some (by kernel_rfl))
 t3:=Tryz.underlying3
 a3:=Tryz.isAgg3
 z3:=Tryz.sizeOf3
 v3:=Tryz.zeroValue3
 t4:=Tryz.underlying4
 a4:=Tryz.isAgg4
 z4:=Tryz.sizeOf4
 v4:=Tryz.zeroValue4
 t5:=Tryz.underlying5
 a5:=Tryz.isAgg5
 z5:=Tryz.sizeOf5
 v5:=Tryz.zeroValue5
 t9:=Tryz.underlying9
 a9:=Tryz.isAgg9
 z9:=Tryz.sizeOf9
 v9:=Tryz.zeroValue9
 t46:=Tryz.underlying114
 a46:=Tryz.isAgg114
 z46:=Tryz.sizeOf114
 v46:=Tryz.zeroValue114
 t51:=Tryz.underlying137
 a51:=Tryz.isAgg137
 z51:=Tryz.sizeOf137
 v51:=Tryz.zeroValue137
 t146:=Tryz.underlying138
 a146:=Tryz.isAgg138
 z146:=Tryz.sizeOf138
 v146:=Tryz.zeroValue138
 g1:=by kernel_rfl
 i3:=by kernel_rfl
 i4:=by kernel_rfl
 i5:=by kernel_rfl
 i9:=by kernel_rfl
 i46:=by kernel_rfl
 i51:=by kernel_rfl
 i146:=by kernel_rfl
 m1:=by kernel_rfl
 s1_3:=fun w h=>Go.Proofs.cell_of_shapedOpen_int (zero:=#[.int .i64 0]) (t:=3) h (oD (by kernel_rfl)) (by kernel_rfl) rfl (by kernel_rfl) (by kernel_rfl) Tryz.underlying3 }
def Z90 (s t:Bs):Option Bool:=containsC s t
def Z90_q (s t:Bs):Option Bool:=Z90 s t
theorem Z90_eq (s t:Bs):Z90 s t=Z90_q s t:=rfl
theorem Z90_walk {a0 a1:Bs}{oM:Ab.Obj}{gM:Nat}{r:Bool}(hE:Z90 a0 a1=some r) (H:Heap) (hgM:H gM=some oM) (hoM:IsMax Tryz.prog oM):AC Tryz.prog 16 [.d (.str a0),.d (.str a1)] H fun v h'=>v=.a (.d (.bool r))/\h'=H:=contains_calls Tryz.lay16 hE rfl hgM hoM
def Tryz.lay79_ren:Go.Shelf.Ren:=⟨fun|153=>79|152=>108|226=>109|227=>110|228=>111|137=>117|119=>134|224=>77|225=>76|217=>75|266=>106|n=>n,fun|9=>9|3=>3|4=>4|5=>5|21=>21|117=>144|116=>143|0=>0|46=>114|124=>163|n=>n,fun|n=>n⟩
theorem Tryz.lay79:Go.Proofs.Lays.n153 Tryz.prog Tryz.lay79_ren:={
 mixed:=by kernel_rfl
 f119:=Tryz.func134.trans (congrArg some (by kernel_rfl))
 f137:=Tryz.func117.trans (congrArg some (by kernel_rfl))
 f152:=Tryz.func108.trans (congrArg some (by kernel_rfl))
 f153:=Tryz.func79.trans (congrArg some (by kernel_rfl))
 f217:=Tryz.func75.trans (congrArg some (by kernel_rfl))
 f224:=Tryz.func77.trans (congrArg some (by kernel_rfl))
 f225:=Tryz.func76.trans (congrArg some (by kernel_rfl))
 f226:=Tryz.func109.trans (congrArg some (by kernel_rfl))
 f227:=Tryz.func110.trans (congrArg some (by kernel_rfl))
 f228:=Tryz.func111.trans (congrArg some (by kernel_rfl))
 f266:=Tryz.func106.trans (congrArg some (by kernel_rfl))
 t0:=Tryz.underlying0
 a0:=Tryz.isAgg0
 z0:=Tryz.sizeOf0
 v0:=Tryz.zeroValue0
 t3:=Tryz.underlying3
 a3:=Tryz.isAgg3
 z3:=Tryz.sizeOf3
 v3:=Tryz.zeroValue3
 t4:=Tryz.underlying4
 a4:=Tryz.isAgg4
 z4:=Tryz.sizeOf4
 v4:=Tryz.zeroValue4
 t5:=Tryz.underlying5
 a5:=Tryz.isAgg5
 z5:=Tryz.sizeOf5
 v5:=Tryz.zeroValue5
 t9:=Tryz.underlying9
 a9:=Tryz.isAgg9
 z9:=Tryz.sizeOf9
 v9:=Tryz.zeroValue9
 t21:=Tryz.underlying21
 a21:=Tryz.isAgg21
 z21:=Tryz.sizeOf21
 v21:=Tryz.zeroValue21
 t46:=Tryz.underlying114
 a46:=Tryz.isAgg114
 z46:=Tryz.sizeOf114
 v46:=Tryz.zeroValue114
 t116:=Tryz.underlying143
 a116:=Tryz.isAgg143
 z116:=Tryz.sizeOf143
 t117:=Tryz.underlying144
 a117:=Tryz.isAgg144
 z117:=Tryz.sizeOf144
 v117:=Tryz.zeroValue144
 t124:=Tryz.underlying163
 a124:=Tryz.isAgg163
 z124:=Tryz.sizeOf163
 v124:=Tryz.zeroValue163 }
def Z94 (s c:Bs):Option Int:=idxAnyC s c
theorem Z94_walk {a0 a1:Bs}{r:Int}(hE:Z94 a0 a1=some r) (H:Heap):AC Tryz.prog 79 [.d (.str a0),.d (.str a1)] H fun v h'=>v=.a (.d (.int .i64 r))/\h'=H:=idxAny_calls Tryz.lay79 (by kernel_rfl) hE rfl
def Z108_j2  (s1_3:Int):Option Int:=some s1_3
def Z108_j13 (a0:Bs) (s1_6:Int) (x12:UInt8) (k_next_5:Int->Option Int) (s14_14:Bool):Option Int:=bif s14_14 then((addC s1_6 (1:Int)).bind fun x16=>k_next_5 x16) else(bif (decide (((x12.toNat:Nat):Int)=(35:Int))) then((cutC a0 (some s1_6) none).bind fun x20=>(Z94 x20 ([10,13]:Bs)).bind fun x21=>bif (decide ((0:Int)<=x21)) then((addC s1_6 x21).bind fun x24=>k_next_5 x24) else(k_next_5 ((a0.length:Nat):Int))) else(some s1_6))
def Z108_l5 (a0:Bs) :Nat->Int->Option Int
 | 0,_=>none
 | n5+1,s1_6=>bif (decide (s1_6<((a0.length:Nat):Int))) then((idxC a0 s1_6).bind fun x12=>bif (decide (((x12.toNat:Nat):Int)=(32:Int))) then(Z108_j13 a0 s1_6 x12 ((Z108_l5 a0 n5)) (decide (((x12.toNat:Nat):Int)=(32:Int)))) else(bif (decide (((x12.toNat:Nat):Int)=(9:Int))) then(Z108_j13 a0 s1_6 x12 ((Z108_l5 a0 n5)) (decide (((x12.toNat:Nat):Int)=(9:Int)))) else(bif (decide (((x12.toNat:Nat):Int)=(10:Int))) then(Z108_j13 a0 s1_6 x12 ((Z108_l5 a0 n5)) (decide (((x12.toNat:Nat):Int)=(10:Int)))) else(bif (decide (((x12.toNat:Nat):Int)=(13:Int))) then(Z108_j13 a0 s1_6 x12 ((Z108_l5 a0 n5)) (decide (((x12.toNat:Nat):Int)=(13:Int)))) else(Z108_j13 a0 s1_6 x12 ((Z108_l5 a0 n5)) (decide (((x12.toNat:Nat):Int)=(44:Int)))))))) else(Z108_j2   s1_6)
def Z108 (a0:Bs) (a1:Int):Option Int:=Z108_l5 a0 F0 a1
theorem Z108_walk {a0:Bs}{a1 r:Int}(hE:Z108 a0 a1=some r) (H:Heap) :AC Tryz.prog 47 [.d (.str a0),.d (.int .i64 a1)] H fun v h'=>v=.a (.d (.int .i64 r))/\h'=H:=by
 unfold Z108 at hE;refine AC.oW 36 [.tmp 4] Tryz.call47 Tryz.func47 ?_;refine seqR (S As (nil ?_));refine seqJH kN (fun(z:Int)=>[(1,.a (.d (.int .i64 z)))]) (fun z=>H) (fun z=>Z108_j2 z=some r) ?_ ?_
 ·intro K2 hK2;refine block ?_;refine loopH (TA 0 kN) (fun(z:Nat×Int)=>[(1,.a (.d (.int .i64 z.2)))]) (fun z=>H) (fun z=>z.1) (fun z=>Z108_l5 a0 z.1 z.2=some r) (F0,a1) hE wA ?_;rintro ⟨n5,s1_6⟩ hE K5 hK5;try dsimp only at hE
  cases n5 with
  | zero=>cases hE
  | succ n5 =>
    rw [Z108_l5] at hE;refine seqK fun K7 hK7=>?_;refine seqR (S Mv (S Mv ?_));refine sLenS (TK rfl) rfl rfl rfl rfl fun hL9=>?_;refine S BI (nil ?_);refine cE hE (fun hc10 hE=>?_) (fun hc10 hE=>?_)
    ·refine sk hK7 ?_;clear hK7 K7;refine block ?_;refine seqR (S Mv (S Mv ?_));obtain⟨x12,gx12,hE⟩:=bO hE;refine s0 (idxS (TK rfl) rfl rfl rfl gx12) rfl ?_;refine nil ?_;refine block ?_;refine seqJH (TA 0 (TA 1 (TA 12 kN))) (fun(z:Bool)=>[(14,.a (.d (.bool z)))]) (fun z=>H) (fun z=>Z108_j13 a0 s1_6 x12 ((Z108_l5 a0 n5)) z=some r) ?_ ?_
     ·intro K13 hK13;refine seqR (S BI (S As (nil ?_)));refine cE hE (fun hc28 hE=>?_) (fun hc28 hE=>?_)
      ·refine AWp.skip ?_;exact hK13 _ (decide (((x12.toNat:Nat):Int)=(32:Int))) wA hE
      refine seqR (S BI (S As (nil ?_)));refine cE hE (fun hc30 hE=>?_) (fun hc30 hE=>?_)
      ·refine AWp.skip ?_;exact hK13 _ (decide (((x12.toNat:Nat):Int)=(9:Int))) wA hE
      refine seqR (S BI (S As (nil ?_)));refine cE hE (fun hc32 hE=>?_) (fun hc32 hE=>?_)
      ·refine AWp.skip ?_;exact hK13 _ (decide (((x12.toNat:Nat):Int)=(10:Int))) wA hE
      refine seqR (S BI (S As (nil ?_)));refine cE hE (fun hc34 hE=>?_) (fun hc34 hE=>?_)
      ·refine AWp.skip ?_;exact hK13 _ (decide (((x12.toNat:Nat):Int)=(13:Int))) wA hE
      refine region ?_;refine S BI (S As (nil ?_));exact hK13 _ (decide (((x12.toNat:Nat):Int)=(44:Int))) wA hE
     rintro s14_14 hE;try dsimp only at hE
     unfold Z108_j13 at hE;refine cE hE (fun hc15 hE=>?_) (fun hc15 hE=>?_)
     ·refine region ?_;refine S Mv ?_;obtain⟨x16,gx16,hE⟩:=bO hE;refine s0 (addM rfl rfl gx16) rfl ?_;refine S As (nil ?_);exact hK5 _ (n5,x16) wA hE (nS _)
     refine seqR (S BI (S As (nil ?_)));refine cE hE (fun hc18 hE=>?_) (fun hc18 hE=>?_)
     ·refine seqR (S Mv (S Mv ?_));obtain⟨x20,gx20,hE⟩:=bO hE;refine s0 (cutM (l:=(some s1_6)) (r:=none) (TK rfl) rfl rfl rfl trivial (by simp) gx20) rfl ?_;obtain⟨x21,gx21,hE⟩:=bO hE;refine Sc rfl rfl (Z94_walk gx21) ?_;refine S As (nil ?_);refine seqR (S Mv (S BI (nil ?_)));refine cE hE (fun hc23 hE=>?_) (fun hc23 hE=>?_)
      ·refine region ?_;refine S Mv (S Mv ?_);obtain⟨x24,gx24,hE⟩:=bO hE;refine s0 (addM rfl rfl gx24) rfl ?_;refine S As (nil ?_);exact hK5 _ (n5,x24) wA hE (nS _)
      refine region ?_;refine S Mv ?_;refine sLenS (TK rfl) rfl rfl rfl rfl fun hL25=>?_;refine S As (nil ?_);exact hK5 _ (n5,((a0.length:Nat):Int)) wA hE (nS _)
     refine seqR (S Mv (S As (nil ?_)));exact rt hE
    refine AWp.exit ?_;exact hK2 _ s1_6 wA hE
 rintro s1_3 hE;try dsimp only at hE
 unfold Z108_j2 at hE;refine seqR (S Mv (S As (nil ?_)));exact rt hE
def Tryz.lay108_ren:Go.Shelf.Ren:=⟨fun|152=>108|137=>117|119=>134|224=>77|225=>76|217=>75|266=>106|n=>n,fun|9=>9|21=>21|3=>3|4=>4|5=>5|0=>0|46=>114|n=>n,fun|n=>n⟩
theorem Tryz.lay108:Go.Proofs.Lays.n152 Tryz.prog Tryz.lay108_ren:={
 mixed:=by kernel_rfl
 f119:=Tryz.func134.trans (congrArg some (by kernel_rfl))
 f137:=Tryz.func117.trans (congrArg some (by kernel_rfl))
 f152:=Tryz.func108.trans (congrArg some (by kernel_rfl))
 f217:=Tryz.func75.trans (congrArg some (by kernel_rfl))
 f224:=Tryz.func77.trans (congrArg some (by kernel_rfl))
 f225:=Tryz.func76.trans (congrArg some (by kernel_rfl))
 f266:=Tryz.func106.trans (congrArg some (by kernel_rfl))
 t0:=Tryz.underlying0
 a0:=Tryz.isAgg0
 z0:=Tryz.sizeOf0
 v0:=Tryz.zeroValue0
 t3:=Tryz.underlying3
 a3:=Tryz.isAgg3
 z3:=Tryz.sizeOf3
 v3:=Tryz.zeroValue3
 t4:=Tryz.underlying4
 a4:=Tryz.isAgg4
 z4:=Tryz.sizeOf4
 v4:=Tryz.zeroValue4
 t5:=Tryz.underlying5
 a5:=Tryz.isAgg5
 z5:=Tryz.sizeOf5
 v5:=Tryz.zeroValue5
 t9:=Tryz.underlying9
 a9:=Tryz.isAgg9
 z9:=Tryz.sizeOf9
 v9:=Tryz.zeroValue9
 t21:=Tryz.underlying21
 a21:=Tryz.isAgg21
 z21:=Tryz.sizeOf21
 v21:=Tryz.zeroValue21
 t46:=Tryz.underlying114
 a46:=Tryz.isAgg114
 z46:=Tryz.sizeOf114
 v46:=Tryz.zeroValue114 }
def Z96 (s:Bs) (r:Int):Option Int:=idxRuneC s r
theorem Z96_walk {a0:Bs}{a1 r:Int}(hE:Z96 a0 a1=some r) (H:Heap):AC Tryz.prog 108 [.d (.str a0),.d (.int .i32 a1)] H fun v h'=>v=.a (.d (.int .i64 r))/\h'=H:=idxRune_calls Tryz.lay108 hE rfl
def Z91 (a0:Bs) (a1:Int):Option Bool:=(Z96 a0 a1).bind fun x3=>some (decide ((0:Int)<=x3))
theorem Z91_walk {a0:Bs}{a1:Int}{r:Bool}(hE:Z91 a0 a1=some r) (H:Heap) :AC Tryz.prog 80 [.d (.str a0),.d (.int .i32 a1)] H fun v h'=>v=.a (.d (.bool r))/\h'=H:=by
 unfold Z91 at hE;refine AC.oW 9 [.tmp 4] Tryz.call80 Tryz.func80 ?_;refine seqR (S As (nil ?_));refine seqR (S Mv (S Mv ?_));obtain⟨x3,gx3,hE⟩:=bO hE;refine Sc rfl rfl (Z96_walk gx3) ?_;refine S BI (S As (nil ?_));exact rt hE
def Z28 (a0:Bs) (a1:Bs):Option Bool:=guardO ((decide (((a1.length:Nat):Int)<=((a0.length:Nat):Int)))) (cutC a0 none (some ((a1.length:Nat):Int))) ([]:Bs) fun x5=>some ((decide (((a1.length:Nat):Int)<=((a0.length:Nat):Int)))&&((x5==a1)))
theorem Z28_walk {a0 a1:Bs}{r:Bool}(hE:Z28 a0 a1=some r) (H:Heap) :AC Tryz.prog 112 [.d (.str a0),.d (.str a1)] H fun v h'=>v=.a (.d (.bool r))/\h'=H:=by
 unfold Z28 at hE;refine AC.oW 18 [.tmp 4] Tryz.call112 Tryz.func112 ?_;refine seqR (S As (nil ?_));refine seqR (S Mv ?_);refine sLenS (TK rfl) rfl rfl rfl rfl fun hL3=>?_;refine S Mv ?_;refine sLenS (TK rfl) rfl rfl rfl rfl fun hL4=>?_;refine S BI (S Mv (G0 Mv (G0 Mv ?_)));refine gC rfl rfl (fun hC=>ungdA (k:=12) rfl (lenS (TK rfl) rfl rfl rfl)) rfl ?_;obtain⟨x5,gx5,hE⟩:=gO hE;refine gC rfl rfl (fun hC=>ungdA (k:=11) rfl (ungdA (k:=13) rfl (cutM (l:=none) (r:=(some ((a1.length:Nat):Int))) (TK rfl) rfl rfl trivial rfl (by simp) (gx5 hC)))) rfl ?_
 refine G0 Mv ?_;refine G2 14 15 rfl rfl BS ?_;refine S PA (S As (nil ?_));exact rt hE
def Z92 (a0:Bs) (a1:Bs):Option Bool:=(Z28 a0 a1).bind fun x3=>some x3
theorem Z92_walk {a0 a1:Bs}{r:Bool}(hE:Z92 a0 a1=some r) (H:Heap) :AC Tryz.prog 81 [.d (.str a0),.d (.str a1)] H fun v h'=>v=.a (.d (.bool r))/\h'=H:=by
 unfold Z92 at hE;refine AC.oW 8 [.tmp 4] Tryz.call81 Tryz.func81 ?_;refine seqR (S As (nil ?_));refine seqR (S Mv (S Mv ?_));obtain⟨x3,gx3,hE⟩:=bO hE;refine Sc rfl rfl (Z28_walk gx3) ?_;refine S As (nil ?_);exact rt hE
end Go.Proofs

namespace Go.Proofs
open Go Go.Ab
open AOps Cert AWp Keeps KeepsT
variable {lou:Lou}
def Z109_j2  (s1_3:Int):Option Int:=some s1_3
def Z109_l5 (a0:Bs) (a2:(Int->Option Bool)) :Nat->Int->Option Int
 | 0,_=>none
 | n5+1,s1_6=>guardO ((decide (s1_6<((a0.length:Nat):Int)))) (idxC a0 s1_6) (0:UInt8) fun x10=>guardO ((decide (s1_6<((a0.length:Nat):Int)))) (a2 (IntKind.wrap .i32 ((x10.toNat:Nat):Int))) false fun x11=>bif ((decide (s1_6<((a0.length:Nat):Int)))&&x11) then((addC s1_6 (1:Int)).bind fun x13=>(Z109_l5 a0 a2 n5) x13) else(Z109_j2   s1_6)
def Z109 (a0:Bs) (a1:Int) (a2:(Int->Option Bool)):Option Int:=Z109_l5 a0 a2 F0 a1
theorem Z109_walk {a0:Bs}{a1:Int}{a2:Int->Option Bool}{cl2:List D}{k2:Nat}{r:Int}(hE:Z109 a0 a1 a2=some r) (H:Heap) (hf2:∀x0 r,a2 x0=some r->∀H,AC Tryz.prog k2 ([.d (.int .i32 x0)]++cl2.map A.d) H fun v h'=>v=.a (.d (.bool r))/\h'=H):AC Tryz.prog 82 [.d (.str a0),.d (.int .i64 a1),.d (.func k2 cl2)] H fun v h'=>v=.a (.d (.int .i64 r))/\h'=H:=by
 unfold Z109 at hE;refine AC.oW 22 [.tmp 6] Tryz.call82 Tryz.func82 ?_;refine seqR (S As (nil ?_));refine seqJH kN (fun(z:Int)=>[(1,.a (.d (.int .i64 z)))]) (fun z=>H) (fun z=>Z109_j2 z=some r) ?_ ?_
 ·intro K2 hK2;refine block ?_;refine loopH (TA 0 (TA 2 kN)) (fun(z:Nat×Int)=>[(1,.a (.d (.int .i64 z.2)))]) (fun z=>H) (fun z=>z.1) (fun z=>Z109_l5 a0 a2 z.1 z.2=some r) (F0,a1) hE wA ?_;rintro ⟨n5,s1_6⟩ hE K5 hK5;try dsimp only at hE
  cases n5 with
  | zero=>cases hE
  | succ n5 =>
    rw [Z109_l5] at hE;refine seqK fun K7 hK7=>?_;refine seqR (S Mv (S Mv ?_));refine sLenS (TK rfl) rfl rfl rfl rfl fun hL9=>?_;refine S BI (S Mv (G0 Mv (G0 Mv (G0 Mv ?_))));obtain⟨x10,gx10,hE⟩:=gO hE;refine gC rfl rfl (fun hC=>ungdA (k:=13) rfl (ungdA (k:=14) rfl (idxS (TK rfl) rfl rfl rfl (gx10 hC)))) rfl ?_;refine gC rfl rfl (fun hC=>ungdA (k:=15) rfl (convI (TK rfl) (TK rfl) rfl rfl)) rfl ?_;obtain⟨x11,gx11,hE⟩:=gO hE
    refine gC rfl rfl (fun hC=>ungdA (k:=12) rfl (ungdA (k:=16) rfl (callP rfl rfl (hf2 _ _ (gx11 hC))))) rfl ?_;refine S PA (nil ?_);refine cE hE (fun hc12 hE=>?_) (fun hc12 hE=>?_)
    ·refine sk hK7 ?_;clear hK7 K7;refine block ?_;refine region ?_;refine S Mv ?_;obtain⟨x13,gx13,hE⟩:=bO hE;refine s0 (addM rfl rfl gx13) rfl ?_;refine S As (nil ?_);exact hK5 _ (n5,x13) wA hE (nS _)
    refine AWp.exit ?_;exact hK2 _ s1_6 wA hE
 rintro s1_3 hE;try dsimp only at hE
 unfold Z109_j2 at hE;refine seqR (S Mv (S As (nil ?_)));exact rt hE
def Z105 (a0:Int):Option Bool:=some (((((decide ((97:Int)<=a0))&&(decide (a0<=(122:Int))))||((decide ((65:Int)<=a0))&&(decide (a0<=(90:Int)))))||((decide ((48:Int)<=a0))&&(decide (a0<=(57:Int)))))||(decide (a0=(95:Int))))
theorem Z105_walk {a0:Int}{r:Bool}(hE:Z105 a0=some r) (H:Heap) :AC Tryz.prog 83 [.d (.int .i32 a0)] H fun v h'=>v=.a (.d (.bool r))/\h'=H:=by
 unfold Z105 at hE;refine AC.oW 29 [.tmp 2] Tryz.call83 Tryz.func83 ?_;refine seqR (S As (nil ?_));refine seqR (S Mv (S BI (S Mv (G0 Mv ?_))));refine G1 6 rfl BI ?_;refine S PA (S Mv (G0 Mv ?_));refine G1 10 rfl BI ?_;refine G1 11 rfl Mv ?_;refine G0 Mv ?_;refine G1 13 rfl BI ?_;refine gC rfl rfl (fun hC=>ungdA (k:=12) rfl (pickAndA rfl rfl rfl)) rfl ?_;refine S PO (S Mv (G0 Mv ?_));refine G1 18 rfl BI ?_
 refine G1 19 rfl Mv ?_;refine G0 Mv ?_;refine G1 21 rfl BI ?_;refine gC rfl rfl (fun hC=>ungdA (k:=20) rfl (pickAndA rfl rfl rfl)) rfl ?_;refine S PO (S Mv (G0 Mv ?_));refine G1 26 rfl BI ?_;refine S PO (S As (nil ?_));exact rt hE
def Z30 (a0:Bs) (a1:Bs):Option Bs:=(Z28 a0 a1).bind fun x4=>bif x4 then((cutC a0 (some ((a1.length:Nat):Int)) none).bind fun x8=>some x8) else(some a0)
theorem Z30_walk {a0 a1 r:Bs}(hE:Z30 a0 a1=some r) (H:Heap) :AC Tryz.prog 135 [.d (.str a0),.d (.str a1)] H fun v h'=>v=.a (.d (.str r))/\h'=H:=by
 unfold Z30 at hE;refine AC.oW 13 [.tmp 4] Tryz.call135 Tryz.func135 ?_;refine seqR (S As (nil ?_));refine seqK fun K2 hK2=>?_;refine seqR (S Mv (S Mv ?_));obtain⟨x4,gx4,hE⟩:=bO hE;refine Sc rfl rfl (Z28_walk gx4) ?_;refine nil ?_;refine cE hE (fun hc5 hE=>?_) (fun hc5 hE=>?_)
 ·refine seqR (S Mv (S Mv ?_));refine sLenS (TK rfl) rfl rfl rfl rfl fun hL7=>?_;obtain⟨x8,gx8,hE⟩:=bO hE;refine s0 (cutM (l:=(some ((a1.length:Nat):Int))) (r:=none) (TK rfl) rfl rfl rfl trivial (by simp) gx8) rfl ?_;refine S As (nil ?_);exact rt hE
 refine sk hK2 ?_;clear hK2 K2;refine seqR (S Mv (S As (nil ?_)));exact rt hE
def Z98 (a0:Bs) (a1:Bs):Option Bs:=(Z30 a0 a1).bind fun x3=>some x3
theorem Z98_walk {a0 a1 r:Bs}(hE:Z98 a0 a1=some r) (H:Heap) :AC Tryz.prog 113 [.d (.str a0),.d (.str a1)] H fun v h'=>v=.a (.d (.str r))/\h'=H:=by
 unfold Z98 at hE;refine AC.oW 8 [.tmp 4] Tryz.call113 Tryz.func113 ?_;refine seqR (S As (nil ?_));refine seqR (S Mv (S Mv ?_));obtain⟨x3,gx3,hE⟩:=bO hE;refine Sc rfl rfl (Z30_walk gx3) ?_;refine S As (nil ?_);exact rt hE
section
variable [IsLoud lou]
def Tryz.lay114_ren:Go.Shelf.Ren:=⟨fun|172=>114|244=>136|245=>137|247=>150|279=>151|280=>152|281=>153|282=>154|287=>159|316=>160|171=>44|205=>161|321=>163|322=>164|243=>74|246=>105|283=>130|284=>131|285=>132|286=>133|129=>146|317=>145|318=>147|319=>148|320=>149|337=>157|338=>158|n=>n,fun|9=>9|3=>3|75=>129|76=>147|4=>4|5=>5|167=>174|37=>111|0=>0|85=>175|2=>2|168=>177|53=>158|175=>181|46=>114|210=>184|127=>153|145=>192|143=>190|21=>21|171=>157|173=>161|212=>171|51=>137|20=>20|213=>172|232=>187|233=>188|80=>131|n=>n,fun|15=>2|16=>3|17=>1|18=>4|19=>5|n=>n⟩
theorem Tryz.lay114:Go.Proofs.LaysC.n172 Tryz.prog Tryz.lay114_ren:={
 mixed:=by kernel_rfl
 f129:=Tryz.func146.trans (congrArg some (by kernel_rfl))
 f171:=Tryz.func44.trans (congrArg some (by kernel_rfl))
 f172:=Tryz.func114.trans (congrArg some (by kernel_rfl))
 f205:=Tryz.func161.trans (congrArg some (by kernel_rfl))
 f243:=Tryz.func74.trans (congrArg some (by kernel_rfl))
 f244:=Tryz.func136.trans (congrArg some (by kernel_rfl))
 f245:=Tryz.func137.trans (congrArg some (by kernel_rfl))
 f246:=Tryz.func105.trans (congrArg some (by kernel_rfl))
 f247:=Tryz.func150.trans (congrArg some (by kernel_rfl))
 f279:=Tryz.func151.trans (congrArg some (by kernel_rfl))
 f280:=Tryz.func152.trans (congrArg some (by kernel_rfl))
 f281:=Tryz.func153.trans (congrArg some (by kernel_rfl))
 f282:=Tryz.func154.trans (congrArg some (by kernel_rfl))
 f283:=Tryz.func130.trans (congrArg some (by kernel_rfl))
 f284:=Tryz.func131.trans (congrArg some (by kernel_rfl))
 f285:=Tryz.func132.trans (congrArg some (by kernel_rfl))
 f286:=Tryz.func133.trans (congrArg some (by kernel_rfl))
 f287:=Tryz.func159.trans (congrArg some (by kernel_rfl))
 f316:=Tryz.func160.trans (congrArg some (by kernel_rfl))
 f317:=Tryz.func145.trans (congrArg some (by kernel_rfl))
 f318:=Tryz.func147.trans (congrArg some (by kernel_rfl))
 f319:=Tryz.func148.trans (congrArg some (by kernel_rfl))
 f320:=Tryz.func149.trans (congrArg some (by kernel_rfl))
 f321:=Tryz.func163.trans (congrArg some (by kernel_rfl))
 f322:=Tryz.func164.trans (congrArg some (by kernel_rfl))
 f337:=Tryz.func157.trans (congrArg some (by kernel_rfl))
 f338:=Tryz.func158.trans (congrArg some (by kernel_rfl))
 t0:=Tryz.underlying0
 a0:=Tryz.isAgg0
 z0:=Tryz.sizeOf0
 v0:=Tryz.zeroValue0
 t2:=Tryz.underlying2
 a2:=Tryz.isAgg2
 z2:=Tryz.sizeOf2
 v2:=Tryz.zeroValue2
 t3:=Tryz.underlying3
 a3:=Tryz.isAgg3
 z3:=Tryz.sizeOf3
 v3:=Tryz.zeroValue3
 t4:=Tryz.underlying4
 a4:=Tryz.isAgg4
 z4:=Tryz.sizeOf4
 v4:=Tryz.zeroValue4
 t5:=Tryz.underlying5
 a5:=Tryz.isAgg5
 z5:=Tryz.sizeOf5
 v5:=Tryz.zeroValue5
 t9:=Tryz.underlying9
 a9:=Tryz.isAgg9
 z9:=Tryz.sizeOf9
 v9:=Tryz.zeroValue9
 t20:=Tryz.underlying20
 a20:=Tryz.isAgg20
 z20:=Tryz.sizeOf20
 v20:=Tryz.zeroValue20
 t21:=Tryz.underlying21
 a21:=Tryz.isAgg21
 z21:=Tryz.sizeOf21
 v21:=Tryz.zeroValue21
 t37:=Tryz.underlying111
 a37:=Tryz.isAgg111
 z37:=Tryz.sizeOf111
 v37:=Tryz.zeroValue111
 t46:=Tryz.underlying114
 a46:=Tryz.isAgg114
 z46:=Tryz.sizeOf114
 v46:=Tryz.zeroValue114
 t51:=Tryz.underlying137
 a51:=Tryz.isAgg137
 z51:=Tryz.sizeOf137
 v51:=Tryz.zeroValue137
 t53:=Tryz.underlying158
 a53:=Tryz.isAgg158
 z53:=Tryz.sizeOf158
 v53:=Tryz.zeroValue158
 t75:=Tryz.underlying129
 a75:=Tryz.isAgg129
 z75:=Tryz.sizeOf129
 v75:=Tryz.zeroValue129
 t76:=Tryz.underlying147
 a76:=Tryz.isAgg147
 z76:=Tryz.sizeOf147
 v76:=Tryz.zeroValue147
 t85:=Tryz.underlying175
 a85:=Tryz.isAgg175
 z85:=Tryz.sizeOf175
 v85:=Tryz.zeroValue175
 t127:=Tryz.underlying153
 a127:=Tryz.isAgg153
 z127:=Tryz.sizeOf153
 v127:=Tryz.zeroValue153
 t143:=Tryz.underlying190
 a143:=Tryz.isAgg190
 z143:=Tryz.sizeOf190
 v143:=Tryz.zeroValue190
 t145:=Tryz.underlying192
 a145:=Tryz.isAgg192
 z145:=Tryz.sizeOf192
 v145:=Tryz.zeroValue192
 t167:=Tryz.underlying174
 a167:=Tryz.isAgg174
 z167:=Tryz.sizeOf174
 v167:=Tryz.zeroValue174
 t168:=Tryz.underlying177
 a168:=Tryz.isAgg177
 z168:=Tryz.sizeOf177
 v168:=Tryz.zeroValue177
 t171:=Tryz.underlying157
 a171:=Tryz.isAgg157
 z171:=Tryz.sizeOf157
 v171:=Tryz.zeroValue157
 t173:=Tryz.underlying161
 a173:=Tryz.isAgg161
 z173:=Tryz.sizeOf161
 v173:=Tryz.zeroValue161
 t175:=Tryz.underlying181
 a175:=Tryz.isAgg181
 z175:=Tryz.sizeOf181
 v175:=Tryz.zeroValue181
 t210:=Tryz.underlying184
 a210:=Tryz.isAgg184
 z210:=Tryz.sizeOf184
 v210:=Tryz.zeroValue184
 t212:=Tryz.underlying171
 a212:=Tryz.isAgg171
 z212:=Tryz.sizeOf171
 v212:=Tryz.zeroValue171
 t213:=Tryz.underlying172
 a213:=Tryz.isAgg172
 z213:=Tryz.sizeOf172
 t232:=Tryz.underlying187
 a232:=Tryz.isAgg187
 z232:=Tryz.sizeOf187
 v232:=Tryz.zeroValue187
 t233:=Tryz.underlying188
 a233:=Tryz.isAgg188
 z233:=Tryz.sizeOf188
 v233:=Tryz.zeroValue188
 g15:=by kernel_rfl
 g16:=by kernel_rfl
 g17:=by kernel_rfl
 g18:=by kernel_rfl
 g19:=by kernel_rfl
 t80:=Tryz.underlying131
 a80:=Tryz.isAgg131
 z80:=Tryz.sizeOf131
 v80:=Tryz.zeroValue131
 i0:=by kernel_rfl
 i2:=by kernel_rfl
 i3:=by kernel_rfl
 i4:=by kernel_rfl
 i5:=by kernel_rfl
 i9:=by kernel_rfl
 i20:=by kernel_rfl
 i21:=by kernel_rfl
 i37:=by kernel_rfl
 i46:=by kernel_rfl
 i51:=by kernel_rfl
 i53:=by kernel_rfl
 i75:=by kernel_rfl
 i76:=by kernel_rfl
 i80:=by kernel_rfl
 i85:=by kernel_rfl
 i127:=by kernel_rfl
 i143:=by kernel_rfl
 i145:=by kernel_rfl
 i167:=by kernel_rfl
 i168:=by kernel_rfl
 i171:=by kernel_rfl
 i173:=by kernel_rfl
 i175:=by kernel_rfl
 i210:=by kernel_rfl
 i212:=by kernel_rfl
 i232:=by kernel_rfl
 i233:=by kernel_rfl
 m15:=by kernel_rfl
 m16:=by kernel_rfl
 m17:=by kernel_rfl
 m18:=by kernel_rfl
 m19:=by kernel_rfl
 c0:=by kernel_rfl
 c2:=by kernel_rfl
 c3:=by kernel_rfl
 c4:=by kernel_rfl
 c5:=by kernel_rfl
 c9:=by kernel_rfl
 c20:=by kernel_rfl
 c21:=by kernel_rfl
 c37:=by kernel_rfl
 c46:=by kernel_rfl
 c51:=by kernel_rfl
 c53:=by kernel_rfl
 c75:=by kernel_rfl
 c76:=by kernel_rfl
 c80:=by kernel_rfl
 c85:=by kernel_rfl
 c127:=by kernel_rfl
 c143:=by kernel_rfl
 c145:=by kernel_rfl
 c167:=by kernel_rfl
 c168:=by kernel_rfl
 c171:=by kernel_rfl
 c173:=by kernel_rfl
 c175:=by kernel_rfl
 c210:=by kernel_rfl
 c212:=by kernel_rfl
 c213:=by kernel_rfl
 c232:=by kernel_rfl
 c233:=by kernel_rfl }
def Z83 (s:Bs):Option (Int×Bool):=atoiC s
def Z83_q (s:Bs):Option (Int×Bool):=Z83 s
theorem Z83_eq (s:Bs):Z83 s=Z83_q s:=rfl
theorem Z83_walk {a0:Bs}{oE:Ab.Obj}{gE:Nat}{r:Int×Bool}(hE:Z83 a0=some r) (H:Heap) (hgE:H gE=some oE) (hoE:IsErr Tryz.prog oE):AC Tryz.prog 114 [.d (.str a0)] H fun v h'=>v=.tup [.d (.int .i64 r.1),.d (errE 177 r.2)]/\h'=H:=atoi_calls Tryz.lay114 hE rfl rfl hgE hoE
end
section
variable [IsLoud lou]
def Z100_j9 (a0:Bs)  :Option (Int×Int):=(Z83 a0).bind fun x11=>bif x11.2 then(some ((0:Int),(4:Int))) else(some (x11.1,(0:Int)))
def Z100_l19 (a0:Bs) (x3:Bs) :Nat->Nat->Option (Int×Int)
 | 0,_=>none
 | n19+1,s29_20=>bif (decide (((s29_20:Nat):Int)<((x3.length:Nat):Int))) then((x3[s29_20]?).bind fun x27=>guardO (!(decide (((x27.toNat:Nat):Int)<(48:Int)))) (x3[s29_20]?) (0:UInt8) fun x28=>bif ((decide (((x27.toNat:Nat):Int)<(48:Int)))||(decide ((57:Int)<((x28.toNat:Nat):Int)))) then(some ((0:Int),(3:Int))) else((Z100_l19 a0 x3 n19) (s29_20+1))) else(Z100_j9 a0  )
def Z100 (a0:Bs):Option (Int×Int):=(Z98 a0 ([45]:Bs)).bind fun x3=>guardO (!((x3==([]:Bs)))) (x3[0]?) (0:UInt8) fun x6=>bif (((x3==([]:Bs)))||((decide (((x6.toNat:Nat):Int)=(48:Int)))&&((decide ((1:Int)<((x3.length:Nat):Int)))||(decide ((1:Int)<((a0.length:Nat):Int)))))) then(some ((0:Int),(3:Int))) else(Z100_l19 a0 x3 (x3.length+1) 0)
theorem Z100_walk {a0:Bs}{oE:Ab.Obj}{gE:Nat}{r:Int×Int}(hE:Z100 a0=some r) (H:Heap) (hgE:H gE=some oE) (hoE:IsErr Tryz.prog oE):AC Tryz.prog 84 [.d (.str a0)] H fun v h'=>v=.tup [.d (.int .i64 r.1),.d (.int .i64 r.2)]/\h'=H:=by
 unfold Z100 at hE;refine AC.oW 51 [.tmp 2,.tmp 3] Tryz.call84 Tryz.func84 ?_;refine seqR (S As (S As (nil ?_)));refine seqR (S Mv ?_);obtain⟨x3,gx3,hE⟩:=bO hE;refine Sc rfl rfl (Z98_walk gx3) ?_;refine S As (nil ?_);refine seqK fun K4 hK4=>?_;refine seqR (S Mv (S BS (S Mv (G0 Mv ?_))));obtain⟨x6,gx6,hE⟩:=gO hE;refine gC rfl rfl (fun hC=>ungdA (k:=13) rfl (idxSn (n:=0) (TK rfl) rfl rfl rfl (gx6 hC))) rfl ?_
 refine G1 14 rfl BI ?_;refine G1 15 rfl Mv ?_;refine G0 Mv ?_;refine gC rfl rfl (fun hC=>ungdA (k:=17) rfl (lenS (TK rfl) rfl rfl rfl)) rfl ?_;refine G1 18 rfl BI ?_;refine G1 19 rfl Mv ?_;refine G0 Mv ?_;refine gC rfl rfl (fun hC=>ungdA (k:=21) rfl (lenS (TK rfl) rfl rfl rfl)) rfl ?_;refine G1 22 rfl BI ?_;refine gC rfl rfl (fun hC=>ungdA (k:=20) rfl (pickOrA rfl rfl rfl)) rfl ?_;refine gC rfl rfl (fun hC=>ungdA (k:=16) rfl (pickAndA rfl rfl rfl)) rfl ?_
 refine S PO (nil ?_);refine cE hE (fun hc7 hE=>?_) (fun hc7 hE=>?_)
 ·refine seqR (S As (S As (nil ?_)));exact rt hE
 refine sk hK4 ?_;clear hK4 K4;refine seqJH (TA 0 kN) (fun(z:Unit)=>[]) (fun z=>H) (fun z=>Z100_j9 a0 =some r) ?_ ?_
 ·intro K9 hK9;refine seqR (S Mv ?_);refine sLenS (TK rfl) rfl rfl rfl rfl fun hL18=>?_;refine S Mv (nil ?_);refine block ?_;refine loopH (TA 0 (TA 4 (TA 28 kN))) (fun(z:Nat×Nat)=>[(29,.a (.d (.int .i64 ((z.2:Nat):Int))))]) (fun z=>H) (fun z=>z.1) (fun z=>Z100_l19 a0 x3 z.1 z.2=some r) ((x3.length+1),0) hE wA ?_;rintro ⟨n19,s29_20⟩ hE K19 hK19;try dsimp only at hE
  cases n19 with
  | zero=>cases hE
  | succ n19 =>
    rw [Z100_l19] at hE;refine seqR (S BI (nil ?_));refine seqK fun K22 hK22=>?_;refine cE hE (fun hc23 hE=>?_) (fun hc23 hE=>?_)
    ·try dsimp only at hc23
     have hf23:=oD hc23;refine sk hK22 ?_;clear hK22 K22;refine seqK fun K24 hK24=>?_;refine block ?_;refine seqR (S Mv (S As (nil ?_)));refine seqR (S Mv (S Mv ?_));obtain⟨x27,gx27,hE⟩:=bO hE;refine s0 (idxSn (n:=s29_20) (TK rfl) rfl rfl rfl gx27) rfl ?_;refine S BI (S Mv (G0 Mv (G0 Mv ?_)));obtain⟨x28,gx28,hE⟩:=gO hE;refine gC rfl rfl (fun hC=>ungdA (k:=37) rfl (ungdA (k:=38) rfl (idxSn (n:=s29_20) (TK rfl) rfl rfl rfl (gx28 hC)))) rfl ?_
     refine G1 39 rfl BI ?_;refine S PO (nil ?_);refine cE hE (fun hc29 hE=>?_) (fun hc29 hE=>?_)
     ·refine seqR (S As (S As (nil ?_)));exact rt hE
     refine sk hK24 ?_;clear hK24 K24;refine region ?_;refine SI ?_;refine S Mv (nil ?_);exact hK19 _ (n19,(s29_20+1)) wA hE (nS _)
    refine AWp.exit ?_;exact hK9 _ () wA hE
 rintro _ hE;try dsimp only at hE
 unfold Z100_j9 at hE;refine seqR (S Mv ?_);obtain⟨x11,gx11,hE⟩:=bO hE;refine s0 (callR rfl rfl (Z83_walk (gE:=gE) (oE:=oE) gx11 _ hpG (by assumption))) rfl ?_;refine S Mv (S EX (S EX (S As (S As (nil ?_)))));refine seqK fun K12 hK12=>?_;refine seqR (S Mv ?_);refine s0 (neErr (TK rfl) rfl rfl) rfl ?_;refine nil ?_;refine cE hE (fun hc14 hE=>?_) (fun hc14 hE=>?_)
 ·refine seqR (S As (S As (nil ?_)));exact rt hE
 refine sk hK12 ?_;clear hK12 K12;refine seqR (S Mv (S As (S As (nil ?_))));exact rt hE
end
/-- A step of the scan for a literal's end: whether it goes on, and whether the next byte is skipped. -/
def token_litStep (sq_:Bool) (c:Int):Bool×Bool:=bif sq_ then(true,false) else(!decide (c=(34:Int)),decide (c=(92:Int)))
def token_litSpan (s:Bs):Nat->Int->Bool->Option (Int×Bool)
 | 0,_,_=>none
 | n+1,i,sq_=>bif decide (i<((s.length:Nat):Int)) then((idxC s i).bind fun x=>bif (token_litStep sq_ (IntKind.wrap .i32 ((x.toNat:Nat):Int))).1 then((addC i (1:Int)).bind fun i2=>token_litSpan s n i2 (token_litStep sq_ (IntKind.wrap .i32 ((x.toNat:Nat):Int))).2) else some (i,(token_litStep sq_ (IntKind.wrap .i32 ((x.toNat:Nat):Int))).2)) else some (i,sq_)
def Z106 (a0:Bs) (a1:Int):Option Int:=(addC a1 (1:Int)).bind fun x9=>(token_litSpan a0 F0 x9 false).bind fun x11=>bif decide (((a0.length:Nat):Int)<=x11.1) then some (-1:Int) else(addC x11.1 (1:Int)).bind fun x17=>some x17
theorem gH_ {P:Program}{ops:Array Oper}{rest:List Oper}{Q:St->Prop}{n d gi dg:Nat}{op:Op}{ty:TypeId}{pos:String}{aft:Array Edge}{b want:Bool}{ts:Ts}{ls:List (List D)}{h h':Heap}{v:V}(hg:(ops[gi]?).bind (·.dst)=some dg) (hb:get ts dg=.a (.d (.bool b))) (hw:b=want)
  (hs:Cert P ⟨some d,op,ty,pos,aft,some (gi,want)⟩ ts ls h { rh:=true,wh:=true } v ls h') (hd:Nat.blt d n=true) (hr:AOps P ops rest Q ⟨n,(d,v)::ts,ls,h'⟩):AOps P ops (⟨some d,op,ty,pos,aft,some (gi,want)⟩::rest) Q ⟨n,ts,ls,h⟩ :=
 AOps.stepW hs (guardOf_mk hg) hb hw hd hr
theorem token_lit1_walk {a0:Int}{sq_:Bool}{c1:Nat}(H:Heap) (hc1:H c1=some (.cells [.bool sq_])):AC Tryz.prog 115 [.d (.int .i32 a0),.d (.ptr c1 0)] H fun v h'=>v=.a (.d (.bool (token_litStep sq_ a0).1))/\h'=H.set c1 (some (.cells [.bool (token_litStep sq_ a0).2])):=by
 refine AC.oW 9 [.tmp 3] Tryz.call115 Tryz.func115 ?_;refine seqR (S As (nil ?_));cases sq_ with
 | true =>
  refine seqK fun K2 hK2=>?_;refine seqR ?_;refine s0 (loadP (TK rfl) rfl rfl hc1 rfl) rfl ?_;refine nil ?_;refine AWp.condT rfl rfl ?_;refine seqR ?_;refine sHn (storeP1 (TK rfl) rfl rfl hc1 rfl SetAt.zero) rfl rfl ?_;refine nil ?_;refine seqR (S As (nil ?_));refine AWp.ret ?_;repeat (first|refine xBlock_ret ?_|refine xThen_ret ?_)
  refine retQ.retF _ rfl ⟨rfl,rfl⟩ ?_;exact(fun _ _ h=>h)
 | false =>
  refine seqK fun K2 hK2=>?_;refine seqR ?_;refine s0 (loadP (TK rfl) rfl rfl hc1 rfl) rfl ?_;refine nil ?_;refine AWp.condF rfl rfl ?_;refine sk hK2 ?_;clear hK2 K2;refine seqR (S Mv (S BI ?_));refine sHn (storeP1 (TK rfl) rfl rfl hc1 rfl SetAt.zero) rfl rfl ?_;refine nil ?_;refine seqR (S Mv (S BI (S As (nil ?_))));refine AWp.ret ?_;repeat (first|refine xBlock_ret ?_|refine xThen_ret ?_)
  refine retQ.retF _ rfl ⟨rfl,rfl⟩ ?_;exact(fun _ _ h=>h)
theorem token_litSpan_walk {a0:Bs}{a1:Int}{sq_:Bool}{c2:Nat}{r:Int×Bool}(hE:token_litSpan a0 F0 a1 sq_=some r) (H:Heap) (hc2:H c2=some (.cells [.bool sq_])) :
  AC Tryz.prog 82 [.d (.str a0),.d (.int .i64 a1),.d (.func 115 [.ptr c2 0])] H fun v h'=>v=.a (.d (.int .i64 r.1))/\h'=H.set c2 (some (.cells [.bool r.2])):=by
 refine AC.oW 22 [.tmp 6] Tryz.call82 Tryz.func82 ?_;refine AWp.heqA (h':=H.set c2 (some (.cells [.bool sq_]))) (Heap.set_self H c2 _ hc2).symm ?_;refine seqR (S As (nil ?_));refine seqJH kN (fun(z:Int×Bool)=>[(1,.a (.d (.int .i64 z.1)))]) (fun z=>H.set c2 (some (.cells [.bool z.2]))) (fun z=>some z=some r) ?_ ?_
 ·intro K2 hK2;refine block ?_;refine loopH (TA 0 (TA 2 kN)) (fun(z:Nat×Int×Bool)=>[(1,.a (.d (.int .i64 z.2.1)))]) (fun z=>H.set c2 (some (.cells [.bool z.2.2]))) (fun z=>z.1) (fun z=>token_litSpan a0 z.1 z.2.1 z.2.2=some r) (F0,a1,sq_) hE wA ?_;rintro ⟨n5,s1,sq1⟩ hE K5 hK5;try dsimp only at hE
  cases n5 with
  | zero=>cases hE
  | succ n5 =>
    rw [token_litSpan] at hE;refine seqK fun K7 hK7=>?_;refine seqK fun K8 hK8=>?_;refine region ?_;refine S Mv (S Mv ?_);refine sLenS (TK rfl) rfl rfl rfl rfl fun hL9=>?_;refine S BI (S Mv ?_);cases hC:decide (s1<((a0.length:Nat):Int)) with
    | false =>
     rw [hC] at hE;have e9:r=(s1,sq1):=(oJ hE).symm;subst e9;refine AOps.gS rfl rfl rfl rfl ?_;refine AOps.gS rfl rfl rfl rfl ?_;refine AOps.gS rfl rfl rfl rfl ?_;refine AOps.gS rfl rfl rfl rfl ?_;refine AOps.gS rfl rfl rfl rfl ?_;refine AOps.gS rfl rfl rfl rfl ?_;refine s0 (pickF rfl rfl (by conv=>lhs; whnf)) rfl ?_;refine nil ?_;refine hK8 _ ?_;clear hK8 K8;refine AWp.condF rfl rfl ?_
     refine AWp.exit ?_;exact hK2 _ (s1,sq1) wA rfl
    | true =>
     rw [hC] at hE;refine AOps.g0 rfl rfl rfl moveA rfl ?_;refine AOps.g0 rfl rfl rfl moveA rfl ?_;refine AOps.g0 rfl rfl rfl moveA rfl ?_;obtain⟨x10,gx10,hE⟩:=bO hE;refine AOps.g0 rfl rfl rfl (idxS (TK rfl) rfl rfl rfl gx10) rfl ?_;refine AOps.g0 rfl rfl rfl (convI (TK rfl) (TK rfl) rfl rfl) rfl ?_;refine gH_ rfl rfl rfl (callH rfl rfl (token_lit1_walk _ (Heap.set_same ..))) rfl ?_;rw [Heap.set_set]
     cases hR:(token_litStep sq1 (IntKind.wrap .i32 ((x10.toNat:Nat):Int))).1 with
     | false =>
      rw [hR] at hE;have e9:r=_:=(oJ hE).symm;subst e9;refine s0 (pickT rfl rfl (by conv=>lhs; whnf)) rfl ?_;refine nil ?_;refine hK8 _ ?_;clear hK8 K8;refine AWp.condF rfl rfl ?_;refine AWp.exit ?_;exact hK2 _ (s1,_) wA rfl
     | true =>
      rw [hR] at hE;obtain⟨x13,gx13,hE⟩:=bO hE;refine s0 (pickT rfl rfl (by conv=>lhs; whnf)) rfl ?_;refine nil ?_;refine hK8 _ ?_;clear hK8 K8;refine AWp.condT rfl rfl ?_;refine sk hK7 ?_;clear hK7 K7;refine block ?_;refine region ?_;refine S Mv ?_;refine s0 (addM rfl rfl gx13) rfl ?_;refine S As (nil ?_);exact hK5 _ (n5,x13,_) wA hE (nS _)
 rintro ⟨s1,sq1⟩ hE;have e9:r=(s1,sq1):=(oJ hE).symm;subst e9;refine seqR (S Mv (S As (nil ?_)));refine AWp.ret ?_;repeat (first|refine xBlock_ret ?_|refine xThen_ret ?_)
 refine retQ.retF _ rfl ⟨rfl,rfl⟩ ?_;exact(fun _ _ h=>h)
theorem Z106_walk {a0:Bs}{a1 r:Int}(hE:Z106 a0 a1=some r) (H:Heap):AC Tryz.prog 85 [.d (.str a0),.d (.int .i64 a1)] H fun v h'=>v=.a (.d (.int .i64 r))/\h'=H:=by
 unfold Z106 at hE;refine AC.oW 18 [.tmp 4] Tryz.call85 Tryz.func85 ?_;refine seqR (S As (nil ?_));refine seqR ?_;refine sE (StepE.allocO (TK rfl) rfl) rfl (fun _ _ _ ⟨id5,hid5,e1,e2,e3⟩=>?_); subst e1 e2 e3;refine sHn (storeP1 (TK rfl) rfl rfl (Heap.set_same ..) rfl SetAt.zero) rfl rfl ?_;refine AOps.heq (h':=H.set id5 (some (.cells [.bool false]))) (by rw [Heap.set_set]) ?_;refine nil ?_;refine seqR (S Mv (S Mv ?_))
 obtain⟨x9,gx9,hE⟩:=bO hE;refine s0 (addM rfl rfl gx9) rfl ?_;refine s0 (makeFunc rfl) rfl ?_;obtain⟨x11,gx11,hE⟩:=bO hE;refine sH (callH rfl rfl (token_litSpan_walk gx11 _ (Heap.set_same ..))) rfl ?_;refine AOps.heq (h':=H.set id5 (some (.cells [.bool x11.2]))) (by rw [Heap.set_set]) ?_;refine S As (nil ?_);refine seqK fun K4 hK4=>?_;refine seqR (S Mv (S Mv ?_));refine sLenS (TK rfl) rfl rfl rfl rfl fun hL9=>?_
 refine S BI (nil ?_);refine cE hE (fun hc6 hE=>?_) (fun hc6 hE=>?_)
 ·obtain rfl:=oJ hE;refine seqR (S As (nil ?_));refine AWp.ret ?_;repeat (first|refine xBlock_ret ?_|refine xThen_ret ?_)
  refine retQ.retF H rfl ⟨rfl,rfl⟩ ?_;exact Heap.sub_set hid5
 refine sk hK4 ?_;clear hK4 K4;refine seqR (S Mv ?_);obtain⟨x17,gx17,hE⟩:=bO hE;obtain rfl:=oJ hE;refine s0 (addM rfl rfl gx17) rfl ?_;refine S As (nil ?_);refine AWp.ret ?_;repeat (first|refine xBlock_ret ?_|refine xThen_ret ?_)
 refine retQ.retF H rfl ⟨rfl,rfl⟩ ?_;exact Heap.sub_set hid5
end Go.Proofs

namespace Go.Proofs
open Go Go.Ab
open AOps Cert AWp Keeps KeepsT
variable {lou:Lou}
def Tryz.lay124_ren:Go.Shelf.Ren:=⟨fun|240=>124|276=>140|n=>n,fun|0=>0|4=>4|9=>9|20=>20|70=>125|72=>127|164=>167|37=>111|n=>n,fun|n=>n⟩
theorem Tryz.lay124:Go.Proofs.Lays.n240 Tryz.prog Tryz.lay124_ren:={
 mixed:=by kernel_rfl
 f240:=Tryz.func124.trans (congrArg some (by kernel_rfl))
 f276:=Tryz.func140.trans (congrArg some (by kernel_rfl))
 t0:=Tryz.underlying0
 a0:=Tryz.isAgg0
 z0:=Tryz.sizeOf0
 v0:=Tryz.zeroValue0
 t4:=Tryz.underlying4
 a4:=Tryz.isAgg4
 z4:=Tryz.sizeOf4
 v4:=Tryz.zeroValue4
 t9:=Tryz.underlying9
 a9:=Tryz.isAgg9
 z9:=Tryz.sizeOf9
 v9:=Tryz.zeroValue9
 t20:=Tryz.underlying20
 a20:=Tryz.isAgg20
 z20:=Tryz.sizeOf20
 v20:=Tryz.zeroValue20
 t70:=Tryz.underlying125
 a70:=Tryz.isAgg125
 z70:=Tryz.sizeOf125
 v70:=Tryz.zeroValue125
 t72:=Tryz.underlying127
 a72:=Tryz.isAgg127
 z72:=Tryz.sizeOf127
 v72:=Tryz.zeroValue127
 t164:=Tryz.underlying167
 a164:=Tryz.isAgg167
 z164:=Tryz.sizeOf167
 v164:=Tryz.zeroValue167 }
def Z88 (a0:Strings_Builder):Option Strings_Builder:=some ⟨true,a0.Fbuf⟩
theorem Z88_walk {a0:Strings_Builder}{c0 c0_1:Nat}{r:Strings_Builder}(hE:Z88 a0=some r) (H:Heap) (hc0:H c0=some (.tcells 127 (Strings_Builder.cg c0 (some c0_1) a0))) (ht0_1:H c0_1=some (.tok 1 a0.Fbuf.l.length (some 5))):AC Tryz.prog 124 [.d (.ptr c0 0)] H fun v h'=>v=.tup []/\h'=((H.set c0_1 (some (.tok 1 r.Fbuf.l.length (some 5)))).set c0 (some (.tcells 127 (Strings_Builder.cg c0 (some c0_1) r)))):=by
 obtain rfl:=oJ hE;refine(bld_check (T:=127) Tryz.lay124 ⟨by kernel_rfl,by kernel_rfl⟩ rfl rfl hc0).mono fun v h' e=>⟨e.1, ?_⟩;rw [e.2];show _=Heap.set (Heap.set H c0_1 _) _ _;rw [Heap.set_self H c0_1 _ ht0_1]
def Z86 (a0:Strings_Builder) (a1:Int):Option (Bool×Strings_Builder):=(Z88 a0).bind fun x3=>(appC 1 x3.Fbuf (⟨false,[a1]⟩:Sl Int)).bind fun x5=>some (false,(Strings_Builder.mk x3.Faddr x5))
theorem Z86_walk {a0:Strings_Builder}{a1:Int}{c0 c0_1:Nat}{r:Bool×Strings_Builder}(hE:Z86 a0 a1=some r) (H:Heap) (hc0:H c0=some (.tcells 127 (Strings_Builder.cg c0 (some c0_1) a0))) (ht0_1:H c0_1=some (.tok 1 a0.Fbuf.l.length (some 5))):AC Tryz.prog 99 [.d (.ptr c0 0),.d (.int .u8 a1)] H fun v h'=>v=.a (.d (errE 177 r.1))/\h'=((H.set c0_1 (some (.tok 1 r.2.Fbuf.l.length (some 5)))).set c0 (some (.tcells 127 (Strings_Builder.cg c0 (some c0_1) r.2)))):=by
 unfold Z86 at hE;refine AC.oW 17 [.tmp 4] Tryz.call99 Tryz.func99 ?_;have ne_c0_c0_1:c0≠c0_1:=fun e_=>by subst e_; simp_all
 refine AWp.heqA (h':=((H.set c0_1 (some (.tok 1 a0.Fbuf.l.length (some 5)))).set c0 (some (.tcells 127 (Strings_Builder.cg c0 (some c0_1) a0))))) (by funext n_; simp only [Heap.set]; (repeat' split)<;>simp_all) ?_;refine seqR (S As (nil ?_));refine seqR (S Mv ?_);obtain⟨x3,gx3,hE⟩:=bO hE;refine sH (callH rfl rfl (Z88_walk gx3 _ hpG hpG)) rfl ?_;refine hq ((H.set c0_1 (some (.tok 1 x3.Fbuf.l.length (some 5)))).set c0 (some (.tcells 127 (Strings_Builder.cg c0 (some c0_1) x3)))) ?_
 refine nil ?_;refine seqR (S Mv (S Mv (S NP ?_)));refine s0 (fieldP (TK rfl) rfl rfl (TK rfl) rfl rfl) rfl ?_;refine s0 (loadPT (TK rfl) rfl rfl hpG rfl) rfl ?_;refine S Mv (S BV ?_);obtain⟨x5,gx5,hE⟩:=bO hE;refine sH (appMT (TK rfl) rfl (TK rfl) (TK rfl) ⟨_,rfl⟩ rfl rfl (by decide) rfl rfl rfl rfl hpG rfl rfl gx5) rfl ?_;refine hq ((H.set c0_1 (some (.tok 1 x5.l.length (some 5)))).set c0 (some (.tcells 127 (Strings_Builder.cg c0 (some c0_1) x3)))) ?_
 refine S NP ?_;refine s0 (fieldP (TK rfl) rfl rfl (TK rfl) rfl rfl) rfl ?_;refine sHn (storePT (TK rfl) rfl rfl hpG rfl (by repeat (first|exact SetAt.zero|apply SetAt.succ))) rfl rfl ?_;refine hq ((H.set c0_1 (some (.tok 1 x5.l.length (some 5)))).set c0 (some (.tcells 127 (Strings_Builder.cg c0 (some c0_1) (Strings_Builder.mk x3.Faddr x5))))) ?_;refine nil ?_;refine seqR (S As (nil ?_));exact rt hE
def Tryz.lay100_ren:Go.Shelf.Ren:=⟨fun|169=>100|n=>n,fun|70=>125|9=>9|0=>0|72=>127|37=>111|127=>153|3=>3|5=>5|n=>n,fun|n=>n⟩
theorem Tryz.lay100:Go.Proofs.Lays.n169 Tryz.prog Tryz.lay100_ren:={
 mixed:=by kernel_rfl
 f169:=Tryz.func100.trans (congrArg some (by kernel_rfl))
 t0:=Tryz.underlying0
 a0:=Tryz.isAgg0
 z0:=Tryz.sizeOf0
 v0:=Tryz.zeroValue0
 t3:=Tryz.underlying3
 a3:=Tryz.isAgg3
 z3:=Tryz.sizeOf3
 v3:=Tryz.zeroValue3
 t9:=Tryz.underlying9
 a9:=Tryz.isAgg9
 z9:=Tryz.sizeOf9
 v9:=Tryz.zeroValue9
 t37:=Tryz.underlying111
 a37:=Tryz.isAgg111
 z37:=Tryz.sizeOf111
 v37:=Tryz.zeroValue111
 t70:=Tryz.underlying125
 a70:=Tryz.isAgg125
 z70:=Tryz.sizeOf125
 v70:=Tryz.zeroValue125
 t72:=Tryz.underlying127
 a72:=Tryz.isAgg127
 z72:=Tryz.sizeOf127
 v72:=Tryz.zeroValue127
 t127:=Tryz.underlying153
 a127:=Tryz.isAgg153
 z127:=Tryz.sizeOf153
 v127:=Tryz.zeroValue153 }
theorem Tryz.extra100:Builder.Extra Tryz.prog Tryz.lay100_ren where
 sizeBuilder:=by kernel_rfl
 liesBuilder:=by kernel_rfl
 t5:=Tryz.underlying5
 a5:=Tryz.isAgg5
 z5:=Tryz.sizeOf5
 v5:=Tryz.zeroValue5
 infoByte:=by kernel_rfl
 cellsByte:=by kernel_rfl
 sizeByte:=by kernel_rfl
 neB5:=by decide
def Z85 (a0:Strings_Builder):Option Bs:=bldStr a0
theorem Z85_walk {a0:Strings_Builder}{c0 t0:Nat}{r:Bs}(hE:Z85 a0=some r) (H:Heap) (hc0:H c0=some (.tcells 127 (Strings_Builder.cg c0 (some t0) a0))) (ht0:H t0=some (.tok 1 a0.Fbuf.l.length (some 5))):AC Tryz.prog 100 [.d (.ptr c0 0)] H fun v h'=>v=.a (.d (.str r))/\h'=(H.set t0 none).set c0 none:=bld_string Tryz.lay100 Tryz.extra100 rfl rfl rfl hE hc0 ht0
def Z103_j2  :Option (Int×Bool):=some ((0:Int),false)
def Z103_j5 (a0:Int)  (s5_6:Bool):Option (Int×Bool):=bif s5_6 then(some (a0,true)) else(bif (decide (a0=(98:Int))) then(some ((8:Int),true)) else(bif (decide (a0=(102:Int))) then(some ((12:Int),true)) else(bif (decide (a0=(110:Int))) then(some ((10:Int),true)) else(bif (decide (a0=(114:Int))) then(some ((13:Int),true)) else(bif (decide (a0=(116:Int))) then(some ((9:Int),true)) else(Z103_j2   ))))))
def Z103 (a0:Int):Option (Int×Bool):=bif (decide (a0=(34:Int))) then(Z103_j5 a0  (decide (a0=(34:Int)))) else(bif (decide (a0=(92:Int))) then(Z103_j5 a0  (decide (a0=(92:Int)))) else(Z103_j5 a0  (decide (a0=(47:Int)))))
theorem Z103_walk {a0:Int}{r:Int×Bool}(hE:Z103 a0=some r) (H:Heap) :AC Tryz.prog 116 [.d (.int .u8 a0)] H fun v h'=>v=.tup [.d (.int .u8 r.1),.d (.bool r.2)]/\h'=H:=by
 unfold Z103 at hE;refine AC.oW 20 [.tmp 2,.tmp 3] Tryz.call116 Tryz.func116 ?_;refine seqR (S As (S As (nil ?_)));refine seqJH kN (fun(z:Unit)=>[]) (fun z=>H) (fun z=>Z103_j2 =some r) ?_ ?_
 ·intro K2 hK2;refine seqR (S Mv (nil ?_));refine block ?_;refine seqJH (TA 0 (TA 4 kN)) (fun(z:Bool)=>[(5,.a (.d (.bool z)))]) (fun z=>H) (fun z=>Z103_j5 a0 z=some r) ?_ ?_
  ·intro K5 hK5;refine seqR (S BI (S As (nil ?_)));refine cE hE (fun hc25 hE=>?_) (fun hc25 hE=>?_)
   ·refine AWp.skip ?_;exact hK5 _ (decide (a0=(34:Int))) wA hE
   refine seqR (S BI (S As (nil ?_)));refine cE hE (fun hc27 hE=>?_) (fun hc27 hE=>?_)
   ·refine AWp.skip ?_;exact hK5 _ (decide (a0=(92:Int))) wA hE
   refine region ?_;refine S BI (S As (nil ?_));exact hK5 _ (decide (a0=(47:Int))) wA hE
  rintro s5_6 hE;try dsimp only at hE
  unfold Z103_j5 at hE;refine cE hE (fun hc7 hE=>?_) (fun hc7 hE=>?_)
  ·refine seqR (S Mv (S As (S As (nil ?_))));exact rt hE
  refine seqR (S BI (S As (nil ?_)));refine cE hE (fun hc10 hE=>?_) (fun hc10 hE=>?_)
  ·refine seqR (S As (S As (nil ?_)));exact rt hE
  refine seqR (S BI (S As (nil ?_)));refine cE hE (fun hc13 hE=>?_) (fun hc13 hE=>?_)
  ·refine seqR (S As (S As (nil ?_)));exact rt hE
  refine seqR (S BI (S As (nil ?_)));refine cE hE (fun hc16 hE=>?_) (fun hc16 hE=>?_)
  ·refine seqR (S As (S As (nil ?_)));exact rt hE
  refine seqR (S BI (S As (nil ?_)));refine cE hE (fun hc19 hE=>?_) (fun hc19 hE=>?_)
  ·refine seqR (S As (S As (nil ?_)));exact rt hE
  refine seqR (S BI (S As (nil ?_)));refine cE hE (fun hc22 hE=>?_) (fun hc22 hE=>?_)
  ·refine seqR (S As (S As (nil ?_)));exact rt hE
  refine AWp.skip ?_;exact hK2 _ () wA hE
 rintro _ hE;try dsimp only at hE
 unfold Z103_j2 at hE;refine seqR (S As (S As (nil ?_)));exact rt hE
def Tryz.lay117_ren:Go.Shelf.Ren:=⟨fun|137=>117|217=>75|266=>106|n=>n,fun|9=>9|5=>5|3=>3|n=>n,fun|n=>n⟩
theorem Tryz.lay117:Go.Proofs.Lays.n137 Tryz.prog Tryz.lay117_ren:={
 mixed:=by kernel_rfl
 f137:=Tryz.func117.trans (congrArg some (by kernel_rfl))
 f217:=Tryz.func75.trans (congrArg some (by kernel_rfl))
 f266:=Tryz.func106.trans (congrArg some (by kernel_rfl))
 t3:=Tryz.underlying3
 a3:=Tryz.isAgg3
 z3:=Tryz.sizeOf3
 v3:=Tryz.zeroValue3
 t5:=Tryz.underlying5
 a5:=Tryz.isAgg5
 z5:=Tryz.sizeOf5
 v5:=Tryz.zeroValue5
 t9:=Tryz.underlying9
 a9:=Tryz.isAgg9
 z9:=Tryz.sizeOf9
 v9:=Tryz.zeroValue9 }
def Z95 (s:Bs) (c:Int):Option Int:=some (Lib.indexByte s c.toNat.toUInt8)
theorem Z95_walk {a0:Bs}{a1 r:Int}(hE:Z95 a0 a1=some r) (H:Heap):AC Tryz.prog 117 [.d (.str a0),.d (.int .u8 a1)] H fun v h'=>v=.a (.d (.int .i64 r))/\h'=H:=by
 obtain rfl:=oJ hE;exact idxByte_calls Tryz.lay117 rfl
def Z102_j17  (y18_id4_15:Strings_Builder):Option (Bs×Int):=(Z85 y18_id4_15).bind fun x20=>some (x20,(0:Int))
def Z102_j29 (k_next_22:Int->Strings_Builder->Option (Bs×Int)) (s5_30:Int) (y31_id4_15:Strings_Builder):Option (Bs×Int):=(addC s5_30 (1:Int)).bind fun x32=>k_next_22 x32 y31_id4_15
def Z102_j66 (y24_id4_15:Strings_Builder) (x45:Int) (k_next_22:Int->Strings_Builder->Option (Bs×Int)) (s9_67:Int):Option (Bs×Int):=bif (decide ((255:Int)<s9_67)) then(some (([]:Bs),(3:Int))) else((Z86 y24_id4_15 (IntKind.wrap .u8 s9_67)).bind fun x73=>(addC x45 (4:Int)).bind fun x74=>Z102_j29  k_next_22 x74 x73.2)
def Z102_l81 (y24_id4_15:Strings_Builder) (x45:Int) (x79:Sl Int) (k_next_22:Int->Strings_Builder->Option (Bs×Int)):Nat->Int->Nat->Option (Bs×Int)
 | 0,_,_=>none
 | n81+1,s9_82,s92_83=>bif (decide (((s92_83:Nat):Int)<((x79.l.length:Nat):Int))) then((x79.l[s92_83]?).bind fun x89=>(Z95 ([48,49,50,51,52,53,54,55,56,57,97,98,99,100,101,102]:Bs) (IntKind.wrap .u8 ((BitVec.ofInt (IntKind.bits .u8) x89 ||| BitVec.ofInt (IntKind.bits .u8) (32:Int)).toNat:Int))).bind fun x91=>bif (((decide (x91<(0:Int)))||(decide (x89<(48:Int))))||((decide ((57:Int)<x89))&&(decide (x89<(65:Int))))) then(some (([]:Bs),(3:Int))) else((mulC s9_82 (16:Int)).bind fun x96=>(addC x96 x91).bind fun x97=>(Z102_l81 y24_id4_15 x45 x79 k_next_22 n81) x97 (s92_83+1))) else(Z102_j66 y24_id4_15 x45 k_next_22 s9_82)
def Z102_l22 (x13:Bs) :Nat->Int->Strings_Builder->Option (Bs×Int)
 | 0,_,_=>none
 | n22+1,s5_23,y24_id4_15=>bif (decide (s5_23<((x13.length:Nat):Int))) then((idxC x13 s5_23).bind fun x34=>bif (((decide (((x34.toNat:Nat):Int)<(32:Int)))||(decide ((126:Int)<((x34.toNat:Nat):Int))))||(decide (((x34.toNat:Nat):Int)=(34:Int)))) then(some (([]:Bs),(3:Int))) else(bif (!decide (((x34.toNat:Nat):Int)=(92:Int))) then((Z86 y24_id4_15 ((x34.toNat:Nat):Int)).bind fun x43=>Z102_j29  ((Z102_l22 x13 n22)) s5_23 x43.2) else((addC s5_23 (1:Int)).bind fun x45=>bif (decide (x45=((x13.length:Nat):Int))) then(some (([]:Bs),(3:Int))) else((idxC x13 x45).bind fun x53=>(Z103 ((x53.toNat:Nat):Int)).bind fun x54=>bif x54.2 then((Z86 y24_id4_15 x54.1).bind fun x58=>Z102_j29  ((Z102_l22 x13 n22)) x45 x58.2) else((idxC x13 x45).bind fun x61=>guardO (!(!decide (((x61.toNat:Nat):Int)=(117:Int)))) (addC x45 (4:Int)) (0:Int) fun x62=>bif ((!decide (((x61.toNat:Nat):Int)=(117:Int)))||(decide (((x13.length:Nat):Int)<=x62))) then(some (([]:Bs),(3:Int))) else((addC x45 (1:Int)).bind fun x76=>(addC x45 (5:Int)).bind fun x77=>(cutC x13 (some x76) (some x77)).bind fun x78=>(bytesOf x78).bind fun x79=>Z102_l81 y24_id4_15 x45 x79 ((Z102_l22 x13 n22)) (x79.l.length+1) (0:Int) 0)))))) else(Z102_j17   y24_id4_15)
def Z102 (a0:Bs):Option (Bs×Int):=guardO (!(decide (((a0.length:Nat):Int)<(2:Int)))) (a0[0]?) (0:UInt8) fun x5=>guardO (!((decide (((a0.length:Nat):Int)<(2:Int)))||(!decide (((x5.toNat:Nat):Int)=(34:Int))))) (subC ((a0.length:Nat):Int) (1:Int)) (0:Int) fun x6=>guardO (!((decide (((a0.length:Nat):Int)<(2:Int)))||(!decide (((x5.toNat:Nat):Int)=(34:Int))))) (idxC a0 x6) (0:UInt8) fun x7=>bif (((decide (((a0.length:Nat):Int)<(2:Int)))||(!decide (((x5.toNat:Nat):Int)=(34:Int))))||(!decide (((x7.toNat:Nat):Int)=(34:Int)))) then(some (([]:Bs),(3:Int))) else((subC ((a0.length:Nat):Int) (1:Int)).bind fun x12=>(cutC a0 (some (1:Int)) (some x12)).bind fun x13=>Z102_l22 x13 F0 (0:Int) Strings_Builder.zero)
theorem Z102_walk {a0:Bs}{r:Bs×Int}(hE:Z102 a0=some r) (H:Heap) :AC Tryz.prog 86 [.d (.str a0)] H fun v h'=>v=.tup [.d (.str r.1),.d (.int .i64 r.2)]/\h'=H:=by
 unfold Z102 at hE;refine AC.oW 126 [.tmp 2,.tmp 3] Tryz.call86 Tryz.func86 ?_;refine seqR (S As (S As (nil ?_)));refine seqK fun K2 hK2=>?_;refine seqR (S Mv ?_);refine sLenS (TK rfl) rfl rfl rfl rfl fun hL4=>?_;refine S BI (S Mv (G0 Mv ?_));obtain⟨x5,gx5,hE⟩:=gO hE;refine gC rfl rfl (fun hC=>ungdA (k:=17) rfl (idxSn (n:=0) (TK rfl) rfl rfl rfl (gx5 hC))) rfl ?_;refine G1 18 rfl BI ?_;refine S PO (S Mv (G0 Mv (G0 Mv ?_)))
 refine gC rfl rfl (fun hC=>ungdA (k:=23) rfl (lenS (TK rfl) rfl rfl rfl)) rfl ?_;obtain⟨x6,gx6,hE⟩:=gO hE;refine gC rfl rfl (fun hC=>ungdA (k:=24) rfl (subM rfl rfl (gx6 hC))) rfl ?_;obtain⟨x7,gx7,hE⟩:=gO hE;refine gC rfl rfl (fun hC=>ungdA (k:=22) rfl (ungdA (k:=25) rfl (idxS (TK rfl) rfl rfl rfl (gx7 hC)))) rfl ?_;refine G1 26 rfl BI ?_;refine S PO (nil ?_);refine cE hE (fun hc8 hE=>?_) (fun hc8 hE=>?_)
 ·refine seqR (S As (S As (nil ?_)));exact rt hE
 refine sk hK2 ?_;clear hK2 K2;refine seqR (S Mv (S Mv ?_));refine sLenS (TK rfl) rfl rfl rfl rfl fun hL11=>?_;obtain⟨x12,gx12,hE⟩:=bO hE;refine s0 (subM rfl rfl gx12) rfl ?_;obtain⟨x13,gx13,hE⟩:=bO hE;refine s0 (cutM (l:=(some (1:Int))) (r:=(some x12)) (TK rfl) rfl rfl rfl rfl (by simp) gx13) rfl ?_;refine S As (nil ?_);refine seqR ?_;refine AOps.tokE 1 5 fun tk4_16 htk4_16=>?_;refine sE (StepE.allocT (TK rfl) rfl) rfl (fun _ _ _ ⟨id4_15,hid4_15,e1,e2,e3⟩=>?_); subst e1 e2 e3
 obtain⟨ne_id4_15_tk4_16,hid4_15⟩:=Heap.set_fresh hid4_15;refine AOps.recellT id4_15 _ hpG (fun j w cs hh hx=>tok_cell 1 1 1 hh (t:=tk4_16) hpG hx rfl) ?_;refine hq ((H.set tk4_16 (some (.tok 1 0 (some 5)))).set id4_15 (some (.tcells 127 (Strings_Builder.cg id4_15 (some tk4_16) Strings_Builder.zero)))) ?_;refine nil ?_;refine seqJH (TA 4 kN) (fun(z:Strings_Builder)=>[]) (fun z=>((H.set tk4_16 (some (.tok 1 z.Fbuf.l.length (some 5)))).set id4_15 (some (.tcells 127 (Strings_Builder.cg id4_15 (some tk4_16) z))))) (fun z=>Z102_j17 z=some r) ?_ ?_
 ·intro K17 hK17;refine seqR (S As (nil ?_));refine block ?_;refine loopH (TA 0 (TA 4 kN)) (fun(z:Nat×Int×Strings_Builder)=>[(5,.a (.d (.int .i64 z.2.1)))]) (fun z=>((H.set tk4_16 (some (.tok 1 z.2.2.Fbuf.l.length (some 5)))).set id4_15 (some (.tcells 127 (Strings_Builder.cg id4_15 (some tk4_16) z.2.2))))) (fun z=>z.1) (fun z=>Z102_l22 x13 z.1 z.2.1 z.2.2=some r) (F0,(0:Int),Strings_Builder.zero) hE wA ?_
  rintro ⟨n22,s5_23,y24_id4_15⟩ hE K22 hK22;try dsimp only at hE
  cases n22 with
  | zero=>cases hE
  | succ n22 =>
    rw [Z102_l22] at hE;refine seqK fun K25 hK25=>?_;refine seqR (S Mv (S Mv ?_));refine sLenS (TK rfl) rfl rfl rfl rfl fun hL27=>?_;refine S BI (nil ?_);refine cE hE (fun hc28 hE=>?_) (fun hc28 hE=>?_)
    ·refine sk hK25 ?_;clear hK25 K25;refine seqJH (TA 0 (TA 4 kN)) (fun(z:Int×Strings_Builder)=>[(5,.a (.d (.int .i64 z.1)))]) (fun z=>((H.set tk4_16 (some (.tok 1 z.2.Fbuf.l.length (some 5)))).set id4_15 (some (.tcells 127 (Strings_Builder.cg id4_15 (some tk4_16) z.2))))) (fun z=>Z102_j29  ((Z102_l22 x13 n22)) z.1 z.2=some r) ?_ ?_
     ·intro K29 hK29;refine block ?_;refine seqR (S Mv (S Mv ?_));obtain⟨x34,gx34,hE⟩:=bO hE;refine s0 (idxS (TK rfl) rfl rfl rfl gx34) rfl ?_;refine S As (nil ?_);refine seqK fun K35 hK35=>?_;refine seqR (S Mv (S BI (S Mv (G0 Mv ?_))));refine G1 46 rfl BI ?_;refine S PO (S Mv (G0 Mv ?_));refine G1 50 rfl BI ?_;refine S PO (nil ?_);refine cE hE (fun hc37 hE=>?_) (fun hc37 hE=>?_)
      ·refine seqR (S As (S As (nil ?_)));refine AWp.ret ?_;repeat (first|refine xBlock_ret ?_|refine xThen_ret ?_)
       obtain rfl:=oJ hE;refine retQ.retF H rfl ⟨rfl,rfl⟩ ?_;intro id_ o_ he_;have e_tk4_16:id_≠tk4_16:=fun e_=>by subst e_; simp_all [Heap.set]
       have e_id4_15:id_≠id4_15:=fun e_=>by subst e_; simp_all [Heap.set]
       rw [<- he_];simp only [Heap.set] at he_ ⊢
       (repeat' split)<;>simp_all
      refine sk hK35 ?_;clear hK35 K35;refine seqK fun K39 hK39=>?_;refine seqR (S Mv (S BI (nil ?_)));refine cE hE (fun hc41 hE=>?_) (fun hc41 hE=>?_)
      ·refine seqR (S Mv ?_);obtain⟨x43,gx43,hE⟩:=bO hE;refine sH (callH rfl rfl (Z86_walk gx43 _ hpG hpG)) rfl ?_;refine hq ((H.set tk4_16 (some (.tok 1 x43.2.Fbuf.l.length (some 5)))).set id4_15 (some (.tcells 127 (Strings_Builder.cg id4_15 (some tk4_16) x43.2)))) ?_;refine nil ?_;refine AWp.exit ?_;exact hK29 _ (s5_23,x43.2) wA hE
      refine sk hK39 ?_;clear hK39 K39;refine seqR (S Mv ?_);obtain⟨x45,gx45,hE⟩:=bO hE;refine s0 (addM rfl rfl gx45) rfl ?_;refine S As (nil ?_);refine seqK fun K46 hK46=>?_;refine seqR (S Mv (S Mv ?_));refine sLenS (TK rfl) rfl rfl rfl rfl fun hL48=>?_;refine S BI (nil ?_);refine cE hE (fun hc49 hE=>?_) (fun hc49 hE=>?_)
      ·refine seqR (S As (S As (nil ?_)));refine AWp.ret ?_;repeat (first|refine xBlock_ret ?_|refine xThen_ret ?_)
       obtain rfl:=oJ hE;refine retQ.retF H rfl ⟨rfl,rfl⟩ ?_;intro id_ o_ he_;have e_tk4_16:id_≠tk4_16:=fun e_=>by subst e_; simp_all [Heap.set]
       have e_id4_15:id_≠id4_15:=fun e_=>by subst e_; simp_all [Heap.set]
       rw [<- he_];simp only [Heap.set] at he_ ⊢
       (repeat' split)<;>simp_all
      refine sk hK46 ?_;clear hK46 K46;refine seqK fun K51 hK51=>?_;refine seqR (S Mv (S Mv ?_));obtain⟨x53,gx53,hE⟩:=bO hE;refine s0 (idxS (TK rfl) rfl rfl rfl gx53) rfl ?_;obtain⟨x54,gx54,hE⟩:=bO hE;refine Sc rfl rfl (Z103_walk gx54) ?_;refine S Mv (S EX (S EX (S As (S As (nil ?_)))));refine seqR (S Mv (nil ?_));refine cE hE (fun hc56 hE=>?_) (fun hc56 hE=>?_)
      ·refine seqR (S Mv ?_);obtain⟨x58,gx58,hE⟩:=bO hE;refine sH (callH rfl rfl (Z86_walk gx58 _ hpG hpG)) rfl ?_;refine hq ((H.set tk4_16 (some (.tok 1 x58.2.Fbuf.l.length (some 5)))).set id4_15 (some (.tcells 127 (Strings_Builder.cg id4_15 (some tk4_16) x58.2)))) ?_;refine nil ?_;refine AWp.exit ?_;exact hK29 _ (x45,x58.2) wA hE
      refine sk hK51 ?_;clear hK51 K51;refine seqK fun K59 hK59=>?_;refine seqR (S Mv (S Mv ?_));obtain⟨x61,gx61,hE⟩:=bO hE;refine s0 (idxS (TK rfl) rfl rfl rfl gx61) rfl ?_;refine S BI (S Mv (G0 Mv ?_));obtain⟨x62,gx62,hE⟩:=gO hE;refine gC rfl rfl (fun hC=>ungdA (k:=78) rfl (addM rfl rfl (gx62 hC))) rfl ?_;refine G0 Mv ?_;refine gC rfl rfl (fun hC=>ungdA (k:=80) rfl (lenS (TK rfl) rfl rfl rfl)) rfl ?_
      refine G2 79 81 rfl rfl BI ?_;refine S PO (nil ?_);refine cE hE (fun hc63 hE=>?_) (fun hc63 hE=>?_)
      ·refine seqR (S As (S As (nil ?_)));refine AWp.ret ?_;repeat (first|refine xBlock_ret ?_|refine xThen_ret ?_)
       obtain rfl:=oJ hE;refine retQ.retF H rfl ⟨rfl,rfl⟩ ?_;intro id_ o_ he_;have e_tk4_16:id_≠tk4_16:=fun e_=>by subst e_; simp_all [Heap.set]
       have e_id4_15:id_≠id4_15:=fun e_=>by subst e_; simp_all [Heap.set]
       rw [<- he_];simp only [Heap.set] at he_ ⊢
       (repeat' split)<;>simp_all
      refine sk hK59 ?_;clear hK59 K59;refine seqR (S As (nil ?_));refine seqJH (TA 0 (TA 4 (TA 5 kN))) (fun(z:Int)=>[(9,.a (.d (.int .i64 z)))]) (fun z=>((H.set tk4_16 (some (.tok 1 y24_id4_15.Fbuf.l.length (some 5)))).set id4_15 (some (.tcells 127 (Strings_Builder.cg id4_15 (some tk4_16) y24_id4_15))))) (fun z=>Z102_j66 y24_id4_15 x45 ((Z102_l22 x13 n22)) z=some r) ?_ ?_
      ·intro K66 hK66;refine seqR (S Mv (S Mv ?_));obtain⟨x76,gx76,hE⟩:=bO hE;refine s0 (addM rfl rfl gx76) rfl ?_;refine S Mv ?_;obtain⟨x77,gx77,hE⟩:=bO hE;refine s0 (addM rfl rfl gx77) rfl ?_;obtain⟨x78,gx78,hE⟩:=bO hE;refine s0 (cutM (l:=(some x76)) (r:=(some x77)) (TK rfl) rfl rfl rfl rfl (by simp) gx78) rfl ?_;obtain⟨x79,gx79,hE⟩:=bO hE;refine s0 (convSB (TK rfl) rfl (TK rfl) rfl (TK rfl) rfl rfl gx79) rfl ?_
       refine sLen (f:=(intE .u8)) (s:=x79) (TK rfl) rfl rfl rfl rfl fun hL80=>?_;refine S Mv (nil ?_);refine block ?_;refine loopH (TA 0 (TA 4 (TA 5 (TA 90 (TA 91 kN))))) (fun(z:Nat×Int×Nat)=>[(9,.a (.d (.int .i64 z.2.1))),(92,.a (.d (.int .i64 ((z.2.2:Nat):Int))))]) (fun z=>((H.set tk4_16 (some (.tok 1 y24_id4_15.Fbuf.l.length (some 5)))).set id4_15 (some (.tcells 127 (Strings_Builder.cg id4_15 (some tk4_16) y24_id4_15))))) (fun z=>z.1) (fun z=>Z102_l81 y24_id4_15 x45 x79 ((Z102_l22 x13 n22)) z.1 z.2.1 z.2.2=some r) ((x79.l.length+1),(0:Int),0) hE wA ?_
       rintro ⟨n81,s9_82,s92_83⟩ hE K81 hK81;try dsimp only at hE
       cases n81 with
       | zero=>cases hE
       | succ n81 =>
         rw [Z102_l81] at hE;refine seqR (S BI (nil ?_));refine seqK fun K85 hK85=>?_;refine cE hE (fun hc86 hE=>?_) (fun hc86 hE=>?_)
         ·try dsimp only at hc86
          have hf86:=oD hc86;refine sk hK85 ?_;clear hK85 K85;refine seqK fun K87 hK87=>?_;refine block ?_;refine seqR ?_;obtain⟨x89,gx89,hE⟩:=bO hE;refine S (ix (intE .u8) s92_83 gx89) ?_;refine S Ld (S As (nil ?_));refine seqR (S Mv ?_);refine s0 (orI rfl rfl) rfl ?_;obtain⟨x91,gx91,hE⟩:=bO hE;refine Sc rfl rfl (Z95_walk gx91) ?_;refine S As (nil ?_);refine seqK fun K92 hK92=>?_;refine seqR (S Mv (S BI (S Mv (G0 Mv ?_))))
          refine G1 102 rfl BI ?_;refine S PO (S Mv (G0 Mv ?_));refine G1 106 rfl BI ?_;refine G1 107 rfl Mv ?_;refine G0 Mv ?_;refine G1 109 rfl BI ?_;refine gC rfl rfl (fun hC=>ungdA (k:=108) rfl (pickAndA rfl rfl rfl)) rfl ?_;refine S PO (nil ?_);refine cE hE (fun hc94 hE=>?_) (fun hc94 hE=>?_)
          ·refine seqR (S As (S As (nil ?_)));refine AWp.ret ?_;repeat (first|refine xBlock_ret ?_|refine xThen_ret ?_)
           obtain rfl:=oJ hE;refine retQ.retF H rfl ⟨rfl,rfl⟩ ?_;intro id_ o_ he_;have e_tk4_16:id_≠tk4_16:=fun e_=>by subst e_; simp_all [Heap.set]
           have e_id4_15:id_≠id4_15:=fun e_=>by subst e_; simp_all [Heap.set]
           rw [<- he_];simp only [Heap.set] at he_ ⊢
           (repeat' split)<;>simp_all
          refine sk hK92 ?_;clear hK92 K92;refine region ?_;refine S Mv ?_;obtain⟨x96,gx96,hE⟩:=bO hE;refine s0 (mulM rfl rfl gx96) rfl ?_;refine S Mv ?_;obtain⟨x97,gx97,hE⟩:=bO hE;refine s0 (addM rfl rfl gx97) rfl ?_;refine S As (nil ?_);refine hK87 _ ?_;clear hK87 K87;refine region ?_;refine SI ?_;refine S Mv (nil ?_);exact hK81 _ (n81,x97,(s92_83+1)) wA hE (nS _)
         refine AWp.exit ?_;exact hK66 _ s9_82 wA hE
      rintro s9_67 hE;try dsimp only at hE
      unfold Z102_j66 at hE;refine seqK fun K68 hK68=>?_;refine seqR (S Mv (S BI (nil ?_)));refine cE hE (fun hc70 hE=>?_) (fun hc70 hE=>?_)
      ·refine seqR (S As (S As (nil ?_)));refine AWp.ret ?_;repeat (first|refine xBlock_ret ?_|refine xThen_ret ?_)
       obtain rfl:=oJ hE;refine retQ.retF H rfl ⟨rfl,rfl⟩ ?_;intro id_ o_ he_;have e_tk4_16:id_≠tk4_16:=fun e_=>by subst e_; simp_all [Heap.set]
       have e_id4_15:id_≠id4_15:=fun e_=>by subst e_; simp_all [Heap.set]
       rw [<- he_];simp only [Heap.set] at he_ ⊢
       (repeat' split)<;>simp_all
      refine sk hK68 ?_;clear hK68 K68;refine seqR (S Mv ?_);refine s0 (convI (TK rfl) (TK rfl) rfl rfl) rfl ?_;obtain⟨x73,gx73,hE⟩:=bO hE;refine sH (callH rfl rfl (Z86_walk gx73 _ hpG hpG)) rfl ?_;refine hq ((H.set tk4_16 (some (.tok 1 x73.2.Fbuf.l.length (some 5)))).set id4_15 (some (.tcells 127 (Strings_Builder.cg id4_15 (some tk4_16) x73.2)))) ?_;refine nil ?_;refine region ?_;refine S Mv ?_;obtain⟨x74,gx74,hE⟩:=bO hE
      refine s0 (addM rfl rfl gx74) rfl ?_;refine S As (nil ?_);exact hK29 _ (x74,x73.2) wA hE
     rintro ⟨s5_30,y31_id4_15⟩ hE;try dsimp only at hE
     unfold Z102_j29 at hE;refine region ?_;refine S Mv ?_;obtain⟨x32,gx32,hE⟩:=bO hE;refine s0 (addM rfl rfl gx32) rfl ?_;refine S As (nil ?_);exact hK22 _ (n22,x32,y31_id4_15) wA hE (nS _)
    refine AWp.exit ?_;exact hK17 _ y24_id4_15 wA hE
 rintro y18_id4_15 hE;try dsimp only at hE
 unfold Z102_j17 at hE;refine seqR ?_;obtain⟨x20,gx20,hE⟩:=bO hE;refine sH (callH rfl rfl (Z85_walk gx20 _ hpG hpG)) rfl ?_;refine hq H ?_;refine S As (S As (nil ?_));exact rt hE
end Go.Proofs

namespace Go.Proofs
open Go Go.Ab
open AOps Cert AWp Keeps KeepsT
variable {lou:Lou}
section
variable [IsLoud lou]
def Z107 (a0:Bs) (a1:Int):Option (Z8×Int×Int):=(idxC a0 a1).bind fun x3=>(Z91 ([33,36,38,40,41,58,61,64,91,93,123,124,125]:Bs) (IntKind.wrap .i32 ((x3.toNat:Nat):Int))).bind fun x6=>bif x6 then((addC a1 (1:Int)).bind fun x9=>(cutC a0 (some a1) (some x9)).bind fun x10=>(addC a1 (1:Int)).bind fun x11=>some ((Z8.mk (1:Int) x10 a1),x11,(0:Int))) else(bif (decide ((IntKind.wrap .i32 ((x3.toNat:Nat):Int))=(46:Int))) then((cutC a0 (some a1) none).bind fun x16=>(Z92 x16 ([46,46,46]:Bs)).bind fun x17=>bif (!x17) then(some ((Z8.mk (0:Int) ([]:Bs) (0:Int)),(0:Int),(3:Int))) else((addC a1 (3:Int)).bind fun x21=>some ((Z8.mk (1:Int) ([46,46,46]:Bs) a1),x21,(0:Int)))) else(bif ((decide ((IntKind.wrap .i32 ((x3.toNat:Nat):Int))=(45:Int)))||((decide ((48:Int)<=(IntKind.wrap .i32 ((x3.toNat:Nat):Int))))&&(decide ((IntKind.wrap .i32 ((x3.toNat:Nat):Int))<=(57:Int))))) then((addC a1 (1:Int)).bind fun x25=>(Z109 a0 x25 Z105).bind fun x26=>(cutC a0 (some a1) (some x26)).bind fun x28=>(Z100 x28).bind fun x29=>(cutC a0 (some a1) (some x26)).bind fun x31=>some ((Z8.mk (3:Int) x31 a1),x26,x29.2)) else((Z105 (IntKind.wrap .i32 ((x3.toNat:Nat):Int))).bind fun x33=>bif x33 then((Z109 a0 a1 Z105).bind fun x36=>(subC x36 a1).bind fun x39=>bif (decide ((64:Int)<x39)) then(some ((Z8.mk (0:Int) ([]:Bs) (0:Int)),(0:Int),(3:Int))) else((cutC a0 (some a1) (some x36)).bind fun x43=>some ((Z8.mk (2:Int) x43 a1),x36,(0:Int)))) else(bif (decide ((IntKind.wrap .i32 ((x3.toNat:Nat):Int))=(34:Int))) then((Z106 a0 a1).bind fun x47=>bif (decide (x47<(0:Int))) then(some ((Z8.mk (0:Int) ([]:Bs) (0:Int)),(0:Int),(3:Int))) else((cutC a0 (some a1) (some x47)).bind fun x53=>(Z102 x53).bind fun x54=>some ((Z8.mk (4:Int) x54.1 a1),x47,x54.2))) else(some ((Z8.mk (0:Int) ([]:Bs) (0:Int)),(0:Int),(3:Int)))))))
theorem Z107_walk {a0:Bs}{a1:Int}{oE:Ab.Obj}{gE:Nat}{r:Z8×Int×Int}(hE:Z107 a0 a1=some r) (H:Heap) (hgE:H gE=some oE) (hoE:IsErr Tryz.prog oE):AC Tryz.prog 48 [.d (.str a0),.d (.int .i64 a1)] H fun v h'=>v=.tup [.agg (Z8.c r.1),.d (.int .i64 r.2.1),.d (.int .i64 r.2.2)]/\h'=H:=by
 unfold Z107 at hE;refine AC.oW 116 [.cell 4 71,.tmp 5,.tmp 6] Tryz.call48 Tryz.func48 ?_;refine seqR ?_;refine Sl ?_;refine S As (S As (nil ?_));refine seqR (S Mv (S Mv ?_));obtain⟨x3,gx3,hE⟩:=bO hE;refine s0 (idxS (TK rfl) rfl rfl rfl gx3) rfl ?_;refine s0 (convI (TK rfl) (TK rfl) rfl rfl) rfl ?_;refine S As (nil ?_);refine seqK fun K4 hK4=>?_;refine block ?_;refine seqR (S Mv ?_);obtain⟨x6,gx6,hE⟩:=bO hE
 refine Sc rfl rfl (Z91_walk gx6) ?_;refine S As (nil ?_);refine cE hE (fun hc7 hE=>?_) (fun hc7 hE=>?_)
 ·refine seqR (S Mv (S Mv (S Mv ?_)));obtain⟨x9,gx9,hE⟩:=bO hE;refine s0 (addM rfl rfl gx9) rfl ?_;obtain⟨x10,gx10,hE⟩:=bO hE;refine s0 (cutM (l:=(some a1)) (r:=(some x9)) (TK rfl) rfl rfl rfl rfl (by simp) gx10) rfl ?_;refine S Mv (S BU (S Mv ?_));obtain⟨x11,gx11,hE⟩:=bO hE;refine s0 (addM rfl rfl gx11) rfl ?_;refine Sf ?_;refine S As (S As (nil ?_));exact rt hE
 refine seqR (S Mv (S BI (S As (nil ?_))));refine cE hE (fun hc13 hE=>?_) (fun hc13 hE=>?_)
 ·refine seqK fun K14 hK14=>?_;refine seqR (S Mv (S Mv ?_));obtain⟨x16,gx16,hE⟩:=bO hE;refine s0 (cutM (l:=(some a1)) (r:=none) (TK rfl) rfl rfl rfl trivial (by simp) gx16) rfl ?_;obtain⟨x17,gx17,hE⟩:=bO hE;refine Sc rfl rfl (Z92_walk gx17) ?_;refine S NB (nil ?_);refine cE hE (fun hc18 hE=>?_) (fun hc18 hE=>?_)
  ·refine seqR (S BU ?_);refine Sf ?_;refine S As (S As (nil ?_));exact rt hE
  refine sk hK14 ?_;clear hK14 K14;refine seqR (S Mv (S BU (S Mv ?_)));obtain⟨x21,gx21,hE⟩:=bO hE;refine s0 (addM rfl rfl gx21) rfl ?_;refine Sf ?_;refine S As (S As (nil ?_));exact rt hE
 refine seqR (S Mv (S BI (S Mv (G0 Mv ?_))));refine G1 48 rfl BI ?_;refine G1 49 rfl Mv ?_;refine G0 Mv ?_;refine G1 51 rfl BI ?_;refine gC rfl rfl (fun hC=>ungdA (k:=50) rfl (pickAndA rfl rfl rfl)) rfl ?_;refine S PO (S As (nil ?_));refine cE hE (fun hc23 hE=>?_) (fun hc23 hE=>?_)
 ·refine seqR (S Mv (S Mv ?_));obtain⟨x25,gx25,hE⟩:=bO hE;refine s0 (addM rfl rfl gx25) rfl ?_;obtain⟨x26,gx26,hE⟩:=bO hE;refine s0 (callP rfl rfl (fun H=>Z109_walk gx26 H (fun _ _ hx=>Z105_walk hx))) rfl ?_;refine S As (nil ?_);refine seqR (S Mv (S Mv (S Mv ?_)));obtain⟨x28,gx28,hE⟩:=bO hE;refine s0 (cutM (l:=(some a1)) (r:=(some x26)) (TK rfl) rfl rfl rfl rfl (by simp) gx28) rfl ?_;obtain⟨x29,gx29,hE⟩:=bO hE
  refine s0 (callR rfl rfl (Z100_walk (gE:=gE) (oE:=oE) gx29 _ hpG (by assumption))) rfl ?_;refine S Mv (S EX (S EX (S As (S As (nil ?_)))));refine seqR (S Mv (S Mv (S Mv ?_)));obtain⟨x31,gx31,hE⟩:=bO hE;refine s0 (cutM (l:=(some a1)) (r:=(some x26)) (TK rfl) rfl rfl rfl rfl (by simp) gx31) rfl ?_;refine S Mv (S BU (S Mv (S Mv ?_)));refine Sf ?_;refine S As (S As (nil ?_));exact rt hE
 refine seqR (S Mv ?_);obtain⟨x33,gx33,hE⟩:=bO hE;refine Sc rfl rfl (Z105_walk gx33) ?_;refine S As (nil ?_);refine cE hE (fun hc34 hE=>?_) (fun hc34 hE=>?_)
 ·refine seqR (S Mv (S Mv ?_));obtain⟨x36,gx36,hE⟩:=bO hE;refine s0 (callP rfl rfl (fun H=>Z109_walk gx36 H (fun _ _ hx=>Z105_walk hx))) rfl ?_;refine S As (nil ?_);refine seqK fun K37 hK37=>?_;refine seqR (S Mv (S Mv ?_));obtain⟨x39,gx39,hE⟩:=bO hE;refine s0 (subM rfl rfl gx39) rfl ?_;refine S BI (nil ?_);refine cE hE (fun hc40 hE=>?_) (fun hc40 hE=>?_)
  ·refine seqR (S BU ?_);refine Sf ?_;refine S As (S As (nil ?_));exact rt hE
  refine sk hK37 ?_;clear hK37 K37;refine seqR (S Mv (S Mv (S Mv ?_)));obtain⟨x43,gx43,hE⟩:=bO hE;refine s0 (cutM (l:=(some a1)) (r:=(some x36)) (TK rfl) rfl rfl rfl rfl (by simp) gx43) rfl ?_;refine S Mv (S BU (S Mv ?_));refine Sf ?_;refine S As (S As (nil ?_));exact rt hE
 refine seqR (S Mv (S BI (S As (nil ?_))));refine cE hE (fun hc45 hE=>?_) (fun hc45 hE=>?_)
 ·refine seqR (S Mv (S Mv ?_));obtain⟨x47,gx47,hE⟩:=bO hE;refine Sc rfl rfl (Z106_walk gx47) ?_;refine S As (nil ?_);refine seqK fun K48 hK48=>?_;refine seqR (S Mv (S BI (nil ?_)));refine cE hE (fun hc50 hE=>?_) (fun hc50 hE=>?_)
  ·refine seqR (S BU ?_);refine Sf ?_;refine S As (S As (nil ?_));exact rt hE
  refine sk hK48 ?_;clear hK48 K48;refine seqR (S Mv (S Mv (S Mv ?_)));obtain⟨x53,gx53,hE⟩:=bO hE;refine s0 (cutM (l:=(some a1)) (r:=(some x47)) (TK rfl) rfl rfl rfl rfl (by simp) gx53) rfl ?_;obtain⟨x54,gx54,hE⟩:=bO hE;refine Sc rfl rfl (Z102_walk gx54) ?_;refine S Mv (S EX (S EX (S As (S As (nil ?_)))));refine seqR (S Mv (S Mv (S BU (S Mv (S Mv ?_)))));refine Sf ?_;refine S As (S As (nil ?_));exact rt hE
 refine sk hK4 ?_;clear hK4 K4;refine seqR (S BU ?_);refine Sf ?_;refine S As (S As (nil ?_));exact rt hE
end
section
variable [IsLoud lou]
def Z104_j8 (a0:Bs)  (s5_9:(Sl Z8)):Option ((Sl Z8)×Int×Int):=(appC 32 s5_9 (⟨false,[(Z8.mk (5:Int) ([]:Bs) ((a0.length:Nat):Int))]⟩:Sl Z8)).bind fun x12=>some (x12,(0:Int),(0:Int))
def Z104_l15 (a0:Bs) :Nat->(Sl Z8)->Int->Option ((Sl Z8)×Int×Int)
 | 0,_,_=>none
 | n15+1,s5_16,s6_17=>bif (decide (s6_17<((a0.length:Nat):Int))) then((Z107 a0 s6_17).bind fun x24=>bif (!decide (x24.2.2=(0:Int))) then(some ((Sl.nil:Sl Z8),s6_17,x24.2.2)) else((appC 32 s5_16 (⟨false,[x24.1]⟩:Sl Z8)).bind fun x30=>(Z108 a0 x24.2.1).bind fun x31=>(Z104_l15 a0 n15) x30 x31)) else(Z104_j8 a0  s5_16)
def Z104 (a0:Bs):Option ((Sl Z8)×Int×Int):=bif (decide ((65536:Int)<((a0.length:Nat):Int))) then(some ((Sl.nil:Sl Z8),(65536:Int),(4:Int))) else((Z108 a0 (0:Int)).bind fun x14=>Z104_l15 a0 F0 (Sl.nil:Sl Z8) x14)
theorem Z104_walk {a0:Bs}{oE:Ab.Obj}{gE:Nat}{r:((Sl Z8)×Int×Int)}(hE:Z104 a0=some r) (H:Heap) (hgE:H gE=some oE) (hoE:IsErr Tryz.prog oE):AC Tryz.prog 30 [.d (.str a0)] H fun v h'=>v=.tup [.d (Sl.d 3 Z8.c none r.1),.d (.int .i64 r.2.1),.d (.int .i64 r.2.2)]/\h'=H:=by
 unfold Z104 at hE;refine AC.oW 44 [.tmp 2,.tmp 3,.tmp 4] Tryz.call30 Tryz.func30 ?_;refine AWp.tok 3 fun tk1 htk1=>?_;have ne_tk1_gE:tk1≠gE:=fun e_=>by subst e_; simp_all
 refine seqR ?_;refine s0 (assignNil (k':=3) rfl) rfl ?_;refine S As (S As (nil ?_));refine seqK fun K2 hK2=>?_;refine seqR (S Mv ?_);refine sLenS (TK rfl) rfl rfl rfl rfl fun hL4=>?_;refine S BI (nil ?_);refine cE hE (fun hc5 hE=>?_) (fun hc5 hE=>?_)
 ·refine seqR ?_;refine s0 (assignNil (k':=3) rfl) rfl ?_;refine S As (S As (nil ?_));refine AWp.ret ?_;repeat (first|refine xBlock_ret ?_|refine xThen_ret ?_)
  obtain rfl:=oJ hE;refine retQ.retF H rfl ⟨rfl,rfl⟩ ?_
  first|exact Heap.sub_set htk1|(simp only [Heap.set_set]; exact Heap.sub_set htk1)
 refine sk hK2 ?_;clear hK2 K2;refine seqR (S As (nil ?_));refine AWp.nilTok 5 3 tk1 rfl hpG ?_;refine seqJH (TA 0 kN) (fun(z:(Sl Z8))=>[(5,.a (.d (Sl.d 3 Z8.c (some tk1) z)))]) (fun z=>(H.set tk1 (some (.tok 3 z.l.length)))) (fun z=>Z104_j8 a0 z=some r) ?_ ?_
 ·intro K8 hK8;refine seqR (S Mv ?_);obtain⟨x14,gx14,hE⟩:=bO hE;refine Sc rfl rfl (Z108_walk gx14) ?_;refine S As (nil ?_);refine block ?_;refine loopH (TA 0 kN) (fun(z:Nat×(Sl Z8)×Int)=>[(5,.a (.d (Sl.d 3 Z8.c (some tk1) z.2.1))),(6,.a (.d (.int .i64 z.2.2)))]) (fun z=>(H.set tk1 (some (.tok 3 z.2.1.l.length)))) (fun z=>z.1) (fun z=>Z104_l15 a0 z.1 z.2.1 z.2.2=some r) (F0,(Sl.nil:Sl Z8),x14) hE wA ?_
  rintro ⟨n15,s5_16,s6_17⟩ hE K15 hK15;try dsimp only at hE
  cases n15 with
  | zero=>cases hE
  | succ n15 =>
    rw [Z104_l15] at hE;refine seqK fun K18 hK18=>?_;refine seqR (S Mv (S Mv ?_));refine sLenS (TK rfl) rfl rfl rfl rfl fun hL20=>?_;refine S BI (nil ?_);refine cE hE (fun hc21 hE=>?_) (fun hc21 hE=>?_)
    ·refine sk hK18 ?_;clear hK18 K18;refine seqK fun K22 hK22=>?_;refine block ?_;refine seqR (S Mv (S Mv ?_));obtain⟨x24,gx24,hE⟩:=bO hE;refine s0 (callR rfl rfl (Z107_walk (gE:=gE) (oE:=oE) gx24 _ hpG (by assumption))) rfl ?_;refine S Mv (S EX (S EX (S EX ?_)));refine Sl ?_;refine Sf ?_;refine S As (S As (nil ?_));refine freezeA 7 _ rfl (KA 0 (KA 5 (KA 6 (KA 8 (KA 9 Keeps.nil))))) ?_;refine seqK fun K25 hK25=>?_
     refine seqR (S Mv (S BI (nil ?_)));refine cE hE (fun hc27 hE=>?_) (fun hc27 hE=>?_)
     ·refine seqR (S Mv (S Mv ?_));refine s0 (assignNil (k':=3) rfl) rfl ?_;refine S As (S As (nil ?_));refine AWp.ret ?_;repeat (first|refine xBlock_ret ?_|refine xThen_ret ?_)
      obtain rfl:=oJ hE;refine retQ.retF H rfl ⟨rfl,rfl⟩ ?_
      first|exact Heap.sub_set htk1|(simp only [Heap.set_set]; exact Heap.sub_set htk1)
     refine sk hK25 ?_;clear hK25 K25;refine seqR (S Mv (S Ld (S BV ?_)));obtain⟨x30,gx30,hE⟩:=bO hE;refine SH (am Z8.c (TK rfl) rfl (TK rfl) (TK rfl) gx30) ?_;refine hq (H.set tk1 (some (.tok 3 x30.l.length))) ?_;refine S As (nil ?_);refine region ?_;refine S Mv (S As (nil ?_));refine hK22 _ ?_;clear hK22 K22;refine region ?_;refine S Mv (S Mv ?_);obtain⟨x31,gx31,hE⟩:=bO hE;refine Sc rfl rfl (Z108_walk gx31) ?_
     refine S As (nil ?_);exact hK15 _ (n15,x30,x31) wA hE (nS _)
    refine AWp.exit ?_;exact hK8 _ s5_16 wA hE
 rintro s5_9 hE;try dsimp only at hE
 unfold Z104_j8 at hE;refine seqR (S Mv (S Mv ?_));refine sLenS (TK rfl) rfl rfl rfl rfl fun hL11=>?_;refine S BU (S BV ?_);obtain⟨x12,gx12,hE⟩:=bO hE;refine SH (am Z8.c (TK rfl) rfl (TK rfl) (TK rfl) gx12) ?_;refine hq (H.set tk1 (some (.tok 3 x12.l.length))) ?_;refine S As (S As (S As (nil ?_)));refine AWp.dropTok 2 rfl ?_;refine AWp.ret ?_;repeat (first|refine xBlock_ret ?_|refine xThen_ret ?_)
 obtain rfl:=oJ hE;refine retQ.retF H rfl ⟨rfl,rfl⟩ ?_
 first|exact Heap.sub_set htk1|(simp only [Heap.set_set]; exact Heap.sub_set htk1)
end
def Tryz.lay31_ren:Go.Shelf.Ren:=⟨fun|35=>31|n=>n,fun|22=>27|23=>3|3=>3|4=>4|0=>0|n=>n,fun|n=>n⟩
theorem Tryz.lay31:Go.Proofs.SlLaysE.n35 Tryz.prog Tryz.lay31_ren:={
 mixed:=by kernel_rfl
 f35:=⟨Tryz.f31.name,by decide,Tryz.func31.trans (congrArg some (by kernel_rfl))⟩
 t0:=Tryz.underlying0
 a0:=Tryz.isAgg0
 z0:=Tryz.sizeOf0
 v0:=Tryz.zeroValue0
 t3:=Tryz.underlying3
 a3:=Tryz.isAgg3
 z3:=Tryz.sizeOf3
 v3:=Tryz.zeroValue3
 t4:=Tryz.underlying4
 a4:=Tryz.isAgg4
 z4:=Tryz.sizeOf4
 v4:=Tryz.zeroValue4
 t22:=Tryz.underlying27
 a22:=Tryz.isAgg27
 z22:=Tryz.sizeOf27
 v22:=Tryz.zeroValue27
 a23:=Tryz.isAgg3
 z23:=Tryz.sizeOf3 }
theorem Z82_walk {s:Sl Int}{H:Heap}{id m:Nat}{nl:Bool}(hH:H id=some (.arr 1 (s.l.map (intE .i64)))) (hm:m=s.l.length):AC Tryz.prog 31 [.d (.arr 1 id nl m)] H fun r h'=>r=.tup []/\h'=H.set id (some (.arr 1 ((Sl.rev s).l.map (intE .i64)))) :=
 revI_calls Tryz.lay31 hH hm rfl
end Go.Proofs

namespace Go.Proofs
open Go Go.Ab
open AOps Cert AWp Keeps KeepsT
variable {lou:Lou}
section
variable [IsLoud lou]
def Z115_j22  (s4_23:(Sl Z8)) (y24_l0:TRef) (y25_l1:TRef):Option (TRef×Int):=(s4_23.l[0]?).bind fun x28=>bif (!decide (x28.FKind=(5:Int))) then(some ((TRef.mk ([]:Bs) (Sl.nil:Sl Int)),(3:Int))) else(bif (decide ((24:Int)<((y25_l1.FWraps.l.length:Nat):Int))) then(some ((TRef.mk ([]:Bs) (Sl.nil:Sl Int)),(5:Int))) else((some (Sl.rev y25_l1.FWraps)).bind fun x37=>some ((TRef.mk y25_l1.FName x37),(0:Int))))
def Z115_j44 (s8_41:Int) (y42_l0:TRef) (k_next_39:(Sl Z8)->Int->TRef->TRef->Option (TRef×Int)) (s4_45:(Sl Z8)) (y46_l1:TRef):Option (TRef×Int):=bif (decide (s8_41=(0:Int))) then(Z115_j22   s4_45 y42_l0 y46_l1) else((s4_45.l[0]?).bind fun x52=>guardO (!(!decide (x52.FKind=(1:Int)))) (s4_45.l[0]?) Z8.zero fun x53=>bif ((!decide (x52.FKind=(1:Int)))||(!(x53.FText==([93]:Bs)))) then(some ((TRef.mk ([]:Bs) (Sl.nil:Sl Int)),(3:Int))) else((appC 8 y46_l1.FWraps (⟨false,[(2:Int)]⟩:Sl Int)).bind fun x56=>(partC s4_45 (some (1:Int)) none).bind fun x57=>(subC s8_41 (1:Int)).bind fun x58=>k_next_39 x57 x58 y42_l0 (TRef.mk y46_l1.FName x56)))
def Z115_l39 :Nat->(Sl Z8)->Int->TRef->TRef->Option (TRef×Int)
 | 0,_,_,_,_=>none
 | n39+1,s4_40,s8_41,y42_l0,y43_l1=>(s4_40.l[0]?).bind fun x60=>guardO ((decide (x60.FKind=(1:Int)))) (s4_40.l[0]?) Z8.zero fun x61=>bif ((decide (x60.FKind=(1:Int)))&&((x61.FText==([33]:Bs)))) then((appC 8 y43_l1.FWraps (⟨false,[(1:Int)]⟩:Sl Int)).bind fun x63=>(partC s4_40 (some (1:Int)) none).bind fun x64=>Z115_j44 s8_41 y42_l0 ((Z115_l39  n39)) x64 (TRef.mk y43_l1.FName x63)) else(Z115_j44 s8_41 y42_l0 ((Z115_l39  n39)) s4_40 y43_l1)
def Z115_j11  (s4_12:(Sl Z8)) (s8_13:Int):Option (TRef×Int):=(s4_12.l[0]?).bind fun x16=>bif (!decide (x16.FKind=(2:Int))) then(some ((TRef.mk ([]:Bs) (Sl.nil:Sl Int)),(3:Int))) else((s4_12.l[0]?).bind fun x20=>(partC s4_12 (some (1:Int)) none).bind fun x21=>Z115_l39 F0 x21 s8_13 TRef.zero (TRef.mk x20.FText TRef.zero.FWraps))
def Z115_l65 :Nat->(Sl Z8)->Int->Option (TRef×Int)
 | 0,_,_=>none
 | n65+1,s4_66,s8_67=>(s4_66.l[0]?).bind fun x70=>guardO ((decide (x70.FKind=(1:Int)))) (s4_66.l[0]?) Z8.zero fun x71=>bif ((decide (x70.FKind=(1:Int)))&&((x71.FText==([91]:Bs)))) then((addC s8_67 (1:Int)).bind fun x73=>(partC s4_66 (some (1:Int)) none).bind fun x74=>(Z115_l65  n65) x74 x73) else(Z115_j11   s4_66 s8_67)
def Z115 (a0:Bs):Option (TRef×Int):=(Z104 a0).bind fun x3=>bif (!decide (x3.2.2=(0:Int))) then(some ((TRef.mk ([]:Bs) (Sl.nil:Sl Int)),x3.2.2)) else(Z115_l65 F0 x3.1 (0:Int))
theorem Z115_walk {a0:Bs}{oE:Ab.Obj}{gE:Nat}{r:TRef×Int}(hE:Z115 a0=some r) (H:Heap) (hgE:H gE=some oE) (hoE:IsErr Tryz.prog oE):AC Tryz.prog 17 [.d (.str a0)] H fun v h'=>v=.tup [.agg (TRef.c r.1),.d (.int .i64 r.2)]/\h'=H:=by
 unfold Z115 at hE;refine AC.oW 106 [.cell 2 29,.tmp 3] Tryz.call17 Tryz.func17 ?_;refine seqR ?_;refine Sl ?_;refine S As (nil ?_);refine seqR (S Mv ?_);obtain⟨x3,gx3,hE⟩:=bO hE;refine s0 (callR rfl rfl (Z104_walk (gE:=gE) (oE:=oE) gx3 _ hpG (by assumption))) rfl ?_;refine S Mv (S EX (S EX (S EX (S As (S As (S As (nil ?_)))))));refine seqK fun K4 hK4=>?_;refine seqR (S Mv (S BI (nil ?_)));refine cE hE (fun hc6 hE=>?_) (fun hc6 hE=>?_)
 ·refine seqR (S BU (S Mv ?_));refine Sf ?_;refine S As (nil ?_);exact rt hE
 refine sk hK4 ?_;clear hK4 K4;refine seqR ?_;refine Sl ?_;refine AOps.arrO 1 fun tk7_9 htk7_9=>?_;have ne_tk7_9_gE:tk7_9≠gE:=fun e_=>by subst e_; simp_all
 refine AOps.relocal 1 _ rfl (fun j w cs hh hx=>arr_cell 1 1 1 hh (t:=tk7_9) hpG hx rfl) ?_;refine nil ?_;refine seqR (S As (nil ?_));refine seqJH (TA 2 (TA 7 kN)) (fun(z:(Sl Z8)×Int)=>[(4,.a (.d (Sl.d 3 Z8.c none z.1))),(8,.a (.d (.int .i64 z.2)))]) (fun z=>(H.set tk7_9 (some (.arr 1 [])))) (fun z=>Z115_j11 z.1 z.2=some r) ?_ ?_
 ·intro K11 hK11;refine block ?_;refine loopH (TA 2 (TA 7 kN)) (fun(z:Nat×(Sl Z8)×Int)=>[(4,.a (.d (Sl.d 3 Z8.c none z.2.1))),(8,.a (.d (.int .i64 z.2.2)))]) (fun z=>(H.set tk7_9 (some (.arr 1 [])))) (fun z=>z.1) (fun z=>Z115_l65 z.1 z.2.1 z.2.2=some r) (F0,x3.1,(0:Int)) hE wA ?_;rintro ⟨n65,s4_66,s8_67⟩ hE K65 hK65;try dsimp only at hE
  cases n65 with
  | zero=>cases hE
  | succ n65 =>
    rw [Z115_l65] at hE;refine seqK fun K68 hK68=>?_;refine seqR (S Mv ?_);obtain⟨x70,gx70,hE⟩:=bO hE;refine S (ix Z8.c 0 gx70) (S Fv (S Ld (S BI (S Mv (G0 Mv ?_)))));obtain⟨x71,gx71,hE⟩:=gO hE;refine gC rfl rfl (fun hC=>ungdA (k:=25) rfl (idxMn (f:=Z8.c) (n:=0) (TK rfl) rfl (TK rfl) rfl rfl rfl (gx71 hC))) rfl ?_;refine G1 26 rfl Fv ?_;refine G1 27 rfl Ld ?_;refine G1 28 rfl BS ?_;refine S PA (nil ?_)
    refine cE hE (fun hc72 hE=>?_) (fun hc72 hE=>?_)
    ·refine sk hK68 ?_;clear hK68 K68;refine block ?_;refine AWp.draw rfl ?_;refine Sd Mv ?_;obtain⟨x73,gx73,hE⟩:=bO hE;refine DOps.s0 (addM rfl rfl gx73) rfl ?_;refine Sd Mv ?_;obtain⟨x74,gx74,hE⟩:=bO hE;refine DOps.s0 (partM (f:=Z8.c) (l:=(some (1:Int))) (r:=none) (TK rfl) rfl (TK rfl) rfl rfl rfl trivial gx74) rfl ?_;refine Sd As (Sd As ?_);refine DOps.nil (by decide +kernel) ?_;exact hK65 _ (n65,x74,x73) wA hE (nS _)
    refine AWp.exit ?_;exact hK11 _ (s4_66,s8_67) wA hE
 rintro ⟨s4_12,s8_13⟩ hE;try dsimp only at hE
 unfold Z115_j11 at hE;refine seqK fun K14 hK14=>?_;refine seqR (S Mv ?_);obtain⟨x16,gx16,hE⟩:=bO hE;refine S (ix Z8.c 0 gx16) (S Fv (S Ld (S BI (nil ?_))));refine cE hE (fun hc17 hE=>?_) (fun hc17 hE=>?_)
 ·refine seqR (S BU ?_);refine Sf ?_;refine S As (nil ?_);refine AWp.ret ?_;repeat (first|refine xBlock_ret ?_|refine xThen_ret ?_)
  obtain rfl:=oJ hE;refine retQ.retF H rfl ⟨rfl,rfl⟩ ?_
  first|exact Heap.sub_set htk7_9|(simp only [Heap.set_set]; exact Heap.sub_set htk7_9)
 refine sk hK14 ?_;clear hK14 K14;refine AWp.seqD (Sd Mv ?_);obtain⟨x20,gx20,hE⟩:=bO hE;refine Sd (ix Z8.c 0 gx20) (Sd Fv (Sd Ld (Sd Mv ?_)));obtain⟨x21,gx21,hE⟩:=bO hE;refine DOps.s0 (partM (f:=Z8.c) (l:=(some (1:Int))) (r:=none) (TK rfl) rfl (TK rfl) rfl rfl rfl trivial gx21) rfl ?_;refine Sd FL ?_;refine DOps.sLn (storeL1 (TK rfl) rfl rfl rfl rfl (by repeat (first|exact SetAt.zero|apply SetAt.succ)) (by repeat (first|exact SetAt.zero|apply SetAt.succ))) ?_
 refine Sd As ?_;refine DOps.nil (by decide +kernel) ?_;refine seqJ (TA 2 (TA 7 kN)) (fun(z:(Sl Z8)×TRef×TRef)=>[(4,.a (.d (Sl.d 3 Z8.c none z.1)))]) (fun z=>[TRef.c z.2.1,(strE z.2.2.FName++[.arr 1 tk7_9 z.2.2.FWraps.nl z.2.2.FWraps.l.length])]) (fun z=>(H.set tk7_9 (some (.arr 1 (z.2.2.FWraps.l.map (intE .i64)))))) (fun z=>Z115_j22 z.1 z.2.1 z.2.2=some r) ?_ ?_
 ·intro K22 hK22;refine block ?_;refine loopO (TA 2 (TA 7 kN)) (fun(z:Nat×(Sl Z8)×Int×TRef×TRef)=>[(4,.a (.d (Sl.d 3 Z8.c none z.2.1))),(8,.a (.d (.int .i64 z.2.2.1)))]) (fun z=>[TRef.c z.2.2.2.1,(strE z.2.2.2.2.FName++[.arr 1 tk7_9 z.2.2.2.2.FWraps.nl z.2.2.2.2.FWraps.l.length])]) (fun z=>(H.set tk7_9 (some (.arr 1 (z.2.2.2.2.FWraps.l.map (intE .i64)))))) (fun z=>z.1) (fun z=>Z115_l39 z.1 z.2.1 z.2.2.1 z.2.2.2.1 z.2.2.2.2=some r) (F0,x21,s8_13,TRef.zero,(TRef.mk x20.FText TRef.zero.FWraps)) hE wA ?_
  rintro ⟨n39,s4_40,s8_41,y42_l0,y43_l1⟩ hE K39 hK39;try dsimp only at hE
  cases n39 with
  | zero=>cases hE
  | succ n39 =>
    rw [Z115_l39] at hE;refine block ?_;refine seqJ (TA 2 (TA 7 (TA 8 kN))) (fun(z:(Sl Z8)×TRef)=>[(4,.a (.d (Sl.d 3 Z8.c none z.1)))]) (fun z=>[TRef.c y42_l0,(strE z.2.FName++[.arr 1 tk7_9 z.2.FWraps.nl z.2.FWraps.l.length])]) (fun z=>(H.set tk7_9 (some (.arr 1 (z.2.FWraps.l.map (intE .i64)))))) (fun z=>Z115_j44 s8_41 y42_l0 ((Z115_l39 n39)) z.1 z.2=some r) ?_ ?_
    ·intro K44 hK44;refine seqR (S Mv ?_);obtain⟨x60,gx60,hE⟩:=bO hE;refine S (ix Z8.c 0 gx60) (S Fv (S Ld (S BI (S Mv (G0 Mv ?_)))));obtain⟨x61,gx61,hE⟩:=gO hE;refine gC rfl rfl (fun hC=>ungdA (k:=54) rfl (idxMn (f:=Z8.c) (n:=0) (TK rfl) rfl (TK rfl) rfl rfl rfl (gx61 hC))) rfl ?_;refine G1 55 rfl Fv ?_;refine G1 56 rfl Ld ?_;refine G1 57 rfl BS ?_;refine S PA (nil ?_);refine cE hE (fun hc62 hE=>?_) (fun hc62 hE=>?_)
     ·refine AWp.draw rfl ?_;refine Sd FL (Sd LL (Sd BV ?_));obtain⟨x63,gx63,hE⟩:=bO hE;refine DOps.sH (appR (f:=(intE .i64)) (s:=y43_l1.FWraps) (TK rfl) rfl (TK rfl) (TK rfl) ⟨_,rfl⟩ rfl rfl rfl rfl rfl rfl hpG (by first|rfl|simp [Sl.setL,Sl.nil,sortL_len]) rfl gx63) rfl ?_;refine DOps.Dh (H.set tk7_9 (some (.arr 1 (x63.l.map (intE .i64))))) ?_;refine Sd Mv ?_;obtain⟨x64,gx64,hE⟩:=bO hE;refine DOps.s0 (partM (f:=Z8.c) (l:=(some (1:Int))) (r:=none) (TK rfl) rfl (TK rfl) rfl rfl rfl trivial gx64) rfl ?_
      refine Sd FL ?_;refine DOps.sLn (storeL1 (TK rfl) rfl rfl rfl rfl (by repeat (first|exact SetAt.zero|apply SetAt.succ)) (by repeat (first|exact SetAt.zero|apply SetAt.succ))) ?_;refine Sd As ?_;refine DOps.nil (by decide +kernel) ?_;exact hK44 _ (x64,(TRef.mk y43_l1.FName x63)) wA hE
     refine AWp.skip ?_;exact hK44 _ (s4_40,y43_l1) wA hE
    rintro ⟨s4_45,y46_l1⟩ hE;try dsimp only at hE
    unfold Z115_j44 at hE;refine seqK fun K47 hK47=>?_;refine seqR (S Mv (S BI (nil ?_)));refine cE hE (fun hc49 hE=>?_) (fun hc49 hE=>?_)
    ·refine AWp.exit ?_;exact hK22 _ (s4_45,y42_l0,y46_l1) wA hE
    refine sk hK47 ?_;clear hK47 K47;refine seqK fun K50 hK50=>?_;refine seqR (S Mv ?_);obtain⟨x52,gx52,hE⟩:=bO hE;refine S (ix Z8.c 0 gx52) (S Fv (S Ld (S BI (S Mv (G0 Mv ?_)))));obtain⟨x53,gx53,hE⟩:=gO hE;refine gC rfl rfl (fun hC=>ungdA (k:=75) rfl (idxMn (f:=Z8.c) (n:=0) (TK rfl) rfl (TK rfl) rfl rfl rfl (gx53 hC))) rfl ?_;refine G1 76 rfl Fv ?_;refine G1 77 rfl Ld ?_;refine G1 78 rfl BS ?_;refine S PO (nil ?_)
    refine cE hE (fun hc54 hE=>?_) (fun hc54 hE=>?_)
    ·refine seqR (S BU ?_);refine Sf ?_;refine S As (nil ?_);refine AWp.ret ?_;repeat (first|refine xBlock_ret ?_|refine xThen_ret ?_)
     obtain rfl:=oJ hE;refine retQ.retF H rfl ⟨rfl,rfl⟩ ?_
     first|exact Heap.sub_set htk7_9|(simp only [Heap.set_set]; exact Heap.sub_set htk7_9)
    refine sk hK50 ?_;clear hK50 K50;refine AWp.draw rfl ?_;refine Sd FL (Sd LL (Sd BV ?_));obtain⟨x56,gx56,hE⟩:=bO hE;refine DOps.sH (appR (f:=(intE .i64)) (s:=y46_l1.FWraps) (TK rfl) rfl (TK rfl) (TK rfl) ⟨_,rfl⟩ rfl rfl rfl rfl rfl rfl hpG (by first|rfl|simp [Sl.setL,Sl.nil,sortL_len]) rfl gx56) rfl ?_;refine DOps.Dh (H.set tk7_9 (some (.arr 1 (x56.l.map (intE .i64))))) ?_;refine Sd Mv ?_;obtain⟨x57,gx57,hE⟩:=bO hE
    refine DOps.s0 (partM (f:=Z8.c) (l:=(some (1:Int))) (r:=none) (TK rfl) rfl (TK rfl) rfl rfl rfl trivial gx57) rfl ?_;refine Sd Mv ?_;obtain⟨x58,gx58,hE⟩:=bO hE;refine DOps.s0 (subM rfl rfl gx58) rfl ?_;refine Sd FL ?_;refine DOps.sLn (storeL1 (TK rfl) rfl rfl rfl rfl (by repeat (first|exact SetAt.zero|apply SetAt.succ)) (by repeat (first|exact SetAt.zero|apply SetAt.succ))) ?_;refine Sd As (Sd As ?_)
    refine DOps.nil (by decide +kernel) ?_;exact hK39 _ (n39,x57,x58,y42_l0,(TRef.mk y46_l1.FName x56)) wA hE (nS _)
 rintro ⟨s4_23,y24_l0,y25_l1⟩ hE;try dsimp only at hE
 unfold Z115_j22 at hE;refine seqK fun K26 hK26=>?_;refine seqR (S Mv ?_);obtain⟨x28,gx28,hE⟩:=bO hE;refine S (ix Z8.c 0 gx28) (S Fv (S Ld (S BI (nil ?_))));refine cE hE (fun hc29 hE=>?_) (fun hc29 hE=>?_)
 ·refine seqR (S BU ?_);refine Sf ?_;refine S As (nil ?_);refine AWp.ret ?_;repeat (first|refine xBlock_ret ?_|refine xThen_ret ?_)
  obtain rfl:=oJ hE;refine retQ.retF H rfl ⟨rfl,rfl⟩ ?_
  first|exact Heap.sub_set htk7_9|(simp only [Heap.set_set]; exact Heap.sub_set htk7_9)
 refine sk hK26 ?_;clear hK26 K26;refine seqK fun K31 hK31=>?_;refine seqR (S FL (S LL ?_));refine AOps.sLenR (f:=(intE .i64)) (l:=y25_l1.FWraps.l) (TK rfl) rfl rfl rfl hpG (by first|rfl|simp [Sl.setL,Sl.nil,sortL_len]) rfl fun hL33=>?_;refine S BI (nil ?_);refine cE hE (fun hc34 hE=>?_) (fun hc34 hE=>?_)
 ·refine seqR (S BU ?_);refine Sf ?_;refine S As (nil ?_);refine AWp.ret ?_;repeat (first|refine xBlock_ret ?_|refine xThen_ret ?_)
  obtain rfl:=oJ hE;refine retQ.retF H rfl ⟨rfl,rfl⟩ ?_
  first|exact Heap.sub_set htk7_9|(simp only [Heap.set_set]; exact Heap.sub_set htk7_9)
 refine sk hK31 ?_;clear hK31 K31;refine seqR (S FL (S LL ?_));obtain⟨x37,gx37,hE⟩:=bO hE;have ex37:=oJ gx37;refine sH (callH rfl rfl (Z82_walk (s:=y25_l1.FWraps) hpG (by first|rfl|simp [Sl.setL,Sl.nil,sortL_len]))) rfl ?_;refine AOps.heq (h':=(H.set tk7_9 (some (.arr 1 (x37.l.map (intE .i64)))))) (by subst ex37; exact(by first|rfl|(rw [Heap.set_set]; rfl)|(funext n_; simp only [Heap.set]; (repeat' split)<;>first|rfl|(exfalso; simp_all; done)|(simp_all; done)))) ?_
 refine AOps.relocal 1 (strE (TRef.mk y25_l1.FName x37).FName++[.arr 1 tk7_9 (TRef.mk y25_l1.FName x37).FWraps.nl (TRef.mk y25_l1.FName x37).FWraps.l.length]) rfl (fun j w cs hh hx=>by subst ex37; first|exact hx|simpa [Sl.rev] using hx) ?_;refine nil ?_;refine seqK fun K38 hK38=>?_;refine AWp.frzL 1 1 tk7_9 rfl rfl hpG (by first|rfl|(simp [Sl.setL,Sl.nil,sortL_len]; done)|(subst_vars; first|rfl|(simp [Sl.setL,Sl.nil,sortL_len]; done))) ?_
 refine AWp.heqA (h':=H) (by first|rfl|(rw [Heap.set_set]; rfl)|(funext n_; simp only [Heap.set]; (repeat' split)<;>first|rfl|(exfalso; simp_all; done)|(simp_all; done))) ?_;refine region ?_;refine S LL ?_;refine Sf ?_;refine S As (nil ?_);refine hK38 _ ?_;clear hK38 K38;exact rt hE
end
def Z80_j8  :Option Bool:=some true
def Z80_l12 (a0:(Sl Int)) (a1:(Sl Int)) :Nat->Nat->Option Bool
 | 0,_=>none
 | n12+1,s13_13=>bif (decide (((s13_13:Nat):Int)<((a0.l.length:Nat):Int))) then((a0.l[s13_13]?).bind fun x20=>(a1.l[s13_13]?).bind fun x21=>bif (!decide (x20=x21)) then(some false) else((Z80_l12 a0 a1 n12) (s13_13+1))) else(Z80_j8   )
def Z80 (a0:(Sl Int)) (a1:(Sl Int)):Option Bool:=bif (!decide (((a0.l.length:Nat):Int)=((a1.l.length:Nat):Int))) then(some false) else(Z80_l12 a0 a1 (a0.l.length+1) 0)
theorem Z80_walk {a0 a1:Sl Int}{w0 w1:Option Nat}{r:Bool}(hE:Z80 a0 a1=some r) (H:Heap) :AC Tryz.prog 52 [.d (Sl.d 1 (intE .i64) w0 a0),.d (Sl.d 1 (intE .i64) w1 a1)] H fun v h'=>v=.a (.d (.bool r))/\h'=H:=by
 unfold Z80 at hE;refine AC.oW 26 [.tmp 4] Tryz.call52 Tryz.func52 ?_;refine seqR (S As (nil ?_));refine seqK fun K2 hK2=>?_;refine seqR (S Mv ?_);refine sLen (f:=(intE .i64)) (s:=a0) (TK rfl) rfl rfl rfl rfl fun hL4=>?_;refine S Mv ?_;refine sLen (f:=(intE .i64)) (s:=a1) (TK rfl) rfl rfl rfl rfl fun hL5=>?_;refine S BI (nil ?_);refine cE hE (fun hc6 hE=>?_) (fun hc6 hE=>?_)
 ·refine seqR (S As (nil ?_));exact rt hE
 refine sk hK2 ?_;clear hK2 K2;refine seqJH kN (fun(z:Unit)=>[]) (fun z=>H) (fun z=>Z80_j8 =some r) ?_ ?_
 ·intro K8 hK8;refine seqR (S Mv ?_);refine sLen (f:=(intE .i64)) (s:=a0) (TK rfl) rfl rfl rfl rfl fun hL11=>?_;refine S Mv (nil ?_);refine block ?_;refine loopH (TA 0 (TA 1 (TA 12 kN))) (fun(z:Nat×Nat)=>[(13,.a (.d (.int .i64 ((z.2:Nat):Int))))]) (fun z=>H) (fun z=>z.1) (fun z=>Z80_l12 a0 a1 z.1 z.2=some r) ((a0.l.length+1),0) hE wA ?_;rintro ⟨n12,s13_13⟩ hE K12 hK12;try dsimp only at hE
  cases n12 with
  | zero=>cases hE
  | succ n12 =>
    rw [Z80_l12] at hE;refine seqR (S BI (nil ?_));refine seqK fun K15 hK15=>?_;refine cE hE (fun hc16 hE=>?_) (fun hc16 hE=>?_)
    ·try dsimp only at hc16
     have hf16:=oD hc16;refine sk hK15 ?_;clear hK15 K15;refine seqK fun K17 hK17=>?_;refine block ?_;refine seqR (S Mv (S As (nil ?_)));refine AWp.seqD (Sd Mv (Sd Mv ?_));obtain⟨x20,gx20,hE⟩:=bO hE;refine Sd (ix (intE .i64) s13_13 gx20) ?_;refine Sd Ld (Sd Mv (Sd Mv ?_));obtain⟨x21,gx21,hE⟩:=bO hE;refine Sd (ix (intE .i64) s13_13 gx21) ?_;refine Sd Ld (Sd BI ?_);refine DOps.nil (by decide +kernel) ?_
     refine cE hE (fun hc22 hE=>?_) (fun hc22 hE=>?_)
     ·refine seqR (S As (nil ?_));exact rt hE
     refine sk hK17 ?_;clear hK17 K17;refine region ?_;refine SI ?_;refine S Mv (nil ?_);exact hK12 _ (n12,(s13_13+1)) wA hE (nS _)
    refine AWp.exit ?_;exact hK8 _ () wA hE
 rintro _ hE;try dsimp only at hE
 unfold Z80_j8 at hE;refine seqR (S As (nil ?_));exact rt hE
def Tryz.lay118_ren:Go.Shelf.Ren:=⟨fun|10=>118|6=>138|n=>n,fun|22=>27|23=>3|25=>141|3=>3|4=>4|0=>0|n=>n,fun|n=>n⟩
theorem Tryz.lay118:Go.Proofs.SlLaysH.n10 Tryz.prog Tryz.lay118_ren:={
 mixed:=by kernel_rfl
 f6:=⟨Tryz.f138.name,by decide,Tryz.func138.trans (congrArg some (by kernel_rfl))⟩
 f10:=⟨Tryz.f118.name,by decide,Tryz.func118.trans (congrArg some (by kernel_rfl))⟩
 t0:=Tryz.underlying0
 a0:=Tryz.isAgg0
 z0:=Tryz.sizeOf0
 v0:=Tryz.zeroValue0
 t3:=Tryz.underlying3
 a3:=Tryz.isAgg3
 z3:=Tryz.sizeOf3
 v3:=Tryz.zeroValue3
 t4:=Tryz.underlying4
 a4:=Tryz.isAgg4
 z4:=Tryz.sizeOf4
 v4:=Tryz.zeroValue4
 t22:=Tryz.underlying27
 a22:=Tryz.isAgg27
 z22:=Tryz.sizeOf27
 v22:=Tryz.zeroValue27
 a23:=Tryz.isAgg3
 z23:=Tryz.sizeOf3
 t25:=Tryz.underlying141
 a25:=Tryz.isAgg141
 z25:=Tryz.sizeOf141
 v25:=Tryz.zeroValue141 }
theorem Z78_walk {s:Sl Int}{f:Int->Option Bool}{g:Nat}(ht:∀x,∃z,f x=some z) (eg:∀args w,(callFunc g args).run Tryz.prog w=.ok (.enter g args) w) (hg:∀x z w,f x=some z->Calls Tryz.prog g #[.int .i64 x] w fun e w'=>e=.returned (.bool z)/\w'=w)
  {H:Heap}{id m:Nat}{nl:Bool}(hH:H id=some (.arr 1 (s.l.map (intE .i64)))) (hm:m=s.l.length) (hn:nl=s.nl):AC Tryz.prog 118 [.d (.arr 1 id nl m),.d (.func g [])] H fun r h'=>r=.a (.d (Sl.d 1 (intE .i64) none (delL f s)))/\h'=H.set id none :=
 delI_calls Tryz.lay118 Tryz.zeroValue3 ht eg hg hH hm hn rfl
def Z75 (a0:(Sl Int)):Option (Sl Int):=bif a0.nl then(some (Sl.nil:Sl Int)) else((appC 8 (⟨false,[]⟩:Sl Int) a0).bind fun x7=>some x7)
theorem Z75_walk {a0:Sl Int}{w0:Option Nat}{r:Sl Int}(hE:Z75 a0=some r) (H:Heap) :AC Tryz.prog 119 [.d (Sl.d 1 (intE .i64) w0 a0)] H fun v h'=>v=.a (.d (Sl.d 1 (intE .i64) none r))/\h'=H:=by
 unfold Z75 at hE;refine AC.oW 8 [.tmp 2] Tryz.call119 Tryz.func119 ?_;refine seqR ?_;refine s0 (assignNil (k':=1) rfl) rfl ?_;refine nil ?_;refine seqK fun K2 hK2=>?_;refine seqR (S Mv ?_);refine s0 (eqNil (TK rfl) rfl rfl) rfl ?_;refine nil ?_;refine cE hE (fun hc4 hE=>?_) (fun hc4 hE=>?_)
 ·refine seqR ?_;refine s0 (assignNil (k':=1) rfl) rfl ?_;refine nil ?_;exact rt hE
 refine sk hK2 ?_;clear hK2 K2;refine seqR ?_;refine s0 (buildSliceF (TK rfl) rfl (TK rfl) rfl rfl rfl rfl rfl rfl) rfl ?_;refine S Mv ?_;obtain⟨x7,gx7,hE⟩:=bO hE;refine s0 (appFM (f:=(intE .i64)) (TK rfl) rfl (TK rfl) (TK rfl) ⟨_,rfl⟩ rfl rfl (by decide) rfl rfl rfl (by intro q h; cases h<;>decide) rfl rfl gx7) rfl ?_;refine S As (nil ?_);exact rt hE
theorem Z75_arr {a0:Sl Int}{w0:Option Nat}{ar0:Nat}{r:Sl Int}(hE:Z75 a0=some r) (H:Heap) (har0:H ar0=some (.arr 1 [])) :AC Tryz.prog 119 [.d (Sl.d 1 (intE .i64) w0 a0)] H fun v h'=>v=.a (.d (.arr 1 ar0 r.nl r.l.length))/\h'=H.set ar0 (some (.arr 1 (r.l.map (intE .i64)))):=by
 unfold Z75 at hE;refine AC.oW 8 [.tmp 2] Tryz.call119 Tryz.func119 ?_;refine AWp.heqA (h':=(H.set ar0 (some (.arr 1 [])))) (by funext n_; simp only [Heap.set]; (repeat' split)<;>simp_all) ?_;refine seqR ?_;refine s0 (assignNil (k':=1) rfl) rfl ?_;refine AOps.nilR 2 1 ar0 rfl hpG ?_;refine nil ?_;refine seqK fun K2 hK2=>?_;refine seqR (S Mv ?_);refine s0 (eqNil (TK rfl) rfl rfl) rfl ?_;refine nil ?_
 refine cE hE (fun hc4 hE=>?_) (fun hc4 hE=>?_)
 ·refine seqR ?_;refine s0 (assignNil (k':=1) rfl) rfl ?_;refine AOps.nilR 2 1 ar0 rfl hpG ?_;refine nil ?_;exact rt hE
 refine sk hK2 ?_;clear hK2 K2;refine seqR ?_;refine s0 (buildSliceF (TK rfl) rfl (TK rfl) rfl rfl rfl rfl rfl rfl) rfl ?_;refine AOps.fullR 5 1 ar0 rfl hpG ?_;refine S Mv ?_;obtain⟨x7,gx7,hE⟩:=bO hE;refine sH (appR (f:=(intE .i64)) (s:=(⟨false,[]⟩:Sl Int)) (TK rfl) rfl (TK rfl) (TK rfl) ⟨_,rfl⟩ rfl rfl rfl rfl rfl rfl hpG (by first|rfl|simp [Sl.setL,Sl.nil,sortL_len]) rfl gx7) rfl ?_;refine hq (H.set ar0 (some (.arr 1 (x7.l.map (intE .i64))))) ?_
 refine S As (nil ?_);exact rt hE
def Z121 (a0:Int):Option Bool:=some (decide (a0=(1:Int)))
theorem Z121_tot (x:Int):∃z,Z121 x=some z:=⟨_,rfl⟩
theorem Z121_enter (args:Array Value) (w:World):(callFunc 120 args).run Tryz.prog w=.ok (.enter 120 args) w:=Tryz.call120 args w
theorem Z121_calls (x:Int) (z:Bool) (w:World) (h:Z121 x=some z):Calls Tryz.prog 120 #[.int .i64 x] w fun e w'=>e=.returned (.bool z)/\w'=w:=by
 obtain rfl:=oJ h
 go_enter Tryz.func120,Tryz.ntmps120
 go_wp2
 go_ret
 exact⟨rfl,rfl⟩
def Z120 (a0:(Sl Int)):Option (Sl Int):=(Z75 a0).bind fun x3=>(some (delL Z121 x3)).bind fun x4=>some x4
theorem Z120_walk {a0:Sl Int}{w0:Option Nat}{r:Sl Int}(hE:Z120 a0=some r) (H:Heap) :AC Tryz.prog 87 [.d (Sl.d 1 (intE .i64) w0 a0)] H fun v h'=>v=.a (.d (Sl.d 1 (intE .i64) none r))/\h'=H:=by
 unfold Z120 at hE;refine AC.oW 6 [.tmp 2] Tryz.call87 Tryz.func87 ?_;refine AWp.arrO 1 fun ar1 har1=>?_;refine seqR ?_;refine s0 (assignNil (k':=1) rfl) rfl ?_;refine nil ?_;refine seqR (S Mv ?_);obtain⟨x3,gx3,hE⟩:=bO hE;refine sH (callH rfl rfl (Z75_arr gx3 _ hpG)) rfl ?_;refine hq (H.set ar1 (some (.arr 1 (x3.l.map (intE .i64))))) ?_;obtain⟨x4,gx4,hE⟩:=bO hE;have ex4:=oJ gx4;refine sH (callH rfl rfl (Z78_walk (s:=x3) (f:=Z121) Z121_tot Z121_enter Z121_calls hpG (by first|rfl|simp [Sl.setL,Sl.nil,sortL_len]) rfl)) rfl ?_
 refine hq H ?_;rw [ex4];refine S As (nil ?_);exact rt hE
def Z118 (a0:TRef) (a1:TRef):Option Bool:=guardO (((a0.FName==a1.FName))) (Z120 a0.FWraps) (Sl.nil:Sl Int) fun x3=>guardO (((a0.FName==a1.FName))) (Z120 a1.FWraps) (Sl.nil:Sl Int) fun x4=>guardO (((a0.FName==a1.FName))) (Z80 x3 x4) false fun x5=>some (((a0.FName==a1.FName))&&x5)
theorem Z118_walk {a0 a1:TRef}{r:Bool}(hE:Z118 a0 a1=some r) (H:Heap) :AC Tryz.prog 49 [.agg (TRef.c a0),.agg (TRef.c a1)] H fun v h'=>v=.a (.d (.bool r))/\h'=H:=by
 unfold Z118 at hE;refine AC.oW 19 [.tmp 4] Tryz.call49 Tryz.func49 ?_;refine seqR (S BX (S BX (S As (nil ?_))));refine AWp.seqD (Sd Fv (Sd Ld (Sd Fv (Sd Ld (Sd BS (Sd Mv (G0d Fv ?_)))))));refine G1d 11 rfl Ld ?_;obtain⟨x3,gx3,hE⟩:=gO hE;refine Gc1d 12 rfl rfl rfl rfl rfl (fun hC=>Z120_walk (gx3 hC)) ?_;refine G0d Fv ?_;refine G1d 14 rfl Ld ?_;obtain⟨x4,gx4,hE⟩:=gO hE;refine Gc1d 15 rfl rfl rfl rfl rfl (fun hC=>Z120_walk (gx4 hC)) ?_
 obtain⟨x5,gx5,hE⟩:=gO hE;refine Gc2d 13 16 rfl rfl rfl rfl rfl rfl (fun hC=>Z80_walk (gx5 hC)) ?_;refine Sd PA (Sd As ?_);refine DOps.nil (by decide +kernel) ?_;exact rt hE
def Z113 (a0:TRef):Option Bool:=guardO ((decide ((0:Int)<((a0.FWraps.l.length:Nat):Int)))) (a0.FWraps.l[0]?) (0:Int) fun x4=>some ((decide ((0:Int)<((a0.FWraps.l.length:Nat):Int)))&&(decide (x4=(1:Int))))
theorem Z113_walk {a0:TRef}{r:Bool}(hE:Z113 a0=some r) (H:Heap) :AC Tryz.prog 50 [.agg (TRef.c a0)] H fun v h'=>v=.a (.d (.bool r))/\h'=H:=by
 unfold Z113 at hE;refine AC.oW 14 [.tmp 2] Tryz.call50 Tryz.func50 ?_;refine seqR (S BX (S As (nil ?_)));refine seqR (S Fv (S Ld ?_));refine sLen (f:=(intE .i64)) (s:=a0.FWraps) (TK rfl) rfl rfl rfl rfl fun hL3=>?_;refine S BI (S Mv (G0 Fv ?_));refine G1 8 rfl Ld ?_;obtain⟨x4,gx4,hE⟩:=gO hE;refine gC rfl rfl (fun hC=>ungdA (k:=9) rfl (idxMn (f:=(intE .i64)) (n:=0) (TK rfl) rfl (TK rfl) rfl rfl rfl (gx4 hC))) rfl ?_
 refine G1 10 rfl Ld ?_;refine G1 11 rfl BI ?_;refine S PA (S As (nil ?_));exact rt hE
def Z114_j3 (a0:TRef)  (s3_4:(Sl Int)):Option TRef:=(Z75 s3_4).bind fun x6=>some (TRef.mk a0.FName x6)
def Z114 (a0:TRef):Option TRef:=(Z113 a0).bind fun x8=>bif x8 then((partC a0.FWraps (some (1:Int)) none).bind fun x10=>Z114_j3 a0  x10) else(Z114_j3 a0  a0.FWraps)
theorem Z114_walk {a0 r:TRef}(hE:Z114 a0=some r) (H:Heap) :AC Tryz.prog 89 [.agg (TRef.c a0)] H fun v h'=>v=.a (.agg (TRef.c r))/\h'=H:=by
 unfold Z114 at hE;refine AC.oW 15 [.cell 2 29] Tryz.call89 Tryz.func89 ?_;refine seqR (S BX ?_);refine Sl ?_;refine nil ?_;refine seqR (S Fv (S Ld (S As (nil ?_))));refine seqJH (TA 1 (TA 2 kN)) (fun(z:(Sl Int))=>[(3,.a (.d (Sl.d 1 (intE .i64) none z)))]) (fun z=>H) (fun z=>Z114_j3 a0 z=some r) ?_ ?_
 ·intro K3 hK3;refine seqR (S Ld ?_);obtain⟨x8,gx8,hE⟩:=bO hE;refine Sc rfl rfl (Z113_walk gx8) ?_;refine nil ?_;refine cE hE (fun hc9 hE=>?_) (fun hc9 hE=>?_)
  ·refine region ?_;refine S Mv ?_;obtain⟨x10,gx10,hE⟩:=bO hE;refine s0 (partM (f:=(intE .i64)) (l:=(some (1:Int))) (r:=none) (TK rfl) rfl (TK rfl) rfl rfl rfl trivial gx10) rfl ?_;refine S As (nil ?_);exact hK3 _ x10 wA hE
  refine AWp.skip ?_;exact hK3 _ a0.FWraps wA hE
 rintro s3_4 hE;try dsimp only at hE
 unfold Z114_j3 at hE;refine AWp.seqD (Sd Fv (Sd Ld (Sd Mv ?_)));obtain⟨x6,gx6,hE⟩:=bO hE;refine Scd rfl rfl (Z75_walk gx6) ?_;refine Sd BU ?_;refine DOps.sLn (storeLFA (TK rfl) rfl rfl rfl rfl rfl) ?_;refine DOps.nil (by decide +kernel) ?_;exact rt hE
def Z112 (a0:TRef):Option Bool:=(Z114 a0).bind fun x3=>guardO ((decide ((0:Int)<((x3.FWraps.l.length:Nat):Int)))) (x3.FWraps.l[0]?) (0:Int) fun x6=>some ((decide ((0:Int)<((x3.FWraps.l.length:Nat):Int)))&&(decide (x6=(2:Int))))
theorem Z112_walk {a0:TRef}{r:Bool}(hE:Z112 a0=some r) (H:Heap) :AC Tryz.prog 88 [.agg (TRef.c a0)] H fun v h'=>v=.a (.d (.bool r))/\h'=H:=by
 unfold Z112 at hE;refine AC.oW 16 [.tmp 2] Tryz.call88 Tryz.func88 ?_;refine seqR ?_;refine sL (boxL rfl (by repeat (first|exact Snoc.nil|apply Snoc.cons))) rfl ?_;refine S As (nil ?_);refine seqR (S LL ?_);obtain⟨x3,gx3,hE⟩:=bO hE;refine Sc rfl rfl (Z114_walk gx3) ?_;refine Sf ?_;refine nil ?_;refine seqR (S FL (S LL ?_));refine sLen (f:=(intE .i64)) (s:=x3.FWraps) (TK rfl) rfl rfl rfl rfl fun hL5=>?_
 refine S BI (S Mv (G0 FL ?_));refine gC rfl rfl (fun hC=>ungdLA (k:=10) rfl (loadL (TK rfl) rfl rfl rfl rfl)) rfl ?_;obtain⟨x6,gx6,hE⟩:=gO hE;refine gC rfl rfl (fun hC=>ungdA (k:=11) rfl (idxMn (f:=(intE .i64)) (n:=0) (TK rfl) rfl (TK rfl) rfl rfl rfl (gx6 hC))) rfl ?_;refine G1 12 rfl Ld ?_;refine G1 13 rfl BI ?_;refine S PA (S As (nil ?_));exact rt hE
end Go.Proofs
