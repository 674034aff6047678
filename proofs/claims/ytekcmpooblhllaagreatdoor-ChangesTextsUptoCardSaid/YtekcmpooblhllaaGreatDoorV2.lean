import Derived.Test.YtekcmpooblhllaaGreatDoorV1
set_option maxRecDepth 100000
set_option maxHeartbeats 2000000
set_option linter.unusedVariables false
set_option linter.unusedSimpArgs false
namespace Go.Proofs
open Go Go.Ab
open AOps Cert AWp Keeps KeepsT
variable {lou:Lou}
def Z111 (a0:TRef):Option (TRef×Bool):=(Z112 a0).bind fun x4=>bif (!x4) then(some ((TRef.mk ([]:Bs) (Sl.nil:Sl Int)),false)) else((Z114 a0).bind fun x8=>(partC x8.FWraps (some (1:Int)) none).bind fun x10=>some ((TRef.mk x8.FName x10),true))
theorem Z111_walk {a0:TRef}{r:TRef×Bool}(hE:Z111 a0=some r) (H:Heap) :AC Tryz.prog 51 [.agg (TRef.c a0)] H fun v h'=>v=.tup [.agg (TRef.c r.1),.d (.bool r.2)]/\h'=H:=by
 unfold Z111 at hE;refine AC.oW 15 [.cell 2 29,.tmp 3] Tryz.call51 Tryz.func51 ?_;refine seqR ?_;refine sL (boxL rfl (by repeat (first|exact Snoc.nil|apply Snoc.cons))) rfl ?_;refine Sl ?_;refine S As (nil ?_);refine seqK fun K2 hK2=>?_;refine seqR (S LL ?_);obtain⟨x4,gx4,hE⟩:=bO hE;refine Sc rfl rfl (Z112_walk gx4) ?_;refine S NB (nil ?_);refine cE hE (fun hc5 hE=>?_) (fun hc5 hE=>?_)
 ·refine seqR (S BU ?_);refine Sf ?_;refine S As (nil ?_);exact rt hE
 refine sk hK2 ?_;clear hK2 K2;refine seqR (S LL ?_);obtain⟨x8,gx8,hE⟩:=bO hE;refine Sc rfl rfl (Z114_walk gx8) ?_;refine Sf ?_;refine nil ?_;refine seqR (S FL (S LL ?_));obtain⟨x10,gx10,hE⟩:=bO hE;refine s0 (partM (f:=(intE .i64)) (l:=(some (1:Int))) (r:=none) (TK rfl) rfl (TK rfl) rfl rfl rfl trivial gx10) rfl ?_;refine S FL ?_;refine Sf ?_;refine nil ?_;refine seqR (S LL ?_);refine Sf ?_;refine S As (nil ?_)
 exact rt hE
def Z119_j14 (y10_l0:TRef) (y11_l1:TRef) (y12_l2:TRef) (k_next_9:TRef->TRef->TRef->TRef->Option (TRef×Bool)) (y15_l3:TRef):Option (TRef×Bool):=(Z111 y10_l0).bind fun x17=>(Z111 y11_l1).bind fun x19=>bif ((!x17.2)||(!x19.2)) then(some (y15_l3,true)) else((appC 8 y15_l3.FWraps (⟨false,[(2:Int)]⟩:Sl Int)).bind fun x25=>k_next_9 x17.1 x19.1 y12_l2 (TRef.mk y15_l3.FName x25))
def Z119_l9 :Nat->TRef->TRef->TRef->TRef->Option (TRef×Bool)
 | 0,_,_,_,_=>none
 | n9+1,y10_l0,y11_l1,y12_l2,y13_l3=>(Z113 y10_l0).bind fun x27=>guardO (x27) (Z113 y11_l1) false fun x28=>bif (x27&&x28) then((appC 8 y13_l3.FWraps (⟨false,[(1:Int)]⟩:Sl Int)).bind fun x30=>Z119_j14 y10_l0 y11_l1 y12_l2 ((Z119_l9  n9)) (TRef.mk y13_l3.FName x30)) else(Z119_j14 y10_l0 y11_l1 y12_l2 ((Z119_l9  n9)) y13_l3)
def Z119 (a0:TRef) (a1:TRef):Option (TRef×Bool):=(Z118 a0 a1).bind fun x4=>bif (!x4) then(some ((TRef.mk ([]:Bs) (Sl.nil:Sl Int)),false)) else(Z119_l9 F0 a0 a1 TRef.zero (TRef.mk a0.FName (Sl.nil:Sl Int)))
theorem Z119_walk {a0 a1:TRef}{r:TRef×Bool}(hE:Z119 a0 a1=some r) (H:Heap) :AC Tryz.prog 32 [.agg (TRef.c a0),.agg (TRef.c a1)] H fun v h'=>v=.tup [.agg (TRef.c r.1),.d (.bool r.2)]/\h'=H:=by
 unfold Z119 at hE;refine AC.oW 54 [.cell 4 29,.tmp 5] Tryz.call32 Tryz.func32 ?_;refine seqR ?_;refine sL (boxL rfl (by repeat (first|exact Snoc.nil|apply Snoc.cons))) rfl ?_;refine sL (boxL rfl (by repeat (first|exact Snoc.nil|apply Snoc.cons))) rfl ?_;refine Sl ?_;refine S As (nil ?_);refine seqK fun K2 hK2=>?_;refine seqR (S LL (S LL ?_));obtain⟨x4,gx4,hE⟩:=bO hE;refine Sc rfl rfl (Z118_walk gx4) ?_
 refine S NB (nil ?_);refine cE hE (fun hc5 hE=>?_) (fun hc5 hE=>?_)
 ·refine seqR (S BU ?_);refine Sf ?_;refine S As (nil ?_);exact rt hE
 refine sk hK2 ?_;clear hK2 K2;refine seqR (S FL (S LL (S BU ?_)));refine Sl ?_;refine AOps.tok 1 fun tk6_8 htk6_8=>?_;refine AOps.relocal 3 _ rfl (fun j w cs hh hx=>tok_cell 1 1 1 hh (t:=tk6_8) hpG hx rfl) ?_;refine Sf ?_;refine AOps.relocal 3 _ rfl (fun j w cs hh hx=>tok_cell 1 1 1 hh (t:=tk6_8) hpG hx rfl) ?_;refine nil ?_;refine block ?_;refine loopO (TA 2 (TA 3 (TA 4 (TA 6 kN)))) (fun(z:Nat×TRef×TRef×TRef×TRef)=>[]) (fun z=>[TRef.c z.2.1,TRef.c z.2.2.1,TRef.c z.2.2.2.1,(strE z.2.2.2.2.FName++[Sl.d 1 (intE .i64) (some tk6_8) z.2.2.2.2.FWraps])]) (fun z=>(H.set tk6_8 (some (.tok 1 z.2.2.2.2.FWraps.l.length)))) (fun z=>z.1) (fun z=>Z119_l9 z.1 z.2.1 z.2.2.1 z.2.2.2.1 z.2.2.2.2=some r) (F0,a0,a1,TRef.zero,(TRef.mk a0.FName (Sl.nil:Sl Int))) hE wA ?_
 rintro ⟨n9,y10_l0,y11_l1,y12_l2,y13_l3⟩ hE K9 hK9;try dsimp only at hE
 cases n9 with
 | zero=>cases hE
 | succ n9 =>
   rw [Z119_l9] at hE;refine block ?_;refine seqJ (TA 2 (TA 3 (TA 4 (TA 6 kN)))) (fun(z:TRef)=>[]) (fun z=>[TRef.c y10_l0,TRef.c y11_l1,TRef.c y12_l2,(strE z.FName++[Sl.d 1 (intE .i64) (some tk6_8) z.FWraps])]) (fun z=>(H.set tk6_8 (some (.tok 1 z.FWraps.l.length)))) (fun z=>Z119_j14 y10_l0 y11_l1 y12_l2 ((Z119_l9 n9)) z=some r) ?_ ?_
   ·intro K14 hK14;refine seqR (S LL ?_);obtain⟨x27,gx27,hE⟩:=bO hE;refine Sc rfl rfl (Z113_walk gx27) ?_;refine S Mv (G0 LL ?_);obtain⟨x28,gx28,hE⟩:=gO hE;refine Gc1 22 rfl rfl rfl rfl rfl (fun hC=>Z113_walk (gx28 hC)) ?_;refine S PA (nil ?_);refine cE hE (fun hc29 hE=>?_) (fun hc29 hE=>?_)
    ·refine region ?_;refine S FL (S LL (S BV ?_));obtain⟨x30,gx30,hE⟩:=bO hE;refine SH (am (intE .i64) (TK rfl) rfl (TK rfl) (TK rfl) gx30) ?_;refine hq (H.set tk6_8 (some (.tok 1 x30.l.length))) ?_;refine S FL ?_;refine Sf ?_;refine nil ?_;exact hK14 _ (TRef.mk y13_l3.FName x30) wA hE
    refine AWp.skip ?_;exact hK14 _ y13_l3 wA hE
   rintro y15_l3 hE;try dsimp only at hE
   unfold Z119_j14 at hE;refine seqR (S LL ?_);obtain⟨x17,gx17,hE⟩:=bO hE;refine Sc rfl rfl (Z111_walk gx17) ?_;refine S Mv (S EX (S EX ?_));refine Sl ?_;refine Sf ?_;refine S As (nil ?_);refine freezeA 7 _ rfl (KA 2 (KA 3 (KA 4 (KA 6 (KA 8 Keeps.nil))))) ?_;refine seqR (S LL ?_);obtain⟨x19,gx19,hE⟩:=bO hE;refine Sc rfl rfl (Z111_walk gx19) ?_;refine S Mv (S EX (S EX ?_));refine Sl ?_;refine Sf ?_
   refine S As (nil ?_);refine freezeA 9 _ rfl (KA 2 (KA 3 (KA 4 (KA 6 (KA 7 (KA 8 (KA 10 Keeps.nil))))))) ?_;refine seqK fun K20 hK20=>?_;refine seqR (S Mv (S NB (S Mv (G0 Mv ?_))));refine G1 43 rfl NB ?_;refine S PO (nil ?_);refine cE hE (fun hc22 hE=>?_) (fun hc22 hE=>?_)
   ·refine seqK fun K23 hK23=>?_;refine AWp.relocal 3 _ rfl (fun j w cs hh hx=>untok_cell 1 hx rfl) ?_;refine region ?_;refine S LL ?_;refine Sf ?_;refine S As (nil ?_);refine hK23 _ ?_;clear hK23 K23;refine AWp.ret ?_;repeat (first|refine xBlock_ret ?_|refine xThen_ret ?_)
    obtain rfl:=oJ hE;refine retQ.retF H rfl ⟨rfl,rfl⟩ ?_
    first|exact Heap.sub_set htk6_8|(simp only [Heap.set_set]; exact Heap.sub_set htk6_8)
   refine sk hK20 ?_;clear hK20 K20;refine seqR (S FL (S LL (S BV ?_)));obtain⟨x25,gx25,hE⟩:=bO hE;refine SH (am (intE .i64) (TK rfl) rfl (TK rfl) (TK rfl) gx25) ?_;refine hq (H.set tk6_8 (some (.tok 1 x25.l.length))) ?_;refine S FL ?_;refine Sf ?_;refine nil ?_;refine AWp.draw rfl ?_;refine Sd Ld (Sd Ld ?_);refine DOps.sLn (storeLFA (TK rfl) rfl rfl rfl rfl rfl) ?_;refine DOps.sLn (storeLFA (TK rfl) rfl rfl rfl rfl rfl) ?_
   refine DOps.nil (by decide +kernel) ?_;exact hK9 _ (n9,x17.1,x19.1,y12_l2,(TRef.mk y15_l3.FName x25)) wA hE (nS _)
def Z117 (a0:TRef) (a1:TRef):Option Bool:=guardO (((a0.FName==a1.FName))) (Z80 a0.FWraps a1.FWraps) false fun x3=>some (((a0.FName==a1.FName))&&x3)
theorem Z117_walk {a0 a1:TRef}{r:Bool}(hE:Z117 a0 a1=some r) (H:Heap) :AC Tryz.prog 33 [.agg (TRef.c a0),.agg (TRef.c a1)] H fun v h'=>v=.a (.d (.bool r))/\h'=H:=by
 unfold Z117 at hE;refine AC.oW 17 [.tmp 4] Tryz.call33 Tryz.func33 ?_;refine seqR (S BX (S BX (S As (nil ?_))));refine seqR (S Fv (S Ld (S Fv (S Ld (S BS (S Mv (G0 Fv ?_)))))));refine G1 11 rfl Ld ?_;refine G0 Fv ?_;refine G1 13 rfl Ld ?_;obtain⟨x3,gx3,hE⟩:=gO hE;refine Gc2 12 14 rfl rfl rfl rfl rfl rfl (fun hC=>Z80_walk (gx3 hC)) ?_;refine S PA (S As (nil ?_));exact rt hE
def Z110 (a0:TRef) (a1:TRef):Option Bool:=(Z119 a0 a1).bind fun x3=>guardO (x3.2) (Z117 x3.1 a1) false fun x5=>some (x3.2&&x5)
theorem Z110_walk {a0 a1:TRef}{r:Bool}(hE:Z110 a0 a1=some r) (H:Heap) :AC Tryz.prog 18 [.agg (TRef.c a0),.agg (TRef.c a1)] H fun v h'=>v=.a (.d (.bool r))/\h'=H:=by
 unfold Z110 at hE;refine AC.oW 19 [.tmp 4] Tryz.call18 Tryz.func18 ?_;refine seqR (S BX (S BX (S As (nil ?_))));refine seqR (S Ld (S Ld ?_));obtain⟨x3,gx3,hE⟩:=bO hE;refine Sc rfl rfl (Z119_walk gx3) ?_;refine S Mv (S EX (S EX ?_));refine Sl ?_;refine Sf ?_;refine S As (nil ?_);refine freezeA 5 _ rfl (KA 3 (KA 6 Keeps.nil)) ?_;refine seqR (S Mv (S Mv (G0 Ld (G0 Ld ?_))));obtain⟨x5,gx5,hE⟩:=gO hE
 refine Gc2 15 16 rfl rfl rfl rfl rfl rfl (fun hC=>Z117_walk (gx5 hC)) ?_;refine S PA (S As (nil ?_));exact rt hE
section
variable [IsLoud lou]
def Z9_j2  :Option Bool:=some false
def Z9_j15 (a0:Z3)  (s27_16:Bool):Option Bool:=bif s27_16 then((Z115 a0.FFrom).bind fun x19=>(Z115 a0.FTo).bind fun x21=>guardO (((decide (x19.2=(0:Int)))&&(decide (x21.2=(0:Int))))) (Z110 x19.1 x21.1) false fun x23=>some (((decide (x19.2=(0:Int)))&&(decide (x21.2=(0:Int))))&&x23)) else(Z9_j2   )
def Z9_j9 (a0:Z3)  (s14_10:Bool):Option Bool:=bif s14_10 then((Z93 a0.FTo ([33]:Bs)).bind fun x13=>guardO ((!x13)) (Z90 a0.FTo ([32,61,32]:Bs)) false fun x14=>some ((!x13)&&(!x14))) else(bif (decide (a0.FKind=(9:Int))) then(Z9_j15 a0  (decide (a0.FKind=(9:Int)))) else(Z9_j15 a0  (decide (a0.FKind=(15:Int)))))
def Z9_j5 (a0:Z3)  (s9_6:Bool):Option Bool:=bif s9_6 then(some true) else(bif (decide (a0.FKind=(8:Int))) then(Z9_j9 a0  (decide (a0.FKind=(8:Int)))) else(Z9_j9 a0  (decide (a0.FKind=(14:Int)))))
def Z9 (a0:Z3):Option Bool:=bif (decide (a0.FKind=(2:Int))) then(Z9_j5 a0  (decide (a0.FKind=(2:Int)))) else(bif (decide (a0.FKind=(5:Int))) then(Z9_j5 a0  (decide (a0.FKind=(5:Int)))) else(bif (decide (a0.FKind=(12:Int))) then(Z9_j5 a0  (decide (a0.FKind=(12:Int)))) else(Z9_j5 a0  (decide (a0.FKind=(18:Int))))))
theorem Z9_walk {a0:Z3}{oE oM:Ab.Obj}{gE gM:Nat}{r:Bool}(hE:Z9 a0=some r) (H:Heap) (hgE:H gE=some oE) (hoE:IsErr Tryz.prog oE) (hgM:H gM=some oM) (hoM:IsMax Tryz.prog oM):AC Tryz.prog 7 [.agg (Z3.c a0)] H fun v h'=>v=.a (.d (.bool r))/\h'=H:=by
 unfold Z9 at hE;refine AC.oW 53 [.tmp 2] Tryz.call7 Tryz.func7 ?_;refine seqR (S BX (S As (nil ?_)));refine seqJH kN (fun(z:Unit)=>[]) (fun z=>H) (fun z=>Z9_j2 =some r) ?_ ?_
 ·intro K2 hK2;refine seqR (S Fv (S Ld (nil ?_)));refine block ?_;refine seqJH (TA 1 (TA 8 kN)) (fun(z:Bool)=>[(9,.a (.d (.bool z)))]) (fun z=>H) (fun z=>Z9_j5 a0 z=some r) ?_ ?_
  ·intro K5 hK5;refine seqR (S BI (S As (nil ?_)));refine cE hE (fun hc29 hE=>?_) (fun hc29 hE=>?_)
   ·refine AWp.skip ?_;exact hK5 _ (decide (a0.FKind=(2:Int))) wA hE
   refine seqR (S BI (S As (nil ?_)));refine cE hE (fun hc31 hE=>?_) (fun hc31 hE=>?_)
   ·refine AWp.skip ?_;exact hK5 _ (decide (a0.FKind=(5:Int))) wA hE
   refine seqR (S BI (S As (nil ?_)));refine cE hE (fun hc33 hE=>?_) (fun hc33 hE=>?_)
   ·refine AWp.skip ?_;exact hK5 _ (decide (a0.FKind=(12:Int))) wA hE
   refine region ?_;refine S BI (S As (nil ?_));exact hK5 _ (decide (a0.FKind=(18:Int))) wA hE
  rintro s9_6 hE;try dsimp only at hE
  unfold Z9_j5 at hE;refine cE hE (fun hc7 hE=>?_) (fun hc7 hE=>?_)
  ·refine seqR (S As (nil ?_));exact rt hE
  refine seqJH (TA 1 (TA 8 kN)) (fun(z:Bool)=>[(14,.a (.d (.bool z)))]) (fun z=>H) (fun z=>Z9_j9 a0 z=some r) ?_ ?_
  ·intro K9 hK9;refine seqR (S BI (S As (nil ?_)));refine cE hE (fun hc27 hE=>?_) (fun hc27 hE=>?_)
   ·refine AWp.skip ?_;exact hK9 _ (decide (a0.FKind=(8:Int))) wA hE
   refine region ?_;refine S BI (S As (nil ?_));exact hK9 _ (decide (a0.FKind=(14:Int))) wA hE
  rintro s14_10 hE;try dsimp only at hE
  unfold Z9_j9 at hE;refine cE hE (fun hc11 hE=>?_) (fun hc11 hE=>?_)
  ·refine seqR (S Fv (S Ld ?_));obtain⟨x13,gx13,hE⟩:=bO hE;refine Sc rfl rfl (Z93_walk gx13) ?_;refine S NB (S Mv (G0 Fv ?_));refine G1 22 rfl Ld ?_;obtain⟨x14,gx14,hE⟩:=gO hE;refine gC rfl rfl (fun hC=>ungdA (k:=23) rfl (callR rfl rfl (Z90_walk (gM:=gM) (oM:=oM) (gx14 hC) _ hpG (by assumption)))) rfl ?_;refine G1 24 rfl NB ?_;refine S PA (S As (nil ?_));exact rt hE
  refine seqJH (TA 1 kN) (fun(z:Bool)=>[(27,.a (.d (.bool z)))]) (fun z=>H) (fun z=>Z9_j15 a0 z=some r) ?_ ?_
  ·intro K15 hK15;refine seqR (S BI (S As (nil ?_)));refine cE hE (fun hc25 hE=>?_) (fun hc25 hE=>?_)
   ·refine AWp.skip ?_;exact hK15 _ (decide (a0.FKind=(9:Int))) wA hE
   refine region ?_;refine S BI (S As (nil ?_));exact hK15 _ (decide (a0.FKind=(15:Int))) wA hE
  rintro s27_16 hE;try dsimp only at hE
  unfold Z9_j15 at hE;refine cE hE (fun hc17 hE=>?_) (fun hc17 hE=>?_)
  ·refine seqR (S Fv (S Ld ?_));obtain⟨x19,gx19,hE⟩:=bO hE;refine s0 (callR rfl rfl (Z115_walk (gE:=gE) (oE:=oE) gx19 _ hpG (by assumption))) rfl ?_;refine S Mv (S EX (S EX ?_));refine Sl ?_;refine Sf ?_;refine S As (nil ?_);refine freezeA 3 _ rfl (KA 1 (KA 4 Keeps.nil)) ?_;refine seqR (S Fv (S Ld ?_));obtain⟨x21,gx21,hE⟩:=bO hE;refine s0 (callR rfl rfl (Z115_walk (gE:=gE) (oE:=oE) gx21 _ hpG (by assumption))) rfl ?_
   refine S Mv (S EX (S EX ?_));refine Sl ?_;refine Sf ?_;refine S As (nil ?_);refine freezeA 5 _ rfl (KA 3 (KA 4 (KA 6 Keeps.nil))) ?_;refine seqR (S Mv (S BI (S Mv (G0 Mv ?_))));refine G1 45 rfl BI ?_;refine S PA (S Mv (G0 Ld (G0 Ld ?_)));obtain⟨x23,gx23,hE⟩:=gO hE;refine Gc2 49 50 rfl rfl rfl rfl rfl rfl (fun hC=>Z110_walk (gx23 hC)) ?_;refine S PA (S As (nil ?_));exact rt hE
  refine AWp.skip ?_;exact hK2 _ () wA hE
 rintro _ hE;try dsimp only at hE
 unfold Z9_j2 at hE;refine seqR (S As (nil ?_));exact rt hE
end
def Z72_j2  (y3_l0:TDef):Option (TDef×Bool):=some ((TDef.mk (0:Int) ([]:Bs) (Sl.nil:Sl Bs) (Sl.nil:Sl TDir) (Sl.nil:Sl Z4) (Sl.nil:Sl Z6) (Sl.nil:Sl Z5)),false)
def Z72_l7 (a0:TDoc) (a1:Bs) :Nat->Nat->TDef->Option (TDef×Bool)
 | 0,_,_=>none
 | n7+1,s11_8,y9_l0=>bif (decide (((s11_8:Nat):Int)<((a0.FDefs.l.length:Nat):Int))) then((a0.FDefs.l[s11_8]?).bind fun x15=>bif ((x15.FName==a1)) then(some (x15,true)) else((Z72_l7 a0 a1 n7) (s11_8+1) y9_l0)) else(Z72_j2   y9_l0)
def Z72 (a0:TDoc) (a1:Bs):Option (TDef×Bool):=Z72_l7 a0 a1 (a0.FDefs.l.length+1) 0 TDef.zero
theorem Z72_walk {a0:TDoc}{a1:Bs}{r:TDef×Bool}(hE:Z72 a0 a1=some r) (H:Heap) :AC Tryz.prog 22 [.agg (TDoc.c a0),.d (.str a1)] H fun v h'=>v=.tup [.agg (TDef.c r.1),.d (.bool r.2)]/\h'=H:=by
 unfold Z72 at hE;refine AC.oW 22 [.cell 4 53,.tmp 5] Tryz.call22 Tryz.func22 ?_;refine seqR (S BX ?_);refine Sl ?_;refine S As (nil ?_);refine seqJ (TA 4 kN) (fun(z:TDef)=>[]) (fun z=>[TDef.c z]) (fun z=>H) (fun z=>Z72_j2 z=some r) ?_ ?_
 ·intro K2 hK2;refine seqR (S Fv (S Ld ?_));refine sLen (f:=TDef.c) (s:=a0.FDefs) (TK rfl) rfl rfl rfl rfl fun hL6=>?_;refine S Mv (nil ?_);refine block ?_;refine loopO (TA 1 (TA 4 (TA 9 (TA 10 kN)))) (fun(z:Nat×Nat×TDef)=>[(11,.a (.d (.int .i64 ((z.2.1:Nat):Int))))]) (fun z=>[TDef.c z.2.2]) (fun z=>H) (fun z=>z.1) (fun z=>Z72_l7 a0 a1 z.1 z.2.1 z.2.2=some r) ((a0.FDefs.l.length+1),0,TDef.zero) hE wA ?_
  rintro ⟨n7,s11_8,y9_l0⟩ hE K7 hK7;try dsimp only at hE
  cases n7 with
  | zero=>cases hE
  | succ n7 =>
    rw [Z72_l7] at hE;refine seqR (S BI (nil ?_));refine seqK fun K11 hK11=>?_;refine cE hE (fun hc12 hE=>?_) (fun hc12 hE=>?_)
    ·try dsimp only at hc12
     have hf12:=oD hc12;refine sk hK11 ?_;clear hK11 K11;refine seqK fun K13 hK13=>?_;refine block ?_;refine seqR ?_;obtain⟨x15,gx15,hE⟩:=bO hE;refine S (ix TDef.c s11_8 gx15) (S Ld ?_);refine Sl ?_;refine Sf ?_;refine nil ?_;refine freezeA 7 _ rfl (KA 1 (KA 4 (KA 9 (KA 10 (KA 11 Keeps.nil))))) ?_;refine seqR (S Fv (S Ld (S Mv (S BS (nil ?_)))));refine cE hE (fun hc17 hE=>?_) (fun hc17 hE=>?_)
     ·refine seqR (S Ld ?_);refine Sf ?_;refine S As (nil ?_);exact rt hE
     refine sk hK13 ?_;clear hK13 K13;refine region ?_;refine SI ?_;refine S Mv (nil ?_);exact hK7 _ (n7,(s11_8+1),y9_l0) wA hE (nS _)
    refine AWp.exit ?_;exact hK2 _ y9_l0 wA hE
 rintro y3_l0 hE;try dsimp only at hE
 unfold Z72_j2 at hE;refine seqR (S BU ?_);refine Sf ?_;refine S As (nil ?_);exact rt hE
def Z13 (a0:Z0) (a1:Int) (a2:Bs) (a3:Bs) (a4:Bs) (a5:Bs):Option Z0:=(appC 88 a0.Fout (⟨false,[(Z3.mk a1 a0.Fname a2 a3 a4 a5)]⟩:Sl Z3)).bind fun x1=>some (Z0.mk a0.Fname x1)
theorem Z13_walk {a0:Z0}{a1:Int}{a2 a3 a4 a5:Bs}{c0 c0_1:Nat}{r:Z0}(hE:Z13 a0 a1 a2 a3 a4 a5=some r) (H:Heap) (hc0:H c0=some (.cells (Z0.cg (some c0_1) a0))) (ht0_1:H c0_1=some (.tok 6 a0.Fout.l.length)):AC Tryz.prog 23 [.d (.ptr c0 0),.d (.int .i64 a1),.d (.str a2),.d (.str a3),.d (.str a4),.d (.str a5)] H fun v h'=>v=.tup []/\h'=((H.set c0_1 (some (.tok 6 r.Fout.l.length))).set c0 (some (.cells (Z0.cg (some c0_1) r)))):=by
 unfold Z13 at hE;refine AC.oW 31 [] Tryz.call23 Tryz.func23 ?_;have ne_c0_c0_1:c0≠c0_1:=fun e_=>by subst e_; simp_all
 refine AWp.heqA (h':=((H.set c0_1 (some (.tok 6 a0.Fout.l.length))).set c0 (some (.cells (Z0.cg (some c0_1) a0))))) (by funext n_; simp only [Heap.set]; (repeat' split)<;>simp_all) ?_;refine AWp.draw rfl ?_;refine Sd Mv (Sd Mv (Sd NP ?_));refine DOps.s0 (fieldP (TK rfl) rfl rfl (TK rfl) rfl rfl) rfl ?_;refine DOps.s0 (loadP (TK rfl) rfl rfl hpG rfl) rfl ?_;refine Sd Mv (Sd Mv (Sd NP ?_));refine DOps.s0 (fieldP (TK rfl) rfl rfl (TK rfl) rfl rfl) rfl ?_
 refine DOps.s0 (loadP (TK rfl) rfl rfl hpG rfl) rfl ?_;refine Sd Mv (Sd Mv (Sd Mv (Sd Mv (Sd BU (Sd BV ?_)))));obtain⟨x1,gx1,hE⟩:=bO hE;refine DOps.sH (appM (f:=Z3.c) (TK rfl) rfl (TK rfl) (TK rfl) ⟨_,rfl⟩ rfl rfl (by decide) rfl rfl rfl rfl hpG rfl gx1) rfl ?_;refine DOps.Dh ((H.set c0_1 (some (.tok 6 x1.l.length))).set c0 (some (.cells (Z0.cg (some c0_1) a0)))) ?_;refine Sd NP ?_;refine DOps.s0 (fieldP (TK rfl) rfl rfl (TK rfl) rfl rfl) rfl ?_
 refine DOps.sHn (storeP1 (TK rfl) rfl rfl hpG rfl (by repeat (first|exact SetAt.zero|apply SetAt.succ))) rfl rfl ?_;refine DOps.Dh ((H.set c0_1 (some (.tok 6 x1.l.length))).set c0 (some (.cells (Z0.cg (some c0_1) (Z0.mk a0.Fname x1))))) ?_;refine DOps.nil (by decide +kernel) ?_;repeat (first|refine xBlock_normal ?_|refine xThen_exit ?_|refine xBlock_exit ?_)
 obtain rfl:=oJ hE;refine retQ.normalF ((H.set c0_1 (some (.tok 6 x1.l.length))).set c0 (some (.cells (Z0.cg (some c0_1) (Z0.mk a0.Fname x1))))) (xs:=[]) rfl ⟨rfl,rfl⟩ ?_;exact(fun _ _ h=>h)
def Z20 (a0:Int):Option Bs:=bif (decide (a0=(1:Int))) then(some ([116,121,112,101]:Bs)) else(bif (decide (a0=(2:Int))) then(some ([105,110,116,101,114,102,97,99,101]:Bs)) else(bif (decide (a0=(3:Int))) then(some ([117,110,105,111,110]:Bs)) else(bif (decide (a0=(4:Int))) then(some ([101,110,117,109]:Bs)) else(some ([105,110,112,117,116]:Bs)))))
theorem Z20_walk {a0:Int}{r:Bs}(hE:Z20 a0=some r) (H:Heap) :AC Tryz.prog 24 [.d (.int .i64 a0)] H fun v h'=>v=.a (.d (.str r))/\h'=H:=by
 unfold Z20 at hE;refine AC.oW 12 [.tmp 2] Tryz.call24 Tryz.func24 ?_;refine seqR (S As (nil ?_));refine seqK fun K2 hK2=>?_;refine seqR (S Mv (nil ?_));refine block ?_;refine seqR (S BI (S As (nil ?_)));refine cE hE (fun hc5 hE=>?_) (fun hc5 hE=>?_)
 ·refine seqR (S As (nil ?_));exact rt hE
 refine seqR (S BI (S As (nil ?_)));refine cE hE (fun hc8 hE=>?_) (fun hc8 hE=>?_)
 ·refine seqR (S As (nil ?_));exact rt hE
 refine seqR (S BI (S As (nil ?_)));refine cE hE (fun hc11 hE=>?_) (fun hc11 hE=>?_)
 ·refine seqR (S As (nil ?_));exact rt hE
 refine seqR (S BI (S As (nil ?_)));refine cE hE (fun hc14 hE=>?_) (fun hc14 hE=>?_)
 ·refine seqR (S As (nil ?_));exact rt hE
 refine sk hK2 ?_;clear hK2 K2;refine seqR (S As (nil ?_));exact rt hE
end Go.Proofs

namespace Go.Proofs
open Go Go.Ab
open AOps Cert AWp Keeps KeepsT
variable {lou:Lou}
def Z116_j7 (a0:TRef)  (y8_id3_3:Strings_Builder) (y9_id4_5:Strings_Builder):Option Bs:=(Z85 y8_id3_3).bind fun x11=>(catC x11 a0.FName).bind fun x12=>(Z85 y9_id4_5).bind fun x13=>(catC x12 x13).bind fun x14=>some x14
def Z116_j25 (s5_19:Int) (k_next_18:Int->Strings_Builder->Strings_Builder->Option Bs) (y26_id3_3:Strings_Builder) (y27_id4_5:Strings_Builder):Option Bs:=(subC s5_19 (1:Int)).bind fun x28=>k_next_18 x28 y26_id3_3 y27_id4_5
def Z116_l18 (a0:TRef) :Nat->Int->Strings_Builder->Strings_Builder->Option Bs
 | 0,_,_,_=>none
 | n18+1,s5_19,y20_id3_3,y21_id4_5=>bif (decide ((0:Int)<=s5_19)) then((idxC a0.FWraps.l s5_19).bind fun x30=>bif (decide (x30=(1:Int))) then((Z86 y21_id4_5 (33:Int)).bind fun x32=>Z116_j25 s5_19 ((Z116_l18 a0 n18)) y20_id3_3 x32.2) else((Z86 y20_id3_3 (91:Int)).bind fun x34=>(Z86 y21_id4_5 (93:Int)).bind fun x35=>Z116_j25 s5_19 ((Z116_l18 a0 n18)) x34.2 x35.2)) else(Z116_j7 a0  y20_id3_3 y21_id4_5)
def Z116 (a0:TRef):Option Bs:=(subC ((a0.FWraps.l.length:Nat):Int) (1:Int)).bind fun x17=>Z116_l18 a0 F0 x17 Strings_Builder.zero Strings_Builder.zero
theorem Z116_walk {a0:TRef}{r:Bs}(hE:Z116 a0=some r) (H:Heap) :AC Tryz.prog 64 [.agg (TRef.c a0)] H fun v h'=>v=.a (.d (.str r))/\h'=H:=by
 unfold Z116 at hE;refine AC.oW 29 [.tmp 2] Tryz.call64 Tryz.func64 ?_;refine seqR (S BX (S As (nil ?_)));refine seqR ?_;refine AOps.tokE 1 5 fun tk3_4 htk3_4=>?_;refine sE (StepE.allocT (TK rfl) rfl) rfl (fun _ _ _ ⟨id3_3,hid3_3,e1,e2,e3⟩=>?_); subst e1 e2 e3;obtain⟨ne_id3_3_tk3_4,hid3_3⟩:=Heap.set_fresh hid3_3;refine AOps.recellT id3_3 _ hpG (fun j w cs hh hx=>tok_cell 1 1 1 hh (t:=tk3_4) hpG hx rfl) ?_
 refine hq ((H.set tk3_4 (some (.tok 1 0 (some 5)))).set id3_3 (some (.tcells 127 (Strings_Builder.cg id3_3 (some tk3_4) Strings_Builder.zero)))) ?_;refine AOps.tokE 1 5 fun tk4_6 htk4_6=>?_;obtain⟨ne_tk4_6_id3_3,htk4_6⟩:=Heap.set_fresh htk4_6;obtain⟨ne_tk4_6_tk3_4,htk4_6⟩:=Heap.set_fresh htk4_6;refine sE (StepE.allocT (TK rfl) rfl) rfl (fun _ _ _ ⟨id4_5,hid4_5,e1,e2,e3⟩=>?_); subst e1 e2 e3;obtain⟨ne_id4_5_tk4_6,hid4_5⟩:=Heap.set_fresh hid4_5
 obtain⟨ne_id4_5_id3_3,hid4_5⟩:=Heap.set_fresh hid4_5;obtain⟨ne_id4_5_tk3_4,hid4_5⟩:=Heap.set_fresh hid4_5;refine AOps.recellT id4_5 _ hpG (fun j w cs hh hx=>tok_cell 1 1 1 hh (t:=tk4_6) hpG hx rfl) ?_;refine hq ((((H.set tk3_4 (some (.tok 1 0 (some 5)))).set id3_3 (some (.tcells 127 (Strings_Builder.cg id3_3 (some tk3_4) Strings_Builder.zero)))).set tk4_6 (some (.tok 1 0 (some 5)))).set id4_5 (some (.tcells 127 (Strings_Builder.cg id4_5 (some tk4_6) Strings_Builder.zero)))) ?_
 refine nil ?_;refine seqJH (TA 1 (TA 3 (TA 4 kN))) (fun(z:Strings_Builder×Strings_Builder)=>[]) (fun z=>((((H.set tk3_4 (some (.tok 1 z.1.Fbuf.l.length (some 5)))).set id3_3 (some (.tcells 127 (Strings_Builder.cg id3_3 (some tk3_4) z.1)))).set tk4_6 (some (.tok 1 z.2.Fbuf.l.length (some 5)))).set id4_5 (some (.tcells 127 (Strings_Builder.cg id4_5 (some tk4_6) z.2))))) (fun z=>Z116_j7 a0 z.1 z.2=some r) ?_ ?_
 ·intro K7 hK7;refine seqR (S Fv (S Ld ?_));refine sLen (f:=(intE .i64)) (s:=a0.FWraps) (TK rfl) rfl rfl rfl rfl fun hL16=>?_;obtain⟨x17,gx17,hE⟩:=bO hE;refine s0 (subM rfl rfl gx17) rfl ?_;refine S As (nil ?_);refine block ?_;refine loopH (TA 1 (TA 3 (TA 4 kN))) (fun(z:Nat×Int×Strings_Builder×Strings_Builder)=>[(5,.a (.d (.int .i64 z.2.1)))]) (fun z=>((((H.set tk3_4 (some (.tok 1 z.2.2.1.Fbuf.l.length (some 5)))).set id3_3 (some (.tcells 127 (Strings_Builder.cg id3_3 (some tk3_4) z.2.2.1)))).set tk4_6 (some (.tok 1 z.2.2.2.Fbuf.l.length (some 5)))).set id4_5 (some (.tcells 127 (Strings_Builder.cg id4_5 (some tk4_6) z.2.2.2))))) (fun z=>z.1) (fun z=>Z116_l18 a0 z.1 z.2.1 z.2.2.1 z.2.2.2=some r) (F0,x17,Strings_Builder.zero,Strings_Builder.zero) hE wA ?_
  rintro ⟨n18,s5_19,y20_id3_3,y21_id4_5⟩ hE K18 hK18;try dsimp only at hE
  cases n18 with
  | zero=>cases hE
  | succ n18 =>
    rw [Z116_l18] at hE;refine seqK fun K22 hK22=>?_;refine seqR (S Mv (S BI (nil ?_)));refine cE hE (fun hc24 hE=>?_) (fun hc24 hE=>?_)
    ·refine sk hK22 ?_;clear hK22 K22;refine seqJH (TA 1 (TA 3 (TA 4 (TA 5 kN)))) (fun(z:Strings_Builder×Strings_Builder)=>[]) (fun z=>((((H.set tk3_4 (some (.tok 1 z.1.Fbuf.l.length (some 5)))).set id3_3 (some (.tcells 127 (Strings_Builder.cg id3_3 (some tk3_4) z.1)))).set tk4_6 (some (.tok 1 z.2.Fbuf.l.length (some 5)))).set id4_5 (some (.tcells 127 (Strings_Builder.cg id4_5 (some tk4_6) z.2))))) (fun z=>Z116_j25 s5_19 ((Z116_l18 a0 n18)) z.1 z.2=some r) ?_ ?_
     ·intro K25 hK25;refine block ?_;refine seqR (S Fv (S Ld (S Mv ?_)));obtain⟨x30,gx30,hE⟩:=bO hE;refine s0 (idxM (f:=(intE .i64)) (TK rfl) rfl (TK rfl) rfl rfl rfl gx30) rfl ?_;refine S Ld (S BI (nil ?_));refine cE hE (fun hc31 hE=>?_) (fun hc31 hE=>?_)
      ·refine region ?_;obtain⟨x32,gx32,hE⟩:=bO hE;refine sH (callH rfl rfl (Z86_walk gx32 _ hpG hpG)) rfl ?_;refine hq ((((H.set tk3_4 (some (.tok 1 y20_id3_3.Fbuf.l.length (some 5)))).set id3_3 (some (.tcells 127 (Strings_Builder.cg id3_3 (some tk3_4) y20_id3_3)))).set tk4_6 (some (.tok 1 x32.2.Fbuf.l.length (some 5)))).set id4_5 (some (.tcells 127 (Strings_Builder.cg id4_5 (some tk4_6) x32.2)))) ?_
       refine nil ?_;exact hK25 _ (y20_id3_3,x32.2) wA hE
      refine seqR ?_;obtain⟨x34,gx34,hE⟩:=bO hE;refine sH (callH rfl rfl (Z86_walk gx34 _ hpG hpG)) rfl ?_;refine hq ((((H.set tk3_4 (some (.tok 1 x34.2.Fbuf.l.length (some 5)))).set id3_3 (some (.tcells 127 (Strings_Builder.cg id3_3 (some tk3_4) x34.2)))).set tk4_6 (some (.tok 1 y21_id4_5.Fbuf.l.length (some 5)))).set id4_5 (some (.tcells 127 (Strings_Builder.cg id4_5 (some tk4_6) y21_id4_5)))) ?_
      refine nil ?_;refine region ?_;obtain⟨x35,gx35,hE⟩:=bO hE;refine sH (callH rfl rfl (Z86_walk gx35 _ hpG hpG)) rfl ?_;refine hq ((((H.set tk3_4 (some (.tok 1 x34.2.Fbuf.l.length (some 5)))).set id3_3 (some (.tcells 127 (Strings_Builder.cg id3_3 (some tk3_4) x34.2)))).set tk4_6 (some (.tok 1 x35.2.Fbuf.l.length (some 5)))).set id4_5 (some (.tcells 127 (Strings_Builder.cg id4_5 (some tk4_6) x35.2)))) ?_
      refine nil ?_;exact hK25 _ (x34.2,x35.2) wA hE
     rintro ⟨y26_id3_3,y27_id4_5⟩ hE;try dsimp only at hE
     unfold Z116_j25 at hE;refine region ?_;refine S Mv ?_;obtain⟨x28,gx28,hE⟩:=bO hE;refine s0 (subM rfl rfl gx28) rfl ?_;refine S As (nil ?_);exact hK18 _ (n18,x28,y26_id3_3,y27_id4_5) wA hE (nS _)
    refine AWp.exit ?_;exact hK7 _ (y20_id3_3,y21_id4_5) wA hE
 rintro ⟨y8_id3_3,y9_id4_5⟩ hE;try dsimp only at hE
 unfold Z116_j7 at hE;refine AWp.seqD ?_;obtain⟨x11,gx11,hE⟩:=bO hE;refine DOps.sH (callH rfl rfl (Z85_walk gx11 _ hpG hpG)) rfl ?_;refine DOps.Dh ((H.set tk4_6 (some (.tok 1 y9_id4_5.Fbuf.l.length (some 5)))).set id4_5 (some (.tcells 127 (Strings_Builder.cg id4_5 (some tk4_6) y9_id4_5)))) ?_;refine Sd Fv (Sd Ld ?_);obtain⟨x12,gx12,hE⟩:=bO hE;refine DOps.s0 (catM rfl rfl gx12) rfl ?_;obtain⟨x13,gx13,hE⟩:=bO hE
 refine DOps.sH (callH rfl rfl (Z85_walk gx13 _ hpG hpG)) rfl ?_;refine DOps.Dh H ?_;obtain⟨x14,gx14,hE⟩:=bO hE;refine DOps.s0 (catM rfl rfl gx14) rfl ?_;refine Sd As ?_;refine DOps.nil (by decide +kernel) ?_;exact rt hE
def Z73_j2  (y3_l0:Z5):Option (Z5×Bool):=some ((Z5.mk ([]:Bs) TRef.zero false Z7.zero (Sl.nil:Sl TDir)),false)
def Z73_l7 (a0:(Sl Z5)) (a1:Bs) :Nat->Nat->Z5->Option (Z5×Bool)
 | 0,_,_=>none
 | n7+1,s10_8,y9_l0=>bif (decide (((s10_8:Nat):Int)<((a0.l.length:Nat):Int))) then((a0.l[s10_8]?).bind fun x15=>bif ((x15.FName==a1)) then(some (x15,true)) else((Z73_l7 a0 a1 n7) (s10_8+1) y9_l0)) else(Z73_j2   y9_l0)
def Z73 (a0:(Sl Z5)) (a1:Bs):Option (Z5×Bool):=Z73_l7 a0 a1 (a0.l.length+1) 0 Z5.zero
theorem Z73_walk {a0:Sl Z5}{a1:Bs}{w0:Option Nat}{r:Z5×Bool}(hE:Z73 a0 a1=some r) (H:Heap) :AC Tryz.prog 70 [.d (Sl.d 10 Z5.c w0 a0),.d (.str a1)] H fun v h'=>v=.tup [.agg (Z5.c r.1),.d (.bool r.2)]/\h'=H:=by
 unfold Z73 at hE;refine AC.oW 21 [.cell 4 62,.tmp 5] Tryz.call70 Tryz.func70 ?_;refine seqR ?_;refine Sl ?_;refine S As (nil ?_);refine seqJ (TA 4 kN) (fun(z:Z5)=>[]) (fun z=>[Z5.c z]) (fun z=>H) (fun z=>Z73_j2 z=some r) ?_ ?_
 ·intro K2 hK2;refine seqR (S Mv ?_);refine sLen (f:=Z5.c) (s:=a0) (TK rfl) rfl rfl rfl rfl fun hL6=>?_;refine S Mv (nil ?_);refine block ?_;refine loopO (TA 1 (TA 4 (TA 8 (TA 9 kN)))) (fun(z:Nat×Nat×Z5)=>[(10,.a (.d (.int .i64 ((z.2.1:Nat):Int))))]) (fun z=>[Z5.c z.2.2]) (fun z=>H) (fun z=>z.1) (fun z=>Z73_l7 a0 a1 z.1 z.2.1 z.2.2=some r) ((a0.l.length+1),0,Z5.zero) hE wA ?_;rintro ⟨n7,s10_8,y9_l0⟩ hE K7 hK7
  try dsimp only at hE
  cases n7 with
  | zero=>cases hE
  | succ n7 =>
    rw [Z73_l7] at hE;refine seqR (S BI (nil ?_));refine seqK fun K11 hK11=>?_;refine cE hE (fun hc12 hE=>?_) (fun hc12 hE=>?_)
    ·try dsimp only at hc12
     have hf12:=oD hc12;refine sk hK11 ?_;clear hK11 K11;refine seqK fun K13 hK13=>?_;refine block ?_;refine seqR ?_;obtain⟨x15,gx15,hE⟩:=bO hE;refine S (ix Z5.c s10_8 gx15) (S Ld ?_);refine Sl ?_;refine Sf ?_;refine nil ?_;refine freezeA 7 _ rfl (KA 1 (KA 4 (KA 8 (KA 9 (KA 10 Keeps.nil))))) ?_;refine seqR (S Fv (S Ld (S Mv (S BS (nil ?_)))));refine cE hE (fun hc17 hE=>?_) (fun hc17 hE=>?_)
     ·refine seqR (S Ld ?_);refine Sf ?_;refine S As (nil ?_);exact rt hE
     refine sk hK13 ?_;clear hK13 K13;refine region ?_;refine SI ?_;refine S Mv (nil ?_);exact hK7 _ (n7,(s10_8+1),y9_l0) wA hE (nS _)
    refine AWp.exit ?_;exact hK2 _ y9_l0 wA hE
 rintro y3_l0 hE;try dsimp only at hE
 unfold Z73_j2 at hE;refine seqR (S BU ?_);refine Sf ?_;refine S As (nil ?_);exact rt hE
def Z87 (a0:Strings_Builder) (a1:Bs):Option (Int×Bool×Strings_Builder):=(Z88 a0).bind fun x3=>(appC 1 x3.Fbuf (strSl a1)).bind fun x5=>some (((a1.length:Nat):Int),false,(Strings_Builder.mk x3.Faddr x5))
theorem Z87_walk {a0:Strings_Builder}{a1:Bs}{c0 c0_1:Nat}{r:Int×Bool×Strings_Builder}(hE:Z87 a0 a1=some r) (H:Heap) (hc0:H c0=some (.tcells 127 (Strings_Builder.cg c0 (some c0_1) a0))) (ht0_1:H c0_1=some (.tok 1 a0.Fbuf.l.length (some 5))):AC Tryz.prog 143 [.d (.ptr c0 0),.d (.str a1)] H fun v h'=>v=.tup [.d (.int .i64 r.1),.d (errE 177 r.2.1)]/\h'=((H.set c0_1 (some (.tok 1 r.2.2.Fbuf.l.length (some 5)))).set c0 (some (.tcells 127 (Strings_Builder.cg c0 (some c0_1) r.2.2)))):=by
 unfold Z87 at hE;refine AC.oW 19 [.tmp 4,.tmp 5] Tryz.call143 Tryz.func143 ?_;have ne_c0_c0_1:c0≠c0_1:=fun e_=>by subst e_; simp_all
 refine AWp.heqA (h':=((H.set c0_1 (some (.tok 1 a0.Fbuf.l.length (some 5)))).set c0 (some (.tcells 127 (Strings_Builder.cg c0 (some c0_1) a0))))) (by funext n_; simp only [Heap.set]; (repeat' split)<;>simp_all) ?_;refine seqR (S As (S As (nil ?_)));refine seqR (S Mv ?_);obtain⟨x3,gx3,hE⟩:=bO hE;refine sH (callH rfl rfl (Z88_walk gx3 _ hpG hpG)) rfl ?_;refine hq ((H.set c0_1 (some (.tok 1 x3.Fbuf.l.length (some 5)))).set c0 (some (.tcells 127 (Strings_Builder.cg c0 (some c0_1) x3)))) ?_
 refine nil ?_;refine seqR (S Mv (S Mv (S NP ?_)));refine s0 (fieldP (TK rfl) rfl rfl (TK rfl) rfl rfl) rfl ?_;refine s0 (loadPT (TK rfl) rfl rfl hpG rfl) rfl ?_;refine S Mv ?_;obtain⟨x5,gx5,hE⟩:=bO hE;refine sH (appST (TK rfl) rfl (TK rfl) (TK rfl) rfl rfl rfl rfl rfl rfl rfl hpG rfl rfl gx5) rfl ?_;refine hq ((H.set c0_1 (some (.tok 1 x5.l.length (some 5)))).set c0 (some (.tcells 127 (Strings_Builder.cg c0 (some c0_1) x3)))) ?_
 refine S NP ?_;refine s0 (fieldP (TK rfl) rfl rfl (TK rfl) rfl rfl) rfl ?_;refine sHn (storePT (TK rfl) rfl rfl hpG rfl (by repeat (first|exact SetAt.zero|apply SetAt.succ))) rfl rfl ?_;refine hq ((H.set c0_1 (some (.tok 1 x5.l.length (some 5)))).set c0 (some (.tcells 127 (Strings_Builder.cg c0 (some c0_1) (Strings_Builder.mk x3.Faddr x5))))) ?_;refine nil ?_;refine seqR (S Mv ?_);refine sLenS (TK rfl) rfl rfl rfl rfl fun hL7=>?_
 refine S As (S As (nil ?_));exact rt hE
def Z101_j7  (y8_id3_3:Strings_Builder):Option Bs:=(Z86 y8_id3_3 (34:Int)).bind fun x10=>(Z85 x10.2).bind fun x12=>some x12
def Z101_j21 (s9_16:Nat) (k_next_15:Nat->Strings_Builder->Option Bs) (y22_id3_3:Strings_Builder):Option Bs:=k_next_15 (s9_16+1) y22_id3_3
def Z101_j27 (s9_16:Nat) (y17_id3_3:Strings_Builder) (x25:UInt8) (k_next_15:Nat->Strings_Builder->Option Bs) (s33_28:Bool):Option Bs:=bif s33_28 then((Z86 y17_id3_3 (92:Int)).bind fun x31=>(Z86 x31.2 ((x25.toNat:Nat):Int)).bind fun x32=>Z101_j21 s9_16 k_next_15 x32.2) else(bif (decide (((x25.toNat:Nat):Int)=(10:Int))) then((Z87 y17_id3_3 ([92,110]:Bs)).bind fun x35=>Z101_j21 s9_16 k_next_15 x35.2.2) else(bif (decide (((x25.toNat:Nat):Int)=(13:Int))) then((Z87 y17_id3_3 ([92,114]:Bs)).bind fun x38=>Z101_j21 s9_16 k_next_15 x38.2.2) else(bif (decide (((x25.toNat:Nat):Int)=(9:Int))) then((Z87 y17_id3_3 ([92,116]:Bs)).bind fun x41=>Z101_j21 s9_16 k_next_15 x41.2.2) else(bif ((decide ((32:Int)<=((x25.toNat:Nat):Int)))&&(decide (((x25.toNat:Nat):Int)<=(126:Int)))) then((Z86 y17_id3_3 ((x25.toNat:Nat):Int)).bind fun x46=>Z101_j21 s9_16 k_next_15 x46.2) else((Z87 y17_id3_3 ([92,117,48,48]:Bs)).bind fun x48=>(idxC ([48,49,50,51,52,53,54,55,56,57,97,98,99,100,101,102]:Bs) (Int.fdiv ((x25.toNat:Nat):Int) (2 ^ (min (Int.toNat 4) (IntKind.bits .u8))))).bind fun x50=>(Z86 x48.2.2 ((x50.toNat:Nat):Int)).bind fun x51=>(idxC ([48,49,50,51,52,53,54,55,56,57,97,98,99,100,101,102]:Bs) (IntKind.wrap .u8 ((BitVec.ofInt (IntKind.bits .u8) ((x25.toNat:Nat):Int) &&& BitVec.ofInt (IntKind.bits .u8) (15:Int)).toNat:Int))).bind fun x52=>(Z86 x51.2 ((x52.toNat:Nat):Int)).bind fun x53=>Z101_j21 s9_16 k_next_15 x53.2)))))
def Z101_l15 (a0:Bs) :Nat->Nat->Strings_Builder->Option Bs
 | 0,_,_=>none
 | n15+1,s9_16,y17_id3_3=>bif (decide (((s9_16:Nat):Int)<((a0.length:Nat):Int))) then((a0[s9_16]?).bind fun x25=>bif (decide (((x25.toNat:Nat):Int)=(34:Int))) then(Z101_j27 s9_16 y17_id3_3 x25 ((Z101_l15 a0 n15)) (decide (((x25.toNat:Nat):Int)=(34:Int)))) else(Z101_j27 s9_16 y17_id3_3 x25 ((Z101_l15 a0 n15)) (decide (((x25.toNat:Nat):Int)=(92:Int))))) else(Z101_j7   y17_id3_3)
def Z101 (a0:Bs):Option Bs:=(Z86 Strings_Builder.zero (34:Int)).bind fun x6=>Z101_l15 a0 (a0.length+1) 0 x6.2
theorem Z101_walk {a0 r:Bs}(hE:Z101 a0=some r) (H:Heap) :AC Tryz.prog 128 [.d (.str a0)] H fun v h'=>v=.a (.d (.str r))/\h'=H:=by
 unfold Z101 at hE;refine AC.oW 51 [.tmp 2] Tryz.call128 Tryz.func128 ?_;refine seqR (S As (nil ?_));refine seqR ?_;refine AOps.tokE 1 5 fun tk3_4 htk3_4=>?_;refine sE (StepE.allocT (TK rfl) rfl) rfl (fun _ _ _ ⟨id3_3,hid3_3,e1,e2,e3⟩=>?_); subst e1 e2 e3;obtain⟨ne_id3_3_tk3_4,hid3_3⟩:=Heap.set_fresh hid3_3;refine AOps.recellT id3_3 _ hpG (fun j w cs hh hx=>tok_cell 1 1 1 hh (t:=tk3_4) hpG hx rfl) ?_
 refine hq ((H.set tk3_4 (some (.tok 1 0 (some 5)))).set id3_3 (some (.tcells 127 (Strings_Builder.cg id3_3 (some tk3_4) Strings_Builder.zero)))) ?_;refine nil ?_;refine seqR ?_;obtain⟨x6,gx6,hE⟩:=bO hE;refine sH (callH rfl rfl (Z86_walk gx6 _ hpG hpG)) rfl ?_;refine hq ((H.set tk3_4 (some (.tok 1 x6.2.Fbuf.l.length (some 5)))).set id3_3 (some (.tcells 127 (Strings_Builder.cg id3_3 (some tk3_4) x6.2)))) ?_
 refine nil ?_;refine seqJH (TA 3 kN) (fun(z:Strings_Builder)=>[]) (fun z=>((H.set tk3_4 (some (.tok 1 z.Fbuf.l.length (some 5)))).set id3_3 (some (.tcells 127 (Strings_Builder.cg id3_3 (some tk3_4) z))))) (fun z=>Z101_j7 z=some r) ?_ ?_
 ·intro K7 hK7;refine seqR (S Mv ?_);refine sLenS (TK rfl) rfl rfl rfl rfl fun hL14=>?_;refine S Mv (nil ?_);refine block ?_;refine loopH (TA 0 (TA 3 (TA 8 kN))) (fun(z:Nat×Nat×Strings_Builder)=>[(9,.a (.d (.int .i64 ((z.2.1:Nat):Int))))]) (fun z=>((H.set tk3_4 (some (.tok 1 z.2.2.Fbuf.l.length (some 5)))).set id3_3 (some (.tcells 127 (Strings_Builder.cg id3_3 (some tk3_4) z.2.2))))) (fun z=>z.1) (fun z=>Z101_l15 a0 z.1 z.2.1 z.2.2=some r) ((a0.length+1),0,x6.2) hE wA ?_
  rintro ⟨n15,s9_16,y17_id3_3⟩ hE K15 hK15;try dsimp only at hE
  cases n15 with
  | zero=>cases hE
  | succ n15 =>
    rw [Z101_l15] at hE;refine seqR (S BI (nil ?_));refine seqK fun K19 hK19=>?_;refine cE hE (fun hc20 hE=>?_) (fun hc20 hE=>?_)
    ·try dsimp only at hc20
     have hf20:=oD hc20;refine sk hK19 ?_;clear hK19 K19;refine seqJH (TA 0 (TA 3 (TA 8 (TA 9 kN)))) (fun(z:Strings_Builder)=>[]) (fun z=>((H.set tk3_4 (some (.tok 1 z.Fbuf.l.length (some 5)))).set id3_3 (some (.tcells 127 (Strings_Builder.cg id3_3 (some tk3_4) z))))) (fun z=>Z101_j21 s9_16 ((Z101_l15 a0 n15)) z=some r) ?_ ?_
     ·intro K21 hK21;refine block ?_;refine seqR (S Mv (S As (nil ?_)));refine seqR (S Mv (S Mv ?_));obtain⟨x25,gx25,hE⟩:=bO hE;refine s0 (idxSn (n:=s9_16) (TK rfl) rfl rfl rfl gx25) rfl ?_;refine S As (nil ?_);refine seqR (S Mv (nil ?_));refine block ?_;refine seqJH (TA 0 (TA 3 (TA 5 (TA 8 (TA 9 (TA 15 kN)))))) (fun(z:Bool)=>[(33,.a (.d (.bool z)))]) (fun z=>((H.set tk3_4 (some (.tok 1 y17_id3_3.Fbuf.l.length (some 5)))).set id3_3 (some (.tcells 127 (Strings_Builder.cg id3_3 (some tk3_4) y17_id3_3))))) (fun z=>Z101_j27 s9_16 y17_id3_3 x25 ((Z101_l15 a0 n15)) z=some r) ?_ ?_
      ·intro K27 hK27;refine seqR (S BI (S As (nil ?_)));refine cE hE (fun hc55 hE=>?_) (fun hc55 hE=>?_)
       ·refine AWp.skip ?_;exact hK27 _ (decide (((x25.toNat:Nat):Int)=(34:Int))) wA hE
       refine region ?_;refine S BI (S As (nil ?_));exact hK27 _ (decide (((x25.toNat:Nat):Int)=(92:Int))) wA hE
      rintro s33_28 hE;try dsimp only at hE
      unfold Z101_j27 at hE;refine cE hE (fun hc29 hE=>?_) (fun hc29 hE=>?_)
      ·refine seqR ?_;obtain⟨x31,gx31,hE⟩:=bO hE;refine sH (callH rfl rfl (Z86_walk gx31 _ hpG hpG)) rfl ?_;refine hq ((H.set tk3_4 (some (.tok 1 x31.2.Fbuf.l.length (some 5)))).set id3_3 (some (.tcells 127 (Strings_Builder.cg id3_3 (some tk3_4) x31.2)))) ?_;refine nil ?_;refine region ?_;refine S Mv ?_;obtain⟨x32,gx32,hE⟩:=bO hE;refine sH (callH rfl rfl (Z86_walk gx32 _ hpG hpG)) rfl ?_;refine hq ((H.set tk3_4 (some (.tok 1 x32.2.Fbuf.l.length (some 5)))).set id3_3 (some (.tcells 127 (Strings_Builder.cg id3_3 (some tk3_4) x32.2)))) ?_
       refine nil ?_;exact hK21 _ x32.2 wA hE
      refine seqR (S BI (S As (nil ?_)));refine cE hE (fun hc34 hE=>?_) (fun hc34 hE=>?_)
      ·refine region ?_;obtain⟨x35,gx35,hE⟩:=bO hE;refine sH (callH rfl rfl (Z87_walk gx35 _ hpG hpG)) rfl ?_;refine hq ((H.set tk3_4 (some (.tok 1 x35.2.2.Fbuf.l.length (some 5)))).set id3_3 (some (.tcells 127 (Strings_Builder.cg id3_3 (some tk3_4) x35.2.2)))) ?_;refine nil ?_;exact hK21 _ x35.2.2 wA hE
      refine seqR (S BI (S As (nil ?_)));refine cE hE (fun hc37 hE=>?_) (fun hc37 hE=>?_)
      ·refine region ?_;obtain⟨x38,gx38,hE⟩:=bO hE;refine sH (callH rfl rfl (Z87_walk gx38 _ hpG hpG)) rfl ?_;refine hq ((H.set tk3_4 (some (.tok 1 x38.2.2.Fbuf.l.length (some 5)))).set id3_3 (some (.tcells 127 (Strings_Builder.cg id3_3 (some tk3_4) x38.2.2)))) ?_;refine nil ?_;exact hK21 _ x38.2.2 wA hE
      refine seqR (S BI (S As (nil ?_)));refine cE hE (fun hc40 hE=>?_) (fun hc40 hE=>?_)
      ·refine region ?_;obtain⟨x41,gx41,hE⟩:=bO hE;refine sH (callH rfl rfl (Z87_walk gx41 _ hpG hpG)) rfl ?_;refine hq ((H.set tk3_4 (some (.tok 1 x41.2.2.Fbuf.l.length (some 5)))).set id3_3 (some (.tcells 127 (Strings_Builder.cg id3_3 (some tk3_4) x41.2.2)))) ?_;refine nil ?_;exact hK21 _ x41.2.2 wA hE
      refine seqK fun K42 hK42=>?_;refine seqR (S Mv (S BI (S Mv (G0 Mv ?_))));refine G1 19 rfl BI ?_;refine S PA (nil ?_);refine cE hE (fun hc44 hE=>?_) (fun hc44 hE=>?_)
      ·refine seqR (S Mv ?_);obtain⟨x46,gx46,hE⟩:=bO hE;refine sH (callH rfl rfl (Z86_walk gx46 _ hpG hpG)) rfl ?_;refine hq ((H.set tk3_4 (some (.tok 1 x46.2.Fbuf.l.length (some 5)))).set id3_3 (some (.tcells 127 (Strings_Builder.cg id3_3 (some tk3_4) x46.2)))) ?_;refine nil ?_;refine AWp.exit ?_;exact hK21 _ x46.2 wA hE
      refine sk hK42 ?_;clear hK42 K42;refine seqR ?_;obtain⟨x48,gx48,hE⟩:=bO hE;refine sH (callH rfl rfl (Z87_walk gx48 _ hpG hpG)) rfl ?_;refine hq ((H.set tk3_4 (some (.tok 1 x48.2.2.Fbuf.l.length (some 5)))).set id3_3 (some (.tcells 127 (Strings_Builder.cg id3_3 (some tk3_4) x48.2.2)))) ?_;refine nil ?_;refine seqR (S Mv ?_);refine s0 (shrI rfl rfl (by decide)) rfl ?_;obtain⟨x50,gx50,hE⟩:=bO hE
      refine s0 (idxS (TK rfl) rfl rfl rfl gx50) rfl ?_;obtain⟨x51,gx51,hE⟩:=bO hE;refine sH (callH rfl rfl (Z86_walk gx51 _ hpG hpG)) rfl ?_;refine hq ((H.set tk3_4 (some (.tok 1 x51.2.Fbuf.l.length (some 5)))).set id3_3 (some (.tcells 127 (Strings_Builder.cg id3_3 (some tk3_4) x51.2)))) ?_;refine nil ?_;refine region ?_;refine S Mv ?_;refine s0 (andI rfl rfl) rfl ?_;obtain⟨x52,gx52,hE⟩:=bO hE;refine s0 (idxS (TK rfl) rfl rfl rfl gx52) rfl ?_
      obtain⟨x53,gx53,hE⟩:=bO hE;refine sH (callH rfl rfl (Z86_walk gx53 _ hpG hpG)) rfl ?_;refine hq ((H.set tk3_4 (some (.tok 1 x53.2.Fbuf.l.length (some 5)))).set id3_3 (some (.tcells 127 (Strings_Builder.cg id3_3 (some tk3_4) x53.2)))) ?_;refine nil ?_;exact hK21 _ x53.2 wA hE
     rintro y22_id3_3 hE;try dsimp only at hE
     unfold Z101_j21 at hE;refine region ?_;refine SI ?_;refine S Mv (nil ?_);exact hK15 _ (n15,(s9_16+1),y22_id3_3) wA hE (nS _)
    refine AWp.exit ?_;exact hK7 _ y17_id3_3 wA hE
 rintro y8_id3_3 hE;try dsimp only at hE
 unfold Z101_j7 at hE;refine seqR ?_;obtain⟨x10,gx10,hE⟩:=bO hE;refine sH (callH rfl rfl (Z86_walk gx10 _ hpG hpG)) rfl ?_;refine hq ((H.set tk3_4 (some (.tok 1 x10.2.Fbuf.l.length (some 5)))).set id3_3 (some (.tcells 127 (Strings_Builder.cg id3_3 (some tk3_4) x10.2)))) ?_;refine nil ?_;refine seqR ?_;obtain⟨x12,gx12,hE⟩:=bO hE;refine sH (callH rfl rfl (Z85_walk gx12 _ hpG hpG)) rfl ?_;refine hq H ?_
 refine S As (nil ?_);exact rt hE
section
variable [IsLoud lou]
def Tryz.lay129_ren:Go.Shelf.Ren:=⟨fun|156=>129|165=>144|166=>143|169=>100|240=>124|241=>156|276=>140|277=>162|n=>n,fun|31=>47|9=>9|3=>3|4=>4|0=>0|20=>20|72=>127|76=>147|70=>125|37=>111|75=>129|127=>153|164=>167|5=>5|80=>131|n=>n,fun|n=>n⟩
theorem Tryz.lay129:Go.Proofs.Lays.n156 Tryz.prog Tryz.lay129_ren:={
 mixed:=by kernel_rfl
 f156:=Tryz.func129.trans (congrArg some (by kernel_rfl))
 f165:=Tryz.func144.trans (congrArg some (by kernel_rfl))
 f166:=Tryz.func143.trans (congrArg some (by kernel_rfl))
 f169:=Tryz.func100.trans (congrArg some (by kernel_rfl))
 f240:=Tryz.func124.trans (congrArg some (by kernel_rfl))
 f241:=Tryz.func156.trans (congrArg some (by kernel_rfl))
 f276:=Tryz.func140.trans (congrArg some (by kernel_rfl))
 f277:=Tryz.func162.trans (congrArg some (by kernel_rfl))
 t0:=Tryz.underlying0
 a0:=Tryz.isAgg0
 z0:=Tryz.sizeOf0
 v0:=Tryz.zeroValue0
 t3:=Tryz.underlying3
 a3:=Tryz.isAgg3
 z3:=Tryz.sizeOf3
 v3:=Tryz.zeroValue3
 t4:=Tryz.underlying4
 a4:=Tryz.isAgg4
 z4:=Tryz.sizeOf4
 v4:=Tryz.zeroValue4
 t9:=Tryz.underlying9
 a9:=Tryz.isAgg9
 z9:=Tryz.sizeOf9
 v9:=Tryz.zeroValue9
 t20:=Tryz.underlying20
 a20:=Tryz.isAgg20
 z20:=Tryz.sizeOf20
 v20:=Tryz.zeroValue20
 t31:=Tryz.underlying47
 a31:=Tryz.isAgg47
 z31:=Tryz.sizeOf47
 v31:=Tryz.zeroValue47
 t37:=Tryz.underlying111
 a37:=Tryz.isAgg111
 z37:=Tryz.sizeOf111
 v37:=Tryz.zeroValue111
 t70:=Tryz.underlying125
 a70:=Tryz.isAgg125
 z70:=Tryz.sizeOf125
 v70:=Tryz.zeroValue125
 t72:=Tryz.underlying127
 a72:=Tryz.isAgg127
 z72:=Tryz.sizeOf127
 v72:=Tryz.zeroValue127
 t75:=Tryz.underlying129
 a75:=Tryz.isAgg129
 z75:=Tryz.sizeOf129
 v75:=Tryz.zeroValue129
 t76:=Tryz.underlying147
 a76:=Tryz.isAgg147
 z76:=Tryz.sizeOf147
 v76:=Tryz.zeroValue147
 t127:=Tryz.underlying153
 a127:=Tryz.isAgg153
 z127:=Tryz.sizeOf153
 v127:=Tryz.zeroValue153
 t164:=Tryz.underlying167
 a164:=Tryz.isAgg167
 z164:=Tryz.sizeOf167
 v164:=Tryz.zeroValue167 }
theorem Tryz.extra129:Builder.Extra Tryz.prog Tryz.lay129_ren where
 sizeBuilder:=by kernel_rfl
 liesBuilder:=by kernel_rfl
 t5:=Tryz.underlying5
 a5:=Tryz.isAgg5
 z5:=Tryz.sizeOf5
 v5:=Tryz.zeroValue5
 infoByte:=by kernel_rfl
 cellsByte:=by kernel_rfl
 sizeByte:=by kernel_rfl
 neB5:=by decide
def Z97 (s:Sl Bs) (sep:Bs):Option Bs:=joinA s sep
theorem Z97_walk {a0:Sl Bs}{a1:Bs}{w0:Option Nat}{r:Bs}(hE:Z97 a0 a1=some r) (H:Heap):AC Tryz.prog 129 [.d (Sl.d 1 strE w0 a0),.d (.str a1)] H fun v h'=>v=.a (.d (.str r))/\h'=H:=joinA_calls Tryz.lay129 Tryz.extra129 hE rfl
end
end Go.Proofs

namespace Go.Proofs
open Go Go.Ab
open AOps Cert AWp Keeps KeepsT
variable {lou:Lou}
section
variable [IsLoud lou]
def Z74_j29  (s3_30:(Sl Bs)):Option Bs:=(Z97 s3_30 ([44,32]:Bs)).bind fun x32=>(catC ([91]:Bs) x32).bind fun x33=>(catC x33 ([93]:Bs)).bind fun x34=>some x34
def Z74_l37 (a0:Z7) (k_rec_104:Z7->Option Bs):Nat->(Sl Bs)->Nat->Option Bs
 | 0,_,_=>none
 | n37+1,s3_38,s38_39=>bif (decide (((s38_39:Nat):Int)<((a0.FItems.l.length:Nat):Int))) then((a0.FItems.l[s38_39]?).bind fun x45=>(k_rec_104 x45).bind fun x46=>(appC 16 s3_38 (⟨false,[x46]⟩:Sl Bs)).bind fun x47=>(Z74_l37 a0 k_rec_104 n37) x47 (s38_39+1)) else(Z74_j29   s3_38)
def Z74_j50  (s3_51:(Sl Bs)):Option Bs:=(Z97 s3_51 ([44,32]:Bs)).bind fun x53=>(catC ([123]:Bs) x53).bind fun x54=>(catC x54 ([125]:Bs)).bind fun x55=>some x55
def Z74_l59 (a0:Z7) (k_rec_104:Z7->Option Bs):Nat->(Sl Bs)->Int->Option Bs
 | 0,_,_=>none
 | n59+1,s3_60,s61_61=>bif (decide (s61_61<(if ((a0.FItems.l.length:Nat):Int)<((a0.FKeys.l.length:Nat):Int) then((a0.FItems.l.length:Nat):Int) else((a0.FKeys.l.length:Nat):Int)))) then((idxC a0.FKeys.l s61_61).bind fun x67=>(catC x67 ([58,32]:Bs)).bind fun x68=>(idxC a0.FItems.l s61_61).bind fun x69=>(k_rec_104 x69).bind fun x70=>(catC x68 x70).bind fun x71=>(appC 16 s3_60 (⟨false,[x71]⟩:Sl Bs)).bind fun x72=>(addC s61_61 (1:Int)).bind fun x73=>(Z74_l59 a0 k_rec_104 n59) x72 x73) else(Z74_j50   s3_60)
def Z74_n:Nat->Z7->Option Bs
 | 0,_=>none
 | n+1,a0=>bif (decide (a0.FKind=(1:Int))) then(bif (decide (a0.FInt=(0:Int))) then(some ([102,97,108,115,101]:Bs)) else(some ([116,114,117,101]:Bs))) else(bif (decide (a0.FKind=(2:Int))) then((Z99 a0.FInt).bind fun x15=>some x15) else(bif (decide (a0.FKind=(3:Int))) then((Z101 a0.FText).bind fun x19=>some x19) else(bif (decide (a0.FKind=(4:Int))) then(some a0.FText) else(bif (decide (a0.FKind=(7:Int))) then((catC ([36]:Bs) a0.FText).bind fun x26=>some x26) else(bif (decide (a0.FKind=(5:Int))) then(Z74_l37 a0 (Z74_n n) (a0.FItems.l.length+1) (Sl.nil:Sl Bs) 0) else(bif (decide (a0.FKind=(6:Int))) then(Z74_l59 a0 (Z74_n n) F0 (Sl.nil:Sl Bs) (0:Int)) else(some ([110,117,108,108]:Bs))))))))
theorem Z74_step (n:Nat) (ih_104:∀{a0:Z7}{oT:Ab.Obj}{gT:Nat}{r:Bs},Z74_n n a0=some r->∀(H:Heap) (hgT:H gT=some oT) (hoT:IsTab Tryz.prog oT),AC Tryz.prog 104 [.agg (Z7.c a0)] H fun v h'=>v=.a (.d (.str r))/\h'=H):∀{a0:Z7}{oT:Ab.Obj}{gT:Nat}{r:Bs},Z74_n (n+1) a0=some r->∀(H:Heap) (hgT:H gT=some oT) (hoT:IsTab Tryz.prog oT),AC Tryz.prog 104 [.agg (Z7.c a0)] H fun v h'=>v=.a (.d (.str r))/\h'=H:=by
 intro a0 oT gT r hE H hgT hoT;rw [Z74_n] at hE;refine AC.oW 85 [.tmp 2] Tryz.call104 Tryz.func104 ?_;refine AWp.tok 1 fun tk1 htk1=>?_;have ne_tk1_gT:tk1≠gT:=fun e_=>by subst e_; simp_all
 refine seqR (S BX (S As (nil ?_)));refine seqR (S As (nil ?_));refine AWp.nilTok 3 1 tk1 rfl hpG ?_;refine seqK fun K3 hK3=>?_;refine seqR (S Fv (S Ld (nil ?_)));refine block ?_;refine seqR (S BI (S As (nil ?_)));refine cE hE (fun hc6 hE=>?_) (fun hc6 hE=>?_)
 ·refine seqK fun K7 hK7=>?_;refine seqR (S Fv (S Ld (S BI (nil ?_))));refine cE hE (fun hc9 hE=>?_) (fun hc9 hE=>?_)
  ·refine seqR (S As (nil ?_));refine AWp.ret ?_;repeat (first|refine xBlock_ret ?_|refine xThen_ret ?_)
   obtain rfl:=oJ hE;refine retQ.retF H rfl ⟨rfl,rfl⟩ ?_
   first|exact Heap.sub_set htk1|(simp only [Heap.set_set]; exact Heap.sub_set htk1)
  refine sk hK7 ?_;clear hK7 K7;refine seqR (S As (nil ?_));refine AWp.ret ?_;repeat (first|refine xBlock_ret ?_|refine xThen_ret ?_)
  obtain rfl:=oJ hE;refine retQ.retF H rfl ⟨rfl,rfl⟩ ?_
  first|exact Heap.sub_set htk1|(simp only [Heap.set_set]; exact Heap.sub_set htk1)
 refine seqR (S BI (S As (nil ?_)));refine cE hE (fun hc13 hE=>?_) (fun hc13 hE=>?_)
 ·refine seqR (S Fv (S Ld ?_));obtain⟨x15,gx15,hE⟩:=bO hE;refine s0 (callR rfl rfl (Z99_walk (gT:=gT) (oT:=oT) gx15 _ hpG (by assumption))) rfl ?_;refine S As (nil ?_);refine AWp.ret ?_;repeat (first|refine xBlock_ret ?_|refine xThen_ret ?_)
  obtain rfl:=oJ hE;refine retQ.retF H rfl ⟨rfl,rfl⟩ ?_
  first|exact Heap.sub_set htk1|(simp only [Heap.set_set]; exact Heap.sub_set htk1)
 refine seqR (S BI (S As (nil ?_)));refine cE hE (fun hc17 hE=>?_) (fun hc17 hE=>?_)
 ·refine seqR (S Fv (S Ld ?_));obtain⟨x19,gx19,hE⟩:=bO hE;refine Sc rfl rfl (Z101_walk gx19) ?_;refine S As (nil ?_);refine AWp.ret ?_;repeat (first|refine xBlock_ret ?_|refine xThen_ret ?_)
  obtain rfl:=oJ hE;refine retQ.retF H rfl ⟨rfl,rfl⟩ ?_
  first|exact Heap.sub_set htk1|(simp only [Heap.set_set]; exact Heap.sub_set htk1)
 refine seqR (S BI (S As (nil ?_)));refine cE hE (fun hc21 hE=>?_) (fun hc21 hE=>?_)
 ·refine seqR (S Fv (S Ld (S As (nil ?_))));refine AWp.ret ?_;repeat (first|refine xBlock_ret ?_|refine xThen_ret ?_)
  obtain rfl:=oJ hE;refine retQ.retF H rfl ⟨rfl,rfl⟩ ?_
  first|exact Heap.sub_set htk1|(simp only [Heap.set_set]; exact Heap.sub_set htk1)
 refine seqR (S BI (S As (nil ?_)));refine cE hE (fun hc24 hE=>?_) (fun hc24 hE=>?_)
 ·refine seqR (S Fv (S Ld ?_));obtain⟨x26,gx26,hE⟩:=bO hE;refine s0 (catM rfl rfl gx26) rfl ?_;refine S As (nil ?_);refine AWp.ret ?_;repeat (first|refine xBlock_ret ?_|refine xThen_ret ?_)
  obtain rfl:=oJ hE;refine retQ.retF H rfl ⟨rfl,rfl⟩ ?_
  first|exact Heap.sub_set htk1|(simp only [Heap.set_set]; exact Heap.sub_set htk1)
 refine seqR (S BI (S As (nil ?_)));refine cE hE (fun hc28 hE=>?_) (fun hc28 hE=>?_)
 ·refine seqJH kN (fun(z:(Sl Bs))=>[(3,.a (.d (Sl.d 1 strE (some tk1) z)))]) (fun z=>(H.set tk1 (some (.tok 1 z.l.length)))) (fun z=>Z74_j29 z=some r) ?_ ?_
  ·intro K29 hK29;refine seqR (S Fv ?_);refine s0 (loadV (TK rfl) rfl rfl (congrArg (fun x=>some (A.d x)) (Z7.FItemsD_eq _))) rfl ?_;refine sLen (f:=Z7.c) (s:=a0.FItems) (TK rfl) rfl rfl rfl rfl fun hL36=>?_;refine S Mv (nil ?_);refine block ?_;refine loopH (TA 36 (TA 37 kN)) (fun(z:Nat×(Sl Bs)×Nat)=>[(3,.a (.d (Sl.d 1 strE (some tk1) z.2.1))),(38,.a (.d (.int .i64 ((z.2.2:Nat):Int))))]) (fun z=>(H.set tk1 (some (.tok 1 z.2.1.l.length)))) (fun z=>z.1) (fun z=>Z74_l37 a0 (Z74_n n) z.1 z.2.1 z.2.2=some r) ((a0.FItems.l.length+1),(Sl.nil:Sl Bs),0) hE wA ?_
   rintro ⟨n37,s3_38,s38_39⟩ hE K37 hK37;try dsimp only at hE
   cases n37 with
   | zero=>cases hE
   | succ n37 =>
     rw [Z74_l37] at hE;refine seqR (S BI (nil ?_));refine seqK fun K41 hK41=>?_;refine cE hE (fun hc42 hE=>?_) (fun hc42 hE=>?_)
     ·try dsimp only at hc42
      have hf42:=oD hc42;refine sk hK41 ?_;clear hK41 K41;refine seqK fun K43 hK43=>?_;refine block ?_;refine seqR ?_;obtain⟨x45,gx45,hE⟩:=bO hE;refine S (ix Z7.c s38_39 gx45) (S Ld ?_);refine Sl ?_;refine Sf ?_;refine nil ?_;refine freezeA 5 _ rfl (KA 3 (KA 36 (KA 37 (KA 38 Keeps.nil)))) ?_;refine region ?_;refine S Mv (S Ld ?_);obtain⟨x46,gx46,hE⟩:=bO hE;refine s0 (callR rfl rfl (ih_104 (gT:=gT) (oT:=oT) gx46 _ hpG (by assumption))) rfl ?_
      refine S BV ?_;obtain⟨x47,gx47,hE⟩:=bO hE;refine SH (am strE (TK rfl) rfl (TK rfl) (TK rfl) gx47) ?_;refine hq (H.set tk1 (some (.tok 1 x47.l.length))) ?_;refine S As (nil ?_);refine hK43 _ ?_;clear hK43 K43;refine region ?_;refine SI ?_;refine S Mv (nil ?_);exact hK37 _ (n37,x47,(s38_39+1)) wA hE (nS _)
     refine AWp.exit ?_;exact hK29 _ s3_38 wA hE
  rintro s3_30 hE;try dsimp only at hE
  unfold Z74_j29 at hE;refine seqR (S Mv ?_);obtain⟨x32,gx32,hE⟩:=bO hE;refine Sc rfl rfl (Z97_walk gx32) ?_;obtain⟨x33,gx33,hE⟩:=bO hE;refine s0 (catM rfl rfl gx33) rfl ?_;obtain⟨x34,gx34,hE⟩:=bO hE;refine s0 (catM rfl rfl gx34) rfl ?_;refine S As (nil ?_);refine AWp.ret ?_;repeat (first|refine xBlock_ret ?_|refine xThen_ret ?_)
  obtain rfl:=oJ hE;refine retQ.retF H rfl ⟨rfl,rfl⟩ ?_
  first|exact Heap.sub_set htk1|(simp only [Heap.set_set]; exact Heap.sub_set htk1)
 refine seqR (S BI (S As (nil ?_)));refine cE hE (fun hc49 hE=>?_) (fun hc49 hE=>?_)
 ·refine seqJH kN (fun(z:(Sl Bs))=>[(3,.a (.d (Sl.d 1 strE (some tk1) z)))]) (fun z=>(H.set tk1 (some (.tok 1 z.l.length)))) (fun z=>Z74_j50 z=some r) ?_ ?_
  ·intro K50 hK50;refine seqR (S Fv (S Ld ?_));refine sLen (f:=strE) (s:=a0.FKeys) (TK rfl) rfl rfl rfl rfl fun hL57=>?_;refine S Fv ?_;refine s0 (loadV (TK rfl) rfl rfl (congrArg (fun x=>some (A.d x)) (Z7.FItemsD_eq _))) rfl ?_;refine sLen (f:=Z7.c) (s:=a0.FItems) (TK rfl) rfl rfl rfl rfl fun hL58=>?_;refine s0 (minM rfl rfl) rfl ?_;refine S Mv (nil ?_);refine block ?_;refine loopH (TA 1 (TA 60 kN)) (fun(z:Nat×(Sl Bs)×Int)=>[(3,.a (.d (Sl.d 1 strE (some tk1) z.2.1))),(61,.a (.d (.int .i64 z.2.2)))]) (fun z=>(H.set tk1 (some (.tok 1 z.2.1.l.length)))) (fun z=>z.1) (fun z=>Z74_l59 a0 (Z74_n n) z.1 z.2.1 z.2.2=some r) (F0,(Sl.nil:Sl Bs),(0:Int)) hE wA ?_
   rintro ⟨n59,s3_60,s61_61⟩ hE K59 hK59;try dsimp only at hE
   cases n59 with
   | zero=>cases hE
   | succ n59 =>
     rw [Z74_l59] at hE;refine seqR (S BI (nil ?_));refine seqK fun K63 hK63=>?_;refine cE hE (fun hc64 hE=>?_) (fun hc64 hE=>?_)
     ·refine sk hK63 ?_;clear hK63 K63;refine seqK fun K65 hK65=>?_;refine block ?_;refine seqR (S Mv (S As (nil ?_)));refine AWp.draw rfl ?_;refine Sd Mv (Sd Fv (Sd Ld (Sd Mv ?_)));obtain⟨x67,gx67,hE⟩:=bO hE;refine DOps.s0 (idxM (f:=strE) (TK rfl) rfl (TK rfl) rfl rfl rfl gx67) rfl ?_;refine Sd Ld ?_;obtain⟨x68,gx68,hE⟩:=bO hE;refine DOps.s0 (catM rfl rfl gx68) rfl ?_;refine Sd Fv ?_;refine DOps.s0 (loadV (TK rfl) rfl rfl (congrArg (fun x=>some (A.d x)) (Z7.FItemsD_eq _))) rfl ?_
      refine Sd Mv ?_;obtain⟨x69,gx69,hE⟩:=bO hE;refine DOps.s0 (idxM (f:=Z7.c) (TK rfl) rfl (TK rfl) rfl rfl rfl gx69) rfl ?_;refine Sd Ld ?_;obtain⟨x70,gx70,hE⟩:=bO hE;refine DOps.s0 (callR rfl rfl (ih_104 (gT:=gT) (oT:=oT) gx70 _ hpG (by assumption))) rfl ?_;obtain⟨x71,gx71,hE⟩:=bO hE;refine DOps.s0 (catM rfl rfl gx71) rfl ?_;refine Sd BV ?_;obtain⟨x72,gx72,hE⟩:=bO hE;refine DOps.sH (appM (f:=strE) (TK rfl) rfl (TK rfl) (TK rfl) ⟨_,rfl⟩ rfl rfl (by decide) rfl rfl rfl rfl hpG rfl gx72) rfl ?_
      refine DOps.Dh (H.set tk1 (some (.tok 1 x72.l.length))) ?_;refine Sd As ?_;refine DOps.nil (by decide +kernel) ?_;refine hK65 _ ?_;clear hK65 K65;refine region ?_;obtain⟨x73,gx73,hE⟩:=bO hE;refine s0 (addM rfl rfl gx73) rfl ?_;refine S Mv (nil ?_);exact hK59 _ (n59,x72,x73) wA hE (nS _)
     refine AWp.exit ?_;exact hK50 _ s3_60 wA hE
  rintro s3_51 hE;try dsimp only at hE
  unfold Z74_j50 at hE;refine seqR (S Mv ?_);obtain⟨x53,gx53,hE⟩:=bO hE;refine Sc rfl rfl (Z97_walk gx53) ?_;obtain⟨x54,gx54,hE⟩:=bO hE;refine s0 (catM rfl rfl gx54) rfl ?_;obtain⟨x55,gx55,hE⟩:=bO hE;refine s0 (catM rfl rfl gx55) rfl ?_;refine S As (nil ?_);refine AWp.ret ?_;repeat (first|refine xBlock_ret ?_|refine xThen_ret ?_)
  obtain rfl:=oJ hE;refine retQ.retF H rfl ⟨rfl,rfl⟩ ?_
  first|exact Heap.sub_set htk1|(simp only [Heap.set_set]; exact Heap.sub_set htk1)
 refine sk hK3 ?_;clear hK3 K3;refine seqR (S As (nil ?_));refine AWp.ret ?_;repeat (first|refine xBlock_ret ?_|refine xThen_ret ?_)
 obtain rfl:=oJ hE;refine retQ.retF H rfl ⟨rfl,rfl⟩ ?_
 first|exact Heap.sub_set htk1|(simp only [Heap.set_set]; exact Heap.sub_set htk1)
theorem Z74_all:∀(n:Nat),(∀{a0:Z7}{oT:Ab.Obj}{gT:Nat}{r:Bs},Z74_n n a0=some r->∀(H:Heap) (hgT:H gT=some oT) (hoT:IsTab Tryz.prog oT),AC Tryz.prog 104 [.agg (Z7.c a0)] H fun v h'=>v=.a (.d (.str r))/\h'=H)
 | 0=>fun hE=>by first|cases hE|(rw [Z74_n] at hE; cases hE)
 | n+1=>Z74_step n (Z74_all n)
def Z74 (a0:Z7):Option Bs:=Z74_n F0 a0
theorem Z74_walk {a0:Z7}{oT:Ab.Obj}{gT:Nat}{r:Bs}(hE:Z74 a0=some r) (H:Heap) (hgT:H gT=some oT) (hoT:IsTab Tryz.prog oT):AC Tryz.prog 104 [.agg (Z7.c a0)] H fun v h'=>v=.a (.d (.str r))/\h'=H:=(Z74_all F0) hE H hgT hoT
end
section
variable [IsLoud lou]
def Z12 (a0:Z5):Option Bs:=bif (!a0.FHas) then(some ([]:Bs)) else((Z74 a0.FDefault).bind fun x7=>some x7)
theorem Z12_walk {a0:Z5}{oT:Ab.Obj}{gT:Nat}{r:Bs}(hE:Z12 a0=some r) (H:Heap) (hgT:H gT=some oT) (hoT:IsTab Tryz.prog oT):AC Tryz.prog 73 [.agg (Z5.c a0)] H fun v h'=>v=.a (.d (.str r))/\h'=H:=by
 unfold Z12 at hE;refine AC.oW 9 [.tmp 2] Tryz.call73 Tryz.func73 ?_;refine seqR (S BX (S As (nil ?_)));refine seqK fun K2 hK2=>?_;refine seqR (S Fv (S Ld (S NB (nil ?_))));refine cE hE (fun hc4 hE=>?_) (fun hc4 hE=>?_)
 ·refine seqR (S As (nil ?_));exact rt hE
 refine sk hK2 ?_;clear hK2 K2;refine seqR (S Fv (S Ld ?_));obtain⟨x7,gx7,hE⟩:=bO hE;refine s0 (callR rfl rfl (Z74_walk (gT:=gT) (oT:=oT) gx7 _ hpG (by assumption))) rfl ?_;refine S As (nil ?_);exact rt hE
end
section
variable [IsLoud lou]
def Z19 (a0:Z5):Option Bs:=bif (!a0.FHas) then((Z116 a0.FType).bind fun x6=>some x6) else((Z116 a0.FType).bind fun x8=>(catC x8 ([32,61,32]:Bs)).bind fun x9=>(Z12 a0).bind fun x10=>(catC x9 x10).bind fun x11=>some x11)
theorem Z19_walk {a0:Z5}{oT:Ab.Obj}{gT:Nat}{r:Bs}(hE:Z19 a0=some r) (H:Heap) (hgT:H gT=some oT) (hoT:IsTab Tryz.prog oT):AC Tryz.prog 71 [.agg (Z5.c a0)] H fun v h'=>v=.a (.d (.str r))/\h'=H:=by
 unfold Z19 at hE;refine AC.oW 16 [.tmp 2] Tryz.call71 Tryz.func71 ?_;refine seqR (S BX (S As (nil ?_)));refine seqK fun K2 hK2=>?_;refine seqR (S Fv (S Ld (S NB (nil ?_))));refine cE hE (fun hc4 hE=>?_) (fun hc4 hE=>?_)
 ·refine seqR (S Fv (S Ld ?_));obtain⟨x6,gx6,hE⟩:=bO hE;refine Sc rfl rfl (Z116_walk gx6) ?_;refine S As (nil ?_);exact rt hE
 refine sk hK2 ?_;clear hK2 K2;refine AWp.seqD (Sd Fv (Sd Ld ?_));obtain⟨x8,gx8,hE⟩:=bO hE;refine Scd rfl rfl (Z116_walk gx8) ?_;obtain⟨x9,gx9,hE⟩:=bO hE;refine DOps.s0 (catM rfl rfl gx9) rfl ?_;refine Sd Ld ?_;obtain⟨x10,gx10,hE⟩:=bO hE;refine DOps.s0 (callR rfl rfl (Z12_walk (gT:=gT) (oT:=oT) gx10 _ hpG (by assumption))) rfl ?_;obtain⟨x11,gx11,hE⟩:=bO hE;refine DOps.s0 (catM rfl rfl gx11) rfl ?_
 refine Sd As ?_;refine DOps.nil (by decide +kernel) ?_;exact rt hE
end
def Z27 (a0:Int):Option Bool:=some (!decide (a0=a0))
theorem Z27_walk {a0:Int}{r:Bool}(hE:Z27 a0=some r) (H:Heap) :AC Tryz.prog 141 [.d (.int .i64 a0)] H fun v h'=>v=.a (.d (.bool r))/\h'=H:=by
 unfold Z27 at hE;refine AC.oW 6 [.tmp 2] Tryz.call141 Tryz.func141 ?_;refine seqR (S As (nil ?_));refine seqR (S Mv (S Mv (S BI (S As (nil ?_)))));exact rt hE
def Z26 (a0:Int) (a1:Int):Option Int:=(Z27 a0).bind fun x3=>(Z27 a1).bind fun x5=>bif x3 then(bif x5 then(some (0:Int)) else(some (-1:Int))) else(bif x5 then(some (1:Int)) else(bif (decide (a0<a1)) then(some (-1:Int)) else(bif (decide (a1<a0)) then(some (1:Int)) else(some (0:Int)))))
theorem Z26_walk {a0 a1 r:Int}(hE:Z26 a0 a1=some r) (H:Heap) :AC Tryz.prog 125 [.d (.int .i64 a0),.d (.int .i64 a1)] H fun v h'=>v=.a (.d (.int .i64 r))/\h'=H:=by
 unfold Z26 at hE;refine AC.oW 20 [.tmp 4] Tryz.call125 Tryz.func125 ?_;refine seqR (S As (nil ?_));refine seqR (S Mv ?_);obtain⟨x3,gx3,hE⟩:=bO hE;refine Sc rfl rfl (Z27_walk gx3) ?_;refine S As (nil ?_);refine seqR (S Mv ?_);obtain⟨x5,gx5,hE⟩:=bO hE;refine Sc rfl rfl (Z27_walk gx5) ?_;refine S As (nil ?_);refine seqK fun K6 hK6=>?_;refine seqR (S Mv (nil ?_));refine cE hE (fun hc8 hE=>?_) (fun hc8 hE=>?_)
 ·refine seqK fun K9 hK9=>?_;refine seqR (S Mv (nil ?_));refine cE hE (fun hc11 hE=>?_) (fun hc11 hE=>?_)
  ·refine seqR (S As (nil ?_));exact rt hE
  refine sk hK9 ?_;clear hK9 K9;refine seqR (S As (nil ?_));exact rt hE
 refine sk hK6 ?_;clear hK6 K6;refine seqK fun K14 hK14=>?_;refine seqR (S Mv (nil ?_));refine cE hE (fun hc16 hE=>?_) (fun hc16 hE=>?_)
 ·refine seqR (S As (nil ?_));exact rt hE
 refine sk hK14 ?_;clear hK14 K14;refine seqK fun K18 hK18=>?_;refine seqR (S Mv (S Mv (S BI (nil ?_))));refine cE hE (fun hc20 hE=>?_) (fun hc20 hE=>?_)
 ·refine seqR (S As (nil ?_));exact rt hE
 refine sk hK18 ?_;clear hK18 K18;refine seqK fun K22 hK22=>?_;refine seqR (S Mv (S Mv (S BI (nil ?_))));refine cE hE (fun hc24 hE=>?_) (fun hc24 hE=>?_)
 ·refine seqR (S As (nil ?_));exact rt hE
 refine sk hK22 ?_;clear hK22 K22;refine seqR (S As (nil ?_));exact rt hE
def Tryz.lay126_ren:Go.Shelf.Ren:=⟨fun|106=>126|213=>142|265=>155|n=>n,fun|9=>9|3=>3|n=>n,fun|n=>n⟩
theorem Tryz.lay126:Go.Proofs.Lays.n106 Tryz.prog Tryz.lay126_ren:={
 mixed:=by kernel_rfl
 f106:=Tryz.func126.trans (congrArg some (by kernel_rfl))
 f213:=Tryz.func142.trans (congrArg some (by kernel_rfl))
 f265:=Tryz.func155.trans (congrArg some (by kernel_rfl))
 t3:=Tryz.underlying3
 a3:=Tryz.isAgg3
 z3:=Tryz.sizeOf3
 v3:=Tryz.zeroValue3
 t9:=Tryz.underlying9
 a9:=Tryz.isAgg9
 z9:=Tryz.sizeOf9
 v9:=Tryz.zeroValue9 }
def Z89 (s t:Bs):Option Int:=some (Lib.compareBytes s t)
theorem Z89_walk {a0 a1:Bs}{r:Int}(hE:Z89 a0 a1=some r) (H:Heap):AC Tryz.prog 126 [.d (.str a0),.d (.str a1)] H fun v h'=>v=.a (.d (.int .i64 r))/\h'=H:=by
 obtain rfl:=oJ hE;exact cmpS_calls Tryz.lay126 rfl
def Z124 (a0:Z7) (a1:Int):Option Bs:=bif (decide (a1<((a0.FKeys.l.length:Nat):Int))) then((idxC a0.FKeys.l a1).bind fun x7=>some x7) else(some ([]:Bs))
theorem Z124_walk {a0:Z7}{a1:Int}{r:Bs}(hE:Z124 a0 a1=some r) (H:Heap) :AC Tryz.prog 127 [.agg (Z7.c a0),.d (.int .i64 a1)] H fun v h'=>v=.a (.d (.str r))/\h'=H:=by
 unfold Z124 at hE;refine AC.oW 15 [.tmp 4] Tryz.call127 Tryz.func127 ?_;refine seqR (S BX (S As (nil ?_)));refine seqK fun K2 hK2=>?_;refine seqR (S Mv (S Fv (S Ld ?_)));refine sLen (f:=strE) (s:=a0.FKeys) (TK rfl) rfl rfl rfl rfl fun hL4=>?_;refine S BI (nil ?_);refine cE hE (fun hc5 hE=>?_) (fun hc5 hE=>?_)
 ·refine seqR (S Fv (S Ld (S Mv ?_)));obtain⟨x7,gx7,hE⟩:=bO hE;refine s0 (idxM (f:=strE) (TK rfl) rfl (TK rfl) rfl rfl rfl gx7) rfl ?_;refine S Ld (S As (nil ?_));exact rt hE
 refine sk hK2 ?_;clear hK2 K2;refine seqR (S As (nil ?_));exact rt hE
end Go.Proofs

namespace Go.Proofs
open Go Go.Ab
open AOps Cert AWp Keeps KeepsT
variable {lou:Lou}
def Z122_j4  (s5_5:Int):Option Int:=some s5_5
def Z122_j14 (s7_10:Int) (k_next_8:Int->Int->Option Int) (s5_15:Int):Option Int:=(addC s7_10 (1:Int)).bind fun x16=>k_next_8 s5_15 x16
def Z122_j30 (a0:Z7) (a1:Z7) (s7_10:Int) (k_next_8:Int->Int->Option Int) :Option Int:=(Z26 ((a0.FItems.l.length:Nat):Int) ((a1.FItems.l.length:Nat):Int)).bind fun x33=>Z122_j14 s7_10 k_next_8 x33
def Z122_l37 (a0:Z7) (a1:Z7) (s7_10:Int) (k_next_8:Int->Int->Option Int) (k_rec_103:Z7->Z7->Option Int):Nat->Int->Option Int
 | 0,_=>none
 | n37+1,s49_38=>bif (decide (s49_38<(if ((a1.FItems.l.length:Nat):Int)<((a0.FItems.l.length:Nat):Int) then((a1.FItems.l.length:Nat):Int) else((a0.FItems.l.length:Nat):Int)))) then((Z124 a0 s49_38).bind fun x46=>(Z124 a1 s49_38).bind fun x47=>(Z89 x46 x47).bind fun x48=>bif (!decide (x48=(0:Int))) then(Z122_j4   x48) else((idxC a0.FItems.l s49_38).bind fun x52=>(idxC a1.FItems.l s49_38).bind fun x53=>(k_rec_103 x52 x53).bind fun x54=>bif (!decide (x54=(0:Int))) then(Z122_j4   x54) else((addC s49_38 (1:Int)).bind fun x57=>(Z122_l37 a0 a1 s7_10 k_next_8 k_rec_103 n37) x57))) else(Z122_j30 a0 a1 s7_10 k_next_8 )
def Z122_l8 (a0:Z7) (a1:Z7) (k_rec_103:Z7->Z7->Option Int):Nat->Int->Int->Option Int
 | 0,_,_=>none
 | n8+1,s5_9,s7_10=>bif (decide (s7_10<(1:Int))) then(bif (!decide (a0.FKind=a1.FKind)) then((Z26 a0.FKind a1.FKind).bind fun x21=>Z122_j4   x21) else(bif (!decide (a0.FInt=a1.FInt)) then((Z26 a0.FInt a1.FInt).bind fun x25=>Z122_j4   x25) else(bif (!(a0.FText==a1.FText)) then((Z89 a0.FText a1.FText).bind fun x29=>Z122_j4   x29) else(Z122_l37 a0 a1 s7_10 ((Z122_l8 a0 a1 k_rec_103 n8)) k_rec_103 F0 (0:Int))))) else(Z122_j4   s5_9)
def Z122_n:Nat->Z7->Z7->Option Int
 | 0,_,_=>none
 | n+1,a0,a1=>Z122_l8 a0 a1 (Z122_n n) F0 (0:Int) (0:Int)
theorem Z122_step (n:Nat) (ih_103:∀{a0 a1:Z7}{r:Int},Z122_n n a0 a1=some r->∀(H:Heap),AC Tryz.prog 103 [.agg (Z7.c a0),.agg (Z7.c a1)] H fun v h'=>v=.a (.d (.int .i64 r))/\h'=H):∀{a0 a1:Z7}{r:Int},Z122_n (n+1) a0 a1=some r->∀(H:Heap),AC Tryz.prog 103 [.agg (Z7.c a0),.agg (Z7.c a1)] H fun v h'=>v=.a (.d (.int .i64 r))/\h'=H:=by
 intro a0 a1   r hE H ;rw [Z122_n] at hE;refine AC.oW 84 [.tmp 4] Tryz.call103 Tryz.func103 ?_;refine seqR (S BX (S BX (S As (nil ?_))));refine AWp.scope ?_;refine seqR (S As (nil ?_));refine seqK fun K3 hK3=>?_;refine AWp.label ?_;refine hK3 _ ?_;clear hK3 K3;refine seqJH kN (fun(z:Int)=>[(5,.a (.d (.int .i64 z)))]) (fun z=>H) (fun z=>Z122_j4 z=some r) ?_ ?_
 ·intro K4 hK4;refine seqR (S Mv (nil ?_));refine block ?_;refine loopH (TA 2 (TA 3 kN)) (fun(z:Nat×Int×Int)=>[(5,.a (.d (.int .i64 z.2.1))),(7,.a (.d (.int .i64 z.2.2)))]) (fun z=>H) (fun z=>z.1) (fun z=>Z122_l8 a0 a1 (Z122_n n) z.1 z.2.1 z.2.2=some r) (F0,(0:Int),(0:Int)) hE wA ?_;rintro ⟨n8,s5_9,s7_10⟩ hE K8 hK8;try dsimp only at hE
  cases n8 with
  | zero=>cases hE
  | succ n8 =>
    rw [Z122_l8] at hE;refine seqR (S BI (nil ?_));refine seqK fun K12 hK12=>?_;refine cE hE (fun hc13 hE=>?_) (fun hc13 hE=>?_)
    ·refine sk hK12 ?_;clear hK12 K12;refine seqJH (TA 2 (TA 3 (TA 7 kN))) (fun(z:Int)=>[(5,.a (.d (.int .i64 z)))]) (fun z=>H) (fun z=>Z122_j14 s7_10 ((Z122_l8 a0 a1 (Z122_n n) n8)) z=some r) ?_ ?_
     ·intro K14 hK14;refine block ?_;refine seqK fun K17 hK17=>?_;refine block ?_;refine seqR (S Fv (S Ld (S Fv (S Ld (S BI (S As (nil ?_)))))));refine cE hE (fun hc19 hE=>?_) (fun hc19 hE=>?_)
      ·refine seqR (S Fv (S Ld (S Fv (S Ld ?_))));obtain⟨x21,gx21,hE⟩:=bO hE;refine Sc rfl rfl (Z26_walk gx21) ?_;refine S As (nil ?_);refine AWp.exit ?_;exact hK4 _ x21 wA hE
      refine seqR (S Fv (S Ld (S Fv (S Ld (S BI (S As (nil ?_)))))));refine cE hE (fun hc23 hE=>?_) (fun hc23 hE=>?_)
      ·refine seqR (S Fv (S Ld (S Fv (S Ld ?_))));obtain⟨x25,gx25,hE⟩:=bO hE;refine Sc rfl rfl (Z26_walk gx25) ?_;refine S As (nil ?_);refine AWp.exit ?_;exact hK4 _ x25 wA hE
      refine seqR (S Fv (S Ld (S Fv (S Ld (S BS (S As (nil ?_)))))));refine cE hE (fun hc27 hE=>?_) (fun hc27 hE=>?_)
      ·refine seqR (S Fv (S Ld (S Fv (S Ld ?_))));obtain⟨x29,gx29,hE⟩:=bO hE;refine Sc rfl rfl (Z89_walk gx29) ?_;refine S As (nil ?_);refine AWp.exit ?_;exact hK4 _ x29 wA hE
      refine sk hK17 ?_;clear hK17 K17;refine seqJH (TA 2 (TA 3 (TA 7 kN))) (fun(z:Unit)=>[]) (fun z=>H) (fun z=>Z122_j30 a0 a1 s7_10 ((Z122_l8 a0 a1 (Z122_n n) n8)) =some r) ?_ ?_
      ·intro K30 hK30;refine seqR (S Fv ?_);refine s0 (loadV (TK rfl) rfl rfl (congrArg (fun x=>some (A.d x)) (Z7.FItemsD_eq _))) rfl ?_;refine sLen (f:=Z7.c) (s:=a0.FItems) (TK rfl) rfl rfl rfl rfl fun hL35=>?_;refine S Fv ?_;refine s0 (loadV (TK rfl) rfl rfl (congrArg (fun x=>some (A.d x)) (Z7.FItemsD_eq _))) rfl ?_;refine sLen (f:=Z7.c) (s:=a1.FItems) (TK rfl) rfl rfl rfl rfl fun hL36=>?_;refine s0 (minM rfl rfl) rfl ?_
       refine S Mv (nil ?_);refine block ?_;refine loopH (TA 2 (TA 3 (TA 7 (TA 48 kN)))) (fun(z:Nat×Int)=>[(49,.a (.d (.int .i64 z.2)))]) (fun z=>H) (fun z=>z.1) (fun z=>Z122_l37 a0 a1 s7_10 ((Z122_l8 a0 a1 (Z122_n n) n8)) (Z122_n n) z.1 z.2=some r) (F0,(0:Int)) hE wA ?_;rintro ⟨n37,s49_38⟩ hE K37 hK37;try dsimp only at hE
       cases n37 with
       | zero=>cases hE
       | succ n37 =>
         rw [Z122_l37] at hE;refine seqR (S BI (nil ?_));refine seqK fun K40 hK40=>?_;refine cE hE (fun hc41 hE=>?_) (fun hc41 hE=>?_)
         ·refine sk hK40 ?_;clear hK40 K40;refine seqK fun K42 hK42=>?_;refine block ?_;refine seqR (S Mv (S As (nil ?_)));refine seqK fun K44 hK44=>?_;refine AWp.seqD (Sd Ld (Sd Mv ?_));obtain⟨x46,gx46,hE⟩:=bO hE;refine Scd rfl rfl (Z124_walk gx46) ?_;refine Sd Ld (Sd Mv ?_);obtain⟨x47,gx47,hE⟩:=bO hE;refine Scd rfl rfl (Z124_walk gx47) ?_;obtain⟨x48,gx48,hE⟩:=bO hE;refine Scd rfl rfl (Z89_walk gx48) ?_
          refine Sd As ?_;refine DOps.nil (by decide +kernel) ?_;refine seqR (S Mv (S BI (nil ?_)));refine cE hE (fun hc50 hE=>?_) (fun hc50 hE=>?_)
          ·refine AWp.exit ?_;exact hK4 _ x48 wA hE
          refine sk hK44 ?_;clear hK44 K44;refine AWp.seqD (Sd Fv ?_);refine DOps.s0 (loadV (TK rfl) rfl rfl (congrArg (fun x=>some (A.d x)) (Z7.FItemsD_eq _))) rfl ?_;refine Sd Mv ?_;obtain⟨x52,gx52,hE⟩:=bO hE;refine DOps.s0 (idxM (f:=Z7.c) (TK rfl) rfl (TK rfl) rfl rfl rfl gx52) rfl ?_;refine Sd Ld (Sd Fv ?_);refine DOps.s0 (loadV (TK rfl) rfl rfl (congrArg (fun x=>some (A.d x)) (Z7.FItemsD_eq _))) rfl ?_
          refine Sd Mv ?_;obtain⟨x53,gx53,hE⟩:=bO hE;refine DOps.s0 (idxM (f:=Z7.c) (TK rfl) rfl (TK rfl) rfl rfl rfl gx53) rfl ?_;refine Sd Ld ?_;obtain⟨x54,gx54,hE⟩:=bO hE;refine Scd rfl rfl (ih_103 gx54) ?_;refine Sd As ?_;refine DOps.nil (by decide +kernel) ?_;refine seqR (S Mv (S BI (nil ?_)));refine cE hE (fun hc56 hE=>?_) (fun hc56 hE=>?_)
          ·refine AWp.exit ?_;exact hK4 _ x54 wA hE
          refine sk hK42 ?_;clear hK42 K42;refine region ?_;obtain⟨x57,gx57,hE⟩:=bO hE;refine s0 (addM rfl rfl gx57) rfl ?_;refine S Mv (nil ?_);exact hK37 _ (n37,x57) wA hE (nS _)
         refine AWp.exit ?_;exact hK30 _ () wA hE
      rintro _ hE;try dsimp only at hE
      unfold Z122_j30 at hE;refine region ?_;refine S Fv ?_;refine s0 (loadV (TK rfl) rfl rfl (congrArg (fun x=>some (A.d x)) (Z7.FItemsD_eq _))) rfl ?_;refine sLen (f:=Z7.c) (s:=a0.FItems) (TK rfl) rfl rfl rfl rfl fun hL31=>?_;refine S Fv ?_;refine s0 (loadV (TK rfl) rfl rfl (congrArg (fun x=>some (A.d x)) (Z7.FItemsD_eq _))) rfl ?_;refine sLen (f:=Z7.c) (s:=a1.FItems) (TK rfl) rfl rfl rfl rfl fun hL32=>?_
      obtain⟨x33,gx33,hE⟩:=bO hE;refine Sc rfl rfl (Z26_walk gx33) ?_;refine S As (nil ?_);exact hK14 _ x33 wA hE
     rintro s5_15 hE;try dsimp only at hE
     unfold Z122_j14 at hE;refine region ?_;obtain⟨x16,gx16,hE⟩:=bO hE;refine s0 (addM rfl rfl gx16) rfl ?_;refine S Mv (nil ?_);exact hK8 _ (n8,s5_15,x16) wA hE (nS _)
    refine AWp.exit ?_;exact hK4 _ s5_9 wA hE
 rintro s5_5 hE;try dsimp only at hE
 unfold Z122_j4 at hE;refine seqR (S Mv (S As (nil ?_)));refine AWp.ret ?_;repeat (first|refine xBlock_ret ?_|refine xThen_ret ?_|refine noG_ret ?_)
 obtain rfl:=oJ hE;refine retQ.retF H rfl ⟨rfl,rfl⟩ ?_;exact(fun _ _ h=>h)
theorem Z122_all:∀(n:Nat),(∀{a0 a1:Z7}{r:Int},Z122_n n a0 a1=some r->∀(H:Heap),AC Tryz.prog 103 [.agg (Z7.c a0),.agg (Z7.c a1)] H fun v h'=>v=.a (.d (.int .i64 r))/\h'=H)
 | 0=>fun hE=>by first|cases hE|(rw [Z122_n] at hE; cases hE)
 | n+1=>Z122_step n (Z122_all n)
def Z122 (a0:Z7) (a1:Z7):Option Int:=Z122_n F0 a0 a1
theorem Z122_walk {a0 a1:Z7}{r:Int}(hE:Z122 a0 a1=some r) (H:Heap) :AC Tryz.prog 103 [.agg (Z7.c a0),.agg (Z7.c a1)] H fun v h'=>v=.a (.d (.int .i64 r))/\h'=H:=(Z122_all F0) hE H 
def Z123 (a0:Z7) (a1:Z7):Option Bool:=(Z122 a0 a1).bind fun x3=>some (decide (x3=(0:Int)))
theorem Z123_walk {a0 a1:Z7}{r:Bool}(hE:Z123 a0 a1=some r) (H:Heap) :AC Tryz.prog 72 [.agg (Z7.c a0),.agg (Z7.c a1)] H fun v h'=>v=.a (.d (.bool r))/\h'=H:=by
 unfold Z123 at hE;refine AC.oW 9 [.tmp 4] Tryz.call72 Tryz.func72 ?_;refine seqR (S BX (S BX (S As (nil ?_))));refine seqR (S Ld (S Ld ?_));obtain⟨x3,gx3,hE⟩:=bO hE;refine Sc rfl rfl (Z122_walk gx3) ?_;refine S BI (S As (nil ?_));exact rt hE
section
variable [IsLoud lou]
def Z18_j12 (s100_7:Nat) (k_next_6:Nat->Z0->Option Z0) (y13_c0:Z0):Option Z0:=k_next_6 (s100_7+1) y13_c0
def Z18_l6 (a1:(Sl Z5)) (a2:(Sl Z5)) (a3:Z1) (a4:(Bs->Option (Bs×Bs))) :Nat->Nat->Z0->Option Z0
 | 0,_,_=>none
 | n6+1,s100_7,y8_c0=>bif (decide (((s100_7:Nat):Int)<((a2.l.length:Nat):Int))) then((a2.l[s100_7]?).bind fun x15=>(Z73 a1 x15.FName).bind fun x17=>bif (!x17.2) then((a4 x15.FName).bind fun x21=>(Z19 x15).bind fun x22=>(Z13 y8_c0 a3.Fadd x21.1 x21.2 ([]:Bs) x22).bind fun x23=>Z18_j12 s100_7 ((Z18_l6 a1 a2 a3 a4 n6)) x23) else(Z18_j12 s100_7 ((Z18_l6 a1 a2 a3 a4 n6)) y8_c0)) else(some y8_c0)
def Z18_j2 (a1:(Sl Z5)) (a2:(Sl Z5)) (a3:Z1) (a4:(Bs->Option (Bs×Bs)))  (y3_c0:Z0):Option Z0:=Z18_l6 a1 a2 a3 a4 (a2.l.length+1) 0 y3_c0
def Z18_j32 (s24_27:Nat) (k_next_26:Nat->Z0->Option Z0) (y33_c0:Z0):Option Z0:=k_next_26 (s24_27+1) y33_c0
def Z18_j46 (a3:Z1) (s24_27:Nat) (x35:Z5) (x37:(Bs×Bs)) (x39:(Z5×Bool)) (k_next_26:Nat->Z0->Option Z0) (y47_c0:Z0):Option Z0:=guardO ((!(!(x35.FHas==x39.1.FHas))&&x35.FHas)) (Z123 x35.FDefault x39.1.FDefault) false fun x49=>bif ((!(x35.FHas==x39.1.FHas))||(x35.FHas&&(!x49))) then((Z12 x35).bind fun x51=>(Z12 x39.1).bind fun x52=>(Z13 y47_c0 a3.Fdef x37.1 x37.2 x51 x52).bind fun x53=>Z18_j32 s24_27 k_next_26 x53) else(Z18_j32 s24_27 k_next_26 y47_c0)
def Z18_l26 (a1:(Sl Z5)) (a2:(Sl Z5)) (a3:Z1) (a4:(Bs->Option (Bs×Bs))) :Nat->Nat->Z0->Option Z0
 | 0,_,_=>none
 | n26+1,s24_27,y28_c0=>bif (decide (((s24_27:Nat):Int)<((a1.l.length:Nat):Int))) then((a1.l[s24_27]?).bind fun x35=>(a4 x35.FName).bind fun x37=>(Z73 a2 x35.FName).bind fun x39=>bif (!x39.2) then((Z19 x35).bind fun x44=>(Z13 y28_c0 a3.Fgone x37.1 x37.2 x44 ([]:Bs)).bind fun x45=>Z18_j32 s24_27 ((Z18_l26 a1 a2 a3 a4 n26)) x45) else((Z117 x35.FType x39.1.FType).bind fun x55=>bif (!x55) then((Z116 x35.FType).bind fun x57=>(Z116 x39.1.FType).bind fun x58=>(Z13 y28_c0 a3.Ftyp x37.1 x37.2 x57 x58).bind fun x59=>Z18_j46 a3 s24_27 x35 x37 x39 ((Z18_l26 a1 a2 a3 a4 n26)) x59) else(Z18_j46 a3 s24_27 x35 x37 x39 ((Z18_l26 a1 a2 a3 a4 n26)) y28_c0))) else(Z18_j2 a1 a2 a3 a4  y28_c0)
def Z18 (a0:Z0) (a1:(Sl Z5)) (a2:(Sl Z5)) (a3:Z1) (a4:(Bs->Option (Bs×Bs))):Option Z0:=Z18_l26 a1 a2 a3 a4 (a1.l.length+1) 0 a0
theorem Z18_walk {a0:Z0}{a1 a2:Sl Z5}{a3:Z1}{a4:(Bs->Option (Bs×Bs))}{w1 w2:Option Nat}{cl4:List D}{oT:Ab.Obj}{c0 c0_1 k4 gT:Nat}{r:Z0}(hE:Z18 a0 a1 a2 a3 a4=some r) (H:Heap) (hc0:H c0=some (.cells (Z0.cg (some c0_1) a0))) (ht0_1:H c0_1=some (.tok 6 a0.Fout.l.length)) (hf4:∀x0 r,a4 x0=some r->∀H,AC Tryz.prog k4 ([.d (.str x0)]++cl4.map A.d) H fun v h'=>v=.tup [.d (.str r.1),.d (.str r.2)]/\h'=H) (hgT:H gT=some oT) (hoT:IsTab Tryz.prog oT):AC Tryz.prog 42 [.d (.ptr c0 0),.d (Sl.d 10 Z5.c w1 a1),.d (Sl.d 10 Z5.c w2 a2),.agg (Z1.c a3),.d (.func k4 cl4)] H fun v h'=>v=.tup []/\h'=((H.set c0_1 (some (.tok 6 r.Fout.l.length))).set c0 (some (.cells (Z0.cg (some c0_1) r)))):=by
 unfold Z18 at hE;refine AC.oW 129 [] Tryz.call42 Tryz.func42 ?_;have ne_c0_c0_1:c0≠c0_1:=fun e_=>by subst e_; simp_all
 have ne_gT_c0_1:gT≠c0_1:=fun e_=>by subst e_; obtain⟨_,_,_,e2_,_⟩:=hoT; simp_all
 have ne_gT_c0:gT≠c0:=fun e_=>by subst e_; obtain⟨_,_,_,e2_,_⟩:=hoT; simp_all
 refine AWp.heqA (h':=((H.set c0_1 (some (.tok 6 a0.Fout.l.length))).set c0 (some (.cells (Z0.cg (some c0_1) a0))))) (by funext n_; simp only [Heap.set]; (repeat' split)<;>simp_all) ?_;refine seqR (S BX (nil ?_));refine seqJH (TA 0 (TA 1 (TA 2 (TA 4 (TA 8 kN))))) (fun(z:Z0)=>[]) (fun z=>((H.set c0_1 (some (.tok 6 z.Fout.l.length))).set c0 (some (.cells (Z0.cg (some c0_1) z))))) (fun z=>Z18_j2 a1 a2 a3 a4 z=some r) ?_ ?_
 ·intro K2 hK2;refine seqR (S Mv ?_);refine sLen (f:=Z5.c) (s:=a1) (TK rfl) rfl rfl rfl rfl fun hL25=>?_;refine S Mv (nil ?_);refine block ?_;refine loopH (TA 0 (TA 1 (TA 2 (TA 4 (TA 8 (TA 22 (TA 23 kN))))))) (fun(z:Nat×Nat×Z0)=>[(24,.a (.d (.int .i64 ((z.2.1:Nat):Int))))]) (fun z=>((H.set c0_1 (some (.tok 6 z.2.2.Fout.l.length))).set c0 (some (.cells (Z0.cg (some c0_1) z.2.2))))) (fun z=>z.1) (fun z=>Z18_l26 a1 a2 a3 a4 z.1 z.2.1 z.2.2=some r) ((a1.l.length+1),0,a0) hE wA ?_
  rintro ⟨n26,s24_27,y28_c0⟩ hE K26 hK26;try dsimp only at hE
  cases n26 with
  | zero=>cases hE
  | succ n26 =>
    rw [Z18_l26] at hE;refine seqR (S BI (nil ?_));refine seqK fun K30 hK30=>?_;refine cE hE (fun hc31 hE=>?_) (fun hc31 hE=>?_)
    ·try dsimp only at hc31
     have hf31:=oD hc31;refine sk hK30 ?_;clear hK30 K30;refine seqJH (TA 0 (TA 1 (TA 2 (TA 4 (TA 8 (TA 22 (TA 23 (TA 24 kN)))))))) (fun(z:Z0)=>[]) (fun z=>((H.set c0_1 (some (.tok 6 z.Fout.l.length))).set c0 (some (.cells (Z0.cg (some c0_1) z))))) (fun z=>Z18_j32 s24_27 ((Z18_l26 a1 a2 a3 a4 n26)) z=some r) ?_ ?_
     ·intro K32 hK32;refine block ?_;refine seqR ?_;obtain⟨x35,gx35,hE⟩:=bO hE;refine S (ix Z5.c s24_27 gx35) (S Ld ?_);refine Sl ?_;refine Sf ?_;refine nil ?_;refine freezeA 11 _ rfl (KA 0 (KA 1 (KA 2 (KA 4 (KA 8 (KA 22 (KA 23 (KA 24 Keeps.nil)))))))) ?_;refine seqR (S Mv (S Fv (S Ld ?_)));obtain⟨x37,gx37,hE⟩:=bO hE;refine s0 (callP rfl rfl (hf4 _ _ gx37)) rfl ?_;refine S Mv (S EX (S EX (S As (S As (nil ?_)))))
      refine seqR (S Mv (S Fv (S Ld ?_)));obtain⟨x39,gx39,hE⟩:=bO hE;refine Sc rfl rfl (Z73_walk gx39) ?_;refine S Mv (S EX (S EX ?_));refine Sl ?_;refine Sf ?_;refine S As (nil ?_);refine freezeA 14 _ rfl (KA 0 (KA 1 (KA 2 (KA 4 (KA 8 (KA 11 (KA 12 (KA 13 (KA 15 (KA 22 (KA 23 (KA 24 Keeps.nil)))))))))))) ?_;refine seqK fun K40 hK40=>?_;refine seqR (S Mv (S NB (nil ?_)));refine cE hE (fun hc42 hE=>?_) (fun hc42 hE=>?_)
      ·refine AWp.seqD (Sd Mv (Sd Fv (Sd Ld (Sd Mv (Sd Mv (Sd Ld ?_))))));obtain⟨x44,gx44,hE⟩:=bO hE;refine DOps.s0 (callR rfl rfl (Z19_walk (gT:=gT) (oT:=oT) gx44 _ hpG (by assumption))) rfl ?_;obtain⟨x45,gx45,hE⟩:=bO hE;refine DOps.sH (callH rfl rfl (Z13_walk gx45 _ hpG hpG)) rfl ?_;refine DOps.Dh ((H.set c0_1 (some (.tok 6 x45.Fout.l.length))).set c0 (some (.cells (Z0.cg (some c0_1) x45)))) ?_;refine DOps.nil (by decide +kernel) ?_
       refine AWp.exit ?_;exact hK32 _ x45 wA hE
      refine sk hK40 ?_;clear hK40 K40;refine seqJH (TA 0 (TA 1 (TA 2 (TA 4 (TA 8 (TA 11 (TA 12 (TA 13 (TA 14 (TA 22 (TA 23 (TA 24 kN)))))))))))) (fun(z:Z0)=>[]) (fun z=>((H.set c0_1 (some (.tok 6 z.Fout.l.length))).set c0 (some (.cells (Z0.cg (some c0_1) z))))) (fun z=>Z18_j46 a3 s24_27 x35 x37 x39 ((Z18_l26 a1 a2 a3 a4 n26)) z=some r) ?_ ?_
      ·intro K46 hK46;refine seqR (S Fv (S Ld (S Fv (S Ld ?_))));obtain⟨x55,gx55,hE⟩:=bO hE;refine Sc rfl rfl (Z117_walk gx55) ?_;refine S NB (nil ?_);refine cE hE (fun hc56 hE=>?_) (fun hc56 hE=>?_)
       ·refine AWp.draw rfl ?_;refine Sd Mv (Sd Fv (Sd Ld (Sd Mv (Sd Mv (Sd Fv (Sd Ld ?_))))));obtain⟨x57,gx57,hE⟩:=bO hE;refine Scd rfl rfl (Z116_walk gx57) ?_;refine Sd Fv (Sd Ld ?_);obtain⟨x58,gx58,hE⟩:=bO hE;refine Scd rfl rfl (Z116_walk gx58) ?_;obtain⟨x59,gx59,hE⟩:=bO hE;refine DOps.sH (callH rfl rfl (Z13_walk gx59 _ hpG hpG)) rfl ?_;refine DOps.Dh ((H.set c0_1 (some (.tok 6 x59.Fout.l.length))).set c0 (some (.cells (Z0.cg (some c0_1) x59)))) ?_
        refine DOps.nil (by decide +kernel) ?_;exact hK46 _ x59 wA hE
       refine AWp.skip ?_;exact hK46 _ y28_c0 wA hE
      rintro y47_c0 hE;try dsimp only at hE
      unfold Z18_j46 at hE;refine seqR (S Fv (S Ld (S Fv (S Ld ?_))));refine s0 (neB (TK rfl) rfl rfl rfl) rfl ?_;refine S Mv (G0 Fv ?_);refine G1 76 rfl Ld ?_;refine G1 77 rfl Mv ?_;refine G0 Fv ?_;refine G1 79 rfl Ld ?_;refine G0 Fv ?_;refine G1 81 rfl Ld ?_;obtain⟨x49,gx49,hE⟩:=gO hE;refine Gc2 80 82 rfl rfl rfl rfl rfl rfl (fun hC=>Z123_walk (gx49 hC)) ?_;refine G1 83 rfl NB ?_;refine gC rfl rfl (fun hC=>ungdA (k:=78) rfl (pickAndA rfl rfl rfl)) rfl ?_
      refine S PO (nil ?_);refine cE hE (fun hc50 hE=>?_) (fun hc50 hE=>?_)
      ·refine AWp.draw rfl ?_;refine Sd Mv (Sd Fv (Sd Ld (Sd Mv (Sd Mv (Sd Ld ?_)))));obtain⟨x51,gx51,hE⟩:=bO hE;refine DOps.s0 (callR rfl rfl (Z12_walk (gT:=gT) (oT:=oT) gx51 _ hpG (by assumption))) rfl ?_;refine Sd Ld ?_;obtain⟨x52,gx52,hE⟩:=bO hE;refine DOps.s0 (callR rfl rfl (Z12_walk (gT:=gT) (oT:=oT) gx52 _ hpG (by assumption))) rfl ?_;obtain⟨x53,gx53,hE⟩:=bO hE;refine DOps.sH (callH rfl rfl (Z13_walk gx53 _ hpG hpG)) rfl ?_
       refine DOps.Dh ((H.set c0_1 (some (.tok 6 x53.Fout.l.length))).set c0 (some (.cells (Z0.cg (some c0_1) x53)))) ?_;refine DOps.nil (by decide +kernel) ?_;exact hK32 _ x53 wA hE
      refine AWp.skip ?_;exact hK32 _ y47_c0 wA hE
     rintro y33_c0 hE;try dsimp only at hE
     unfold Z18_j32 at hE;refine region ?_;refine SI ?_;refine S Mv (nil ?_);exact hK26 _ (n26,(s24_27+1),y33_c0) wA hE (nS _)
    refine AWp.exit ?_;exact hK2 _ y28_c0 wA hE
 rintro y3_c0 hE;try dsimp only at hE
 unfold Z18_j2 at hE;refine seqR (S Mv ?_);refine sLen (f:=Z5.c) (s:=a2) (TK rfl) rfl rfl rfl rfl fun hL5=>?_;refine S Mv (nil ?_);refine block ?_;refine loopH (TA 0 (TA 1 (TA 4 (TA 8 (TA 98 (TA 99 kN)))))) (fun(z:Nat×Nat×Z0)=>[(100,.a (.d (.int .i64 ((z.2.1:Nat):Int))))]) (fun z=>((H.set c0_1 (some (.tok 6 z.2.2.Fout.l.length))).set c0 (some (.cells (Z0.cg (some c0_1) z.2.2))))) (fun z=>z.1) (fun z=>Z18_l6 a1 a2 a3 a4 z.1 z.2.1 z.2.2=some r) ((a2.l.length+1),0,y3_c0) hE wA ?_
 rintro ⟨n6,s100_7,y8_c0⟩ hE K6 hK6;try dsimp only at hE
 cases n6 with
 | zero=>cases hE
 | succ n6 =>
   rw [Z18_l6] at hE;refine seqR (S BI (nil ?_));refine seqK fun K10 hK10=>?_;refine cE hE (fun hc11 hE=>?_) (fun hc11 hE=>?_)
   ·try dsimp only at hc11
    have hf11:=oD hc11;refine sk hK10 ?_;clear hK10 K10;refine seqJH (TA 0 (TA 1 (TA 4 (TA 8 (TA 98 (TA 99 (TA 100 kN))))))) (fun(z:Z0)=>[]) (fun z=>((H.set c0_1 (some (.tok 6 z.Fout.l.length))).set c0 (some (.cells (Z0.cg (some c0_1) z))))) (fun z=>Z18_j12 s100_7 ((Z18_l6 a1 a2 a3 a4 n6)) z=some r) ?_ ?_
    ·intro K12 hK12;refine block ?_;refine seqR ?_;obtain⟨x15,gx15,hE⟩:=bO hE;refine S (ix Z5.c s100_7 gx15) (S Ld ?_);refine Sl ?_;refine Sf ?_;refine nil ?_;refine freezeA 17 _ rfl (KA 0 (KA 1 (KA 4 (KA 8 (KA 98 (KA 99 (KA 100 Keeps.nil))))))) ?_;refine seqR (S Mv (S Fv (S Ld ?_)));obtain⟨x17,gx17,hE⟩:=bO hE;refine Sc rfl rfl (Z73_walk gx17) ?_;refine S Mv (S EX (S EX ?_));refine Sl ?_;refine Sf ?_
     refine S As (nil ?_);refine freezeA 18 _ rfl (KA 0 (KA 1 (KA 4 (KA 8 (KA 17 (KA 19 (KA 98 (KA 99 (KA 100 Keeps.nil))))))))) ?_;refine seqR (S Mv (S NB (nil ?_)));refine cE hE (fun hc19 hE=>?_) (fun hc19 hE=>?_)
     ·refine seqR (S Mv (S Fv (S Ld ?_)));obtain⟨x21,gx21,hE⟩:=bO hE;refine s0 (callP rfl rfl (hf4 _ _ gx21)) rfl ?_;refine S Mv (S EX (S EX (S As (S As (nil ?_)))));refine AWp.draw rfl ?_;refine Sd Mv (Sd Fv (Sd Ld (Sd Mv (Sd Mv (Sd Ld ?_)))));obtain⟨x22,gx22,hE⟩:=bO hE;refine DOps.s0 (callR rfl rfl (Z19_walk (gT:=gT) (oT:=oT) gx22 _ hpG (by assumption))) rfl ?_;obtain⟨x23,gx23,hE⟩:=bO hE;refine DOps.sH (callH rfl rfl (Z13_walk gx23 _ hpG hpG)) rfl ?_
      refine DOps.Dh ((H.set c0_1 (some (.tok 6 x23.Fout.l.length))).set c0 (some (.cells (Z0.cg (some c0_1) x23)))) ?_;refine DOps.nil (by decide +kernel) ?_;exact hK12 _ x23 wA hE
     refine AWp.skip ?_;exact hK12 _ y8_c0 wA hE
    rintro y13_c0 hE;try dsimp only at hE
    unfold Z18_j12 at hE;refine region ?_;refine SI ?_;refine S Mv (nil ?_);exact hK6 _ (n6,(s100_7+1),y13_c0) wA hE (nS _)
   refine AWp.exit ?_;repeat (first|refine xBlock_normal ?_|refine xThen_exit ?_|refine xBlock_exit ?_)
   obtain rfl:=oJ hE;refine retQ.normalF ((H.set c0_1 (some (.tok 6 y8_c0.Fout.l.length))).set c0 (some (.cells (Z0.cg (some c0_1) y8_c0)))) (xs:=[]) rfl ⟨rfl,rfl⟩ ?_;exact(fun _ _ h=>h)
end
def Z71_j2  (y3_l0:Z4):Option (Z4×Bool):=some ((Z4.mk ([]:Bs) (Sl.nil:Sl Z5) TRef.zero (Sl.nil:Sl TDir)),false)
def Z71_l7 (a0:TDef) (a1:Bs) :Nat->Nat->Z4->Option (Z4×Bool)
 | 0,_,_=>none
 | n7+1,s11_8,y9_l0=>bif (decide (((s11_8:Nat):Int)<((a0.FFields.l.length:Nat):Int))) then((a0.FFields.l[s11_8]?).bind fun x15=>bif ((x15.FName==a1)) then(some (x15,true)) else((Z71_l7 a0 a1 n7) (s11_8+1) y9_l0)) else(Z71_j2   y9_l0)
def Z71 (a0:TDef) (a1:Bs):Option (Z4×Bool):=Z71_l7 a0 a1 (a0.FFields.l.length+1) 0 Z4.zero
theorem Z71_walk {a0:TDef}{a1:Bs}{r:Z4×Bool}(hE:Z71 a0 a1=some r) (H:Heap) :AC Tryz.prog 63 [.agg (TDef.c a0),.d (.str a1)] H fun v h'=>v=.tup [.agg (Z4.c r.1),.d (.bool r.2)]/\h'=H:=by
 unfold Z71 at hE;refine AC.oW 22 [.cell 4 64,.tmp 5] Tryz.call63 Tryz.func63 ?_;refine seqR (S BX ?_);refine Sl ?_;refine S As (nil ?_);refine seqJ (TA 4 kN) (fun(z:Z4)=>[]) (fun z=>[Z4.c z]) (fun z=>H) (fun z=>Z71_j2 z=some r) ?_ ?_
 ·intro K2 hK2;refine seqR (S Fv (S Ld ?_));refine sLen (f:=Z4.c) (s:=a0.FFields) (TK rfl) rfl rfl rfl rfl fun hL6=>?_;refine S Mv (nil ?_);refine block ?_;refine loopO (TA 1 (TA 4 (TA 9 (TA 10 kN)))) (fun(z:Nat×Nat×Z4)=>[(11,.a (.d (.int .i64 ((z.2.1:Nat):Int))))]) (fun z=>[Z4.c z.2.2]) (fun z=>H) (fun z=>z.1) (fun z=>Z71_l7 a0 a1 z.1 z.2.1 z.2.2=some r) ((a0.FFields.l.length+1),0,Z4.zero) hE wA ?_
  rintro ⟨n7,s11_8,y9_l0⟩ hE K7 hK7;try dsimp only at hE
  cases n7 with
  | zero=>cases hE
  | succ n7 =>
    rw [Z71_l7] at hE;refine seqR (S BI (nil ?_));refine seqK fun K11 hK11=>?_;refine cE hE (fun hc12 hE=>?_) (fun hc12 hE=>?_)
    ·try dsimp only at hc12
     have hf12:=oD hc12;refine sk hK11 ?_;clear hK11 K11;refine seqK fun K13 hK13=>?_;refine block ?_;refine seqR ?_;obtain⟨x15,gx15,hE⟩:=bO hE;refine S (ix Z4.c s11_8 gx15) (S Ld ?_);refine Sl ?_;refine Sf ?_;refine nil ?_;refine freezeA 7 _ rfl (KA 1 (KA 4 (KA 9 (KA 10 (KA 11 Keeps.nil))))) ?_;refine seqR (S Fv (S Ld (S Mv (S BS (nil ?_)))));refine cE hE (fun hc17 hE=>?_) (fun hc17 hE=>?_)
     ·refine seqR (S Ld ?_);refine Sf ?_;refine S As (nil ?_);exact rt hE
     refine sk hK13 ?_;clear hK13 K13;refine region ?_;refine SI ?_;refine S Mv (nil ?_);exact hK7 _ (n7,(s11_8+1),y9_l0) wA hE (nS _)
    refine AWp.exit ?_;exact hK2 _ y9_l0 wA hE
 rintro y3_l0 hE;try dsimp only at hE
 unfold Z71_j2 at hE;refine seqR (S BU ?_);refine Sf ?_;refine S As (nil ?_);exact rt hE
def Z17 (a0:Bs) (a1:Z4):Option (Bs×Bs):=some (a1.FName,a0)
theorem Z17_walk {a0:Bs}{a1:Z4}{r:Bs×Bs}(hE:Z17 a0 a1=some r) (H:Heap) :AC Tryz.prog 65 [.d (.str a0),.d (.view (Z4.c a1))] H fun v h'=>v=.tup [.d (.str r.1),.d (.str r.2)]/\h'=H:=by
 unfold Z17 at hE;refine AC.oW 8 [.tmp 3,.tmp 4] Tryz.call65 Tryz.func65 ?_;refine seqR (S As (S As (nil ?_)));refine seqR (S Fv (S Ld (S Mv (S As (S As (nil ?_))))));exact rt hE
end Go.Proofs

namespace Go.Proofs
open Go Go.Ab
open AOps Cert AWp Keeps KeepsT
variable {lou:Lou}
section
variable [IsLoud lou]
def Z16_j12 (s65_7:Nat) (k_next_6:Nat->Z0->Option Z0) (y13_c0:Z0):Option Z0:=k_next_6 (s65_7+1) y13_c0
def Z16_l6 (a1:TDef) (a2:TDef) :Nat->Nat->Z0->Option Z0
 | 0,_,_=>none
 | n6+1,s65_7,y8_c0=>bif (decide (((s65_7:Nat):Int)<((a2.FFields.l.length:Nat):Int))) then((a2.FFields.l[s65_7]?).bind fun x15=>(Z71 a1 x15.FName).bind fun x17=>bif (!x17.2) then((Z116 x15.FType).bind fun x20=>(Z13 y8_c0 (5:Int) x15.FName ([]:Bs) ([]:Bs) x20).bind fun x21=>Z16_j12 s65_7 ((Z16_l6 a1 a2 n6)) x21) else(Z16_j12 s65_7 ((Z16_l6 a1 a2 n6)) y8_c0)) else(some y8_c0)
def Z16_j2 (a1:TDef) (a2:TDef)  (y3_c0:Z0):Option Z0:=Z16_l6 a1 a2 (a2.FFields.l.length+1) 0 y3_c0
def Z16_j30 (s17_25:Nat) (k_next_24:Nat->Z0->Option Z0) (y31_c0:Z0):Option Z0:=k_next_24 (s17_25+1) y31_c0
def Z16_j42 (s17_25:Nat) (x33:Z4) (x35:(Z4×Bool)) (k_next_24:Nat->Z0->Option Z0) (y43_c0:Z0):Option Z0:=(Z18 y43_c0 x33.FArgs x35.1.FArgs (Z1.mk (7:Int) (8:Int) (9:Int) (10:Int)) (fun y0=>Z17 y0 x33)).bind fun x44=>Z16_j30 s17_25 k_next_24 x44
def Z16_l24 (a1:TDef) (a2:TDef) :Nat->Nat->Z0->Option Z0
 | 0,_,_=>none
 | n24+1,s17_25,y26_c0=>bif (decide (((s17_25:Nat):Int)<((a1.FFields.l.length:Nat):Int))) then((a1.FFields.l[s17_25]?).bind fun x33=>(Z71 a2 x33.FName).bind fun x35=>bif (!x35.2) then((Z116 x33.FType).bind fun x40=>(Z13 y26_c0 (4:Int) x33.FName ([]:Bs) x40 ([]:Bs)).bind fun x41=>Z16_j30 s17_25 ((Z16_l24 a1 a2 n24)) x41) else((Z117 x33.FType x35.1.FType).bind fun x46=>bif (!x46) then((Z116 x33.FType).bind fun x48=>(Z116 x35.1.FType).bind fun x49=>(Z13 y26_c0 (6:Int) x33.FName ([]:Bs) x48 x49).bind fun x50=>Z16_j42 s17_25 x33 x35 ((Z16_l24 a1 a2 n24)) x50) else(Z16_j42 s17_25 x33 x35 ((Z16_l24 a1 a2 n24)) y26_c0))) else(Z16_j2 a1 a2  y26_c0)
def Z16 (a0:Z0) (a1:TDef) (a2:TDef):Option Z0:=Z16_l24 a1 a2 (a1.FFields.l.length+1) 0 a0
theorem Z16_walk {a0:Z0}{a1 a2:TDef}{oT:Ab.Obj}{c0 c0_1 gT:Nat}{r:Z0}(hE:Z16 a0 a1 a2=some r) (H:Heap) (hc0:H c0=some (.cells (Z0.cg (some c0_1) a0))) (ht0_1:H c0_1=some (.tok 6 a0.Fout.l.length)) (hgT:H gT=some oT) (hoT:IsTab Tryz.prog oT):AC Tryz.prog 39 [.d (.ptr c0 0),.agg (TDef.c a1),.agg (TDef.c a2)] H fun v h'=>v=.tup []/\h'=((H.set c0_1 (some (.tok 6 r.Fout.l.length))).set c0 (some (.cells (Z0.cg (some c0_1) r)))):=by
 unfold Z16 at hE;refine AC.oW 86 [] Tryz.call39 Tryz.func39 ?_;have ne_c0_c0_1:c0≠c0_1:=fun e_=>by subst e_; simp_all
 have ne_gT_c0_1:gT≠c0_1:=fun e_=>by subst e_; obtain⟨_,_,_,e2_,_⟩:=hoT; simp_all
 have ne_gT_c0:gT≠c0:=fun e_=>by subst e_; obtain⟨_,_,_,e2_,_⟩:=hoT; simp_all
 refine AWp.heqA (h':=((H.set c0_1 (some (.tok 6 a0.Fout.l.length))).set c0 (some (.cells (Z0.cg (some c0_1) a0))))) (by funext n_; simp only [Heap.set]; (repeat' split)<;>simp_all) ?_;refine seqR (S BX (S BX (nil ?_)));refine seqJH (TA 0 (TA 4 (TA 5 kN))) (fun(z:Z0)=>[]) (fun z=>((H.set c0_1 (some (.tok 6 z.Fout.l.length))).set c0 (some (.cells (Z0.cg (some c0_1) z))))) (fun z=>Z16_j2 a1 a2 z=some r) ?_ ?_
 ·intro K2 hK2;refine seqR (S Fv (S Ld ?_));refine sLen (f:=Z4.c) (s:=a1.FFields) (TK rfl) rfl rfl rfl rfl fun hL23=>?_;refine S Mv (nil ?_);refine block ?_;refine loopH (TA 0 (TA 4 (TA 5 (TA 15 (TA 16 kN))))) (fun(z:Nat×Nat×Z0)=>[(17,.a (.d (.int .i64 ((z.2.1:Nat):Int))))]) (fun z=>((H.set c0_1 (some (.tok 6 z.2.2.Fout.l.length))).set c0 (some (.cells (Z0.cg (some c0_1) z.2.2))))) (fun z=>z.1) (fun z=>Z16_l24 a1 a2 z.1 z.2.1 z.2.2=some r) ((a1.FFields.l.length+1),0,a0) hE wA ?_
  rintro ⟨n24,s17_25,y26_c0⟩ hE K24 hK24;try dsimp only at hE
  cases n24 with
  | zero=>cases hE
  | succ n24 =>
    rw [Z16_l24] at hE;refine seqR (S BI (nil ?_));refine seqK fun K28 hK28=>?_;refine cE hE (fun hc29 hE=>?_) (fun hc29 hE=>?_)
    ·try dsimp only at hc29
     have hf29:=oD hc29;refine sk hK28 ?_;clear hK28 K28;refine seqJH (TA 0 (TA 4 (TA 5 (TA 15 (TA 16 (TA 17 kN)))))) (fun(z:Z0)=>[]) (fun z=>((H.set c0_1 (some (.tok 6 z.Fout.l.length))).set c0 (some (.cells (Z0.cg (some c0_1) z))))) (fun z=>Z16_j30 s17_25 ((Z16_l24 a1 a2 n24)) z=some r) ?_ ?_
     ·intro K30 hK30;refine block ?_;refine seqR ?_;obtain⟨x33,gx33,hE⟩:=bO hE;refine S (ix Z4.c s17_25 gx33) (S Ld ?_);refine Sl ?_;refine Sf ?_;refine nil ?_;refine freezeA 7 _ rfl (KA 0 (KA 4 (KA 5 (KA 15 (KA 16 (KA 17 Keeps.nil)))))) ?_;refine seqR (S Ld (S Fv (S Ld ?_)));obtain⟨x35,gx35,hE⟩:=bO hE;refine Sc rfl rfl (Z71_walk gx35) ?_;refine S Mv (S EX (S EX ?_));refine Sl ?_;refine Sf ?_;refine S As (nil ?_)
      refine freezeA 8 _ rfl (KA 0 (KA 4 (KA 5 (KA 7 (KA 9 (KA 15 (KA 16 (KA 17 Keeps.nil)))))))) ?_;refine seqK fun K36 hK36=>?_;refine seqR (S Mv (S NB (nil ?_)));refine cE hE (fun hc38 hE=>?_) (fun hc38 hE=>?_)
      ·refine AWp.seqD (Sd Mv (Sd Fv (Sd Ld (Sd Fv (Sd Ld ?_)))));obtain⟨x40,gx40,hE⟩:=bO hE;refine Scd rfl rfl (Z116_walk gx40) ?_;obtain⟨x41,gx41,hE⟩:=bO hE;refine DOps.sH (callH rfl rfl (Z13_walk gx41 _ hpG hpG)) rfl ?_;refine DOps.Dh ((H.set c0_1 (some (.tok 6 x41.Fout.l.length))).set c0 (some (.cells (Z0.cg (some c0_1) x41)))) ?_;refine DOps.nil (by decide +kernel) ?_;refine AWp.exit ?_;exact hK30 _ x41 wA hE
      refine sk hK36 ?_;clear hK36 K36;refine seqJH (TA 0 (TA 4 (TA 5 (TA 7 (TA 8 (TA 15 (TA 16 (TA 17 kN)))))))) (fun(z:Z0)=>[]) (fun z=>((H.set c0_1 (some (.tok 6 z.Fout.l.length))).set c0 (some (.cells (Z0.cg (some c0_1) z))))) (fun z=>Z16_j42 s17_25 x33 x35 ((Z16_l24 a1 a2 n24)) z=some r) ?_ ?_
      ·intro K42 hK42;refine seqR (S Fv (S Ld (S Fv (S Ld ?_))));obtain⟨x46,gx46,hE⟩:=bO hE;refine Sc rfl rfl (Z117_walk gx46) ?_;refine S NB (nil ?_);refine cE hE (fun hc47 hE=>?_) (fun hc47 hE=>?_)
       ·refine AWp.draw rfl ?_;refine Sd Mv (Sd Fv (Sd Ld (Sd Fv (Sd Ld ?_))));obtain⟨x48,gx48,hE⟩:=bO hE;refine Scd rfl rfl (Z116_walk gx48) ?_;refine Sd Fv (Sd Ld ?_);obtain⟨x49,gx49,hE⟩:=bO hE;refine Scd rfl rfl (Z116_walk gx49) ?_;obtain⟨x50,gx50,hE⟩:=bO hE;refine DOps.sH (callH rfl rfl (Z13_walk gx50 _ hpG hpG)) rfl ?_;refine DOps.Dh ((H.set c0_1 (some (.tok 6 x50.Fout.l.length))).set c0 (some (.cells (Z0.cg (some c0_1) x50)))) ?_
        refine DOps.nil (by decide +kernel) ?_;exact hK42 _ x50 wA hE
       refine AWp.skip ?_;exact hK42 _ y26_c0 wA hE
      rintro y43_c0 hE;try dsimp only at hE
      unfold Z16_j42 at hE;refine region ?_;refine S Mv (S Fv (S Ld (S Fv (S Ld (S BU ?_)))));refine s0 (makeFunc rfl) rfl ?_;obtain⟨x44,gx44,hE⟩:=bO hE;refine sH (callH rfl rfl (Z18_walk (gT:=gT) (oT:=oT) gx44 _ hpG hpG (fun _ _ hx=>Z17_walk hx) hpG (by assumption))) rfl ?_;refine hq ((H.set c0_1 (some (.tok 6 x44.Fout.l.length))).set c0 (some (.cells (Z0.cg (some c0_1) x44)))) ?_;refine nil ?_;exact hK30 _ x44 wA hE
     rintro y31_c0 hE;try dsimp only at hE
     unfold Z16_j30 at hE;refine region ?_;refine SI ?_;refine S Mv (nil ?_);exact hK24 _ (n24,(s17_25+1),y31_c0) wA hE (nS _)
    refine AWp.exit ?_;exact hK2 _ y26_c0 wA hE
 rintro y3_c0 hE;try dsimp only at hE
 unfold Z16_j2 at hE;refine seqR (S Fv (S Ld ?_));refine sLen (f:=Z4.c) (s:=a2.FFields) (TK rfl) rfl rfl rfl rfl fun hL5=>?_;refine S Mv (nil ?_);refine block ?_;refine loopH (TA 0 (TA 4 (TA 63 (TA 64 kN)))) (fun(z:Nat×Nat×Z0)=>[(65,.a (.d (.int .i64 ((z.2.1:Nat):Int))))]) (fun z=>((H.set c0_1 (some (.tok 6 z.2.2.Fout.l.length))).set c0 (some (.cells (Z0.cg (some c0_1) z.2.2))))) (fun z=>z.1) (fun z=>Z16_l6 a1 a2 z.1 z.2.1 z.2.2=some r) ((a2.FFields.l.length+1),0,y3_c0) hE wA ?_
 rintro ⟨n6,s65_7,y8_c0⟩ hE K6 hK6;try dsimp only at hE
 cases n6 with
 | zero=>cases hE
 | succ n6 =>
   rw [Z16_l6] at hE;refine seqR (S BI (nil ?_));refine seqK fun K10 hK10=>?_;refine cE hE (fun hc11 hE=>?_) (fun hc11 hE=>?_)
   ·try dsimp only at hc11
    have hf11:=oD hc11;refine sk hK10 ?_;clear hK10 K10;refine seqJH (TA 0 (TA 4 (TA 63 (TA 64 (TA 65 kN))))) (fun(z:Z0)=>[]) (fun z=>((H.set c0_1 (some (.tok 6 z.Fout.l.length))).set c0 (some (.cells (Z0.cg (some c0_1) z))))) (fun z=>Z16_j12 s65_7 ((Z16_l6 a1 a2 n6)) z=some r) ?_ ?_
    ·intro K12 hK12;refine block ?_;refine seqR ?_;obtain⟨x15,gx15,hE⟩:=bO hE;refine S (ix Z4.c s65_7 gx15) (S Ld ?_);refine Sl ?_;refine Sf ?_;refine nil ?_;refine freezeA 11 _ rfl (KA 0 (KA 4 (KA 63 (KA 64 (KA 65 Keeps.nil))))) ?_;refine seqR (S Ld (S Fv (S Ld ?_)));obtain⟨x17,gx17,hE⟩:=bO hE;refine Sc rfl rfl (Z71_walk gx17) ?_;refine S Mv (S EX (S EX ?_));refine Sl ?_;refine Sf ?_;refine S As (nil ?_)
     refine freezeA 12 _ rfl (KA 0 (KA 4 (KA 11 (KA 13 (KA 63 (KA 64 (KA 65 Keeps.nil))))))) ?_;refine seqR (S Mv (S NB (nil ?_)));refine cE hE (fun hc19 hE=>?_) (fun hc19 hE=>?_)
     ·refine AWp.draw rfl ?_;refine Sd Mv (Sd Fv (Sd Ld (Sd Fv (Sd Ld ?_))));obtain⟨x20,gx20,hE⟩:=bO hE;refine Scd rfl rfl (Z116_walk gx20) ?_;obtain⟨x21,gx21,hE⟩:=bO hE;refine DOps.sH (callH rfl rfl (Z13_walk gx21 _ hpG hpG)) rfl ?_;refine DOps.Dh ((H.set c0_1 (some (.tok 6 x21.Fout.l.length))).set c0 (some (.cells (Z0.cg (some c0_1) x21)))) ?_;refine DOps.nil (by decide +kernel) ?_;exact hK12 _ x21 wA hE
     refine AWp.skip ?_;exact hK12 _ y8_c0 wA hE
    rintro y13_c0 hE;try dsimp only at hE
    unfold Z16_j12 at hE;refine region ?_;refine SI ?_;refine S Mv (nil ?_);exact hK6 _ (n6,(s65_7+1),y13_c0) wA hE (nS _)
   refine AWp.exit ?_;repeat (first|refine xBlock_normal ?_|refine xThen_exit ?_|refine xBlock_exit ?_)
   obtain rfl:=oJ hE;refine retQ.normalF ((H.set c0_1 (some (.tok 6 y8_c0.Fout.l.length))).set c0 (some (.cells (Z0.cg (some c0_1) y8_c0)))) (xs:=[]) rfl ⟨rfl,rfl⟩ ?_;exact(fun _ _ h=>h)
end
def Z23_j3  (s3_4:(Sl Bs)):Option (Sl Bs):=some s3_4
def Z23_l8 (a0:(Sl Z6)) :Nat->(Sl Bs)->Nat->Option (Sl Bs)
 | 0,_,_=>none
 | n8+1,s3_9,s8_10=>bif (decide (((s8_10:Nat):Int)<((a0.l.length:Nat):Int))) then((a0.l[s8_10]?).bind fun x16=>(appC 16 s3_9 (⟨false,[x16.FName]⟩:Sl Bs)).bind fun x17=>(Z23_l8 a0 n8) x17 (s8_10+1)) else(Z23_j3   s3_9)
def Z23 (a0:(Sl Z6)):Option (Sl Bs):=Z23_l8 a0 (a0.l.length+1) (Sl.nil:Sl Bs) 0
theorem Z23_walk {a0:Sl Z6}{w0:Option Nat}{r:Sl Bs}(hE:Z23 a0=some r) (H:Heap) :AC Tryz.prog 40 [.d (Sl.d 2 Z6.c w0 a0)] H fun v h'=>v=.a (.d (Sl.d 1 strE none r))/\h'=H:=by
 unfold Z23 at hE;refine AC.oW 19 [.tmp 2] Tryz.call40 Tryz.func40 ?_;refine AWp.tok 1 fun tk1 htk1=>?_;refine seqR ?_;refine s0 (assignNil (k':=1) rfl) rfl ?_;refine nil ?_;refine seqR (S As (nil ?_));refine AWp.nilTok 3 1 tk1 rfl hpG ?_;refine seqJH kN (fun(z:(Sl Bs))=>[(3,.a (.d (Sl.d 1 strE (some tk1) z)))]) (fun z=>(H.set tk1 (some (.tok 1 z.l.length)))) (fun z=>Z23_j3 z=some r) ?_ ?_
 ·intro K3 hK3;refine seqR (S Mv ?_);refine sLen (f:=Z6.c) (s:=a0) (TK rfl) rfl rfl rfl rfl fun hL7=>?_;refine S Mv (nil ?_);refine block ?_;refine loopH (TA 6 (TA 7 kN)) (fun(z:Nat×(Sl Bs)×Nat)=>[(3,.a (.d (Sl.d 1 strE (some tk1) z.2.1))),(8,.a (.d (.int .i64 ((z.2.2:Nat):Int))))]) (fun z=>(H.set tk1 (some (.tok 1 z.2.1.l.length)))) (fun z=>z.1) (fun z=>Z23_l8 a0 z.1 z.2.1 z.2.2=some r) ((a0.l.length+1),(Sl.nil:Sl Bs),0) hE wA ?_
  rintro ⟨n8,s3_9,s8_10⟩ hE K8 hK8;try dsimp only at hE
  cases n8 with
  | zero=>cases hE
  | succ n8 =>
    rw [Z23_l8] at hE;refine seqR (S BI (nil ?_));refine seqK fun K12 hK12=>?_;refine cE hE (fun hc13 hE=>?_) (fun hc13 hE=>?_)
    ·try dsimp only at hc13
     have hf13:=oD hc13;refine sk hK12 ?_;clear hK12 K12;refine seqK fun K14 hK14=>?_;refine block ?_;refine seqR ?_;obtain⟨x16,gx16,hE⟩:=bO hE;refine S (ix Z6.c s8_10 gx16) (S Ld ?_);refine Sl ?_;refine Sf ?_;refine nil ?_;refine freezeA 5 _ rfl (KA 3 (KA 6 (KA 7 (KA 8 Keeps.nil)))) ?_;refine region ?_;refine S Mv (S Fv (S Ld (S BV ?_)));obtain⟨x17,gx17,hE⟩:=bO hE;refine SH (am strE (TK rfl) rfl (TK rfl) (TK rfl) gx17) ?_
     refine hq (H.set tk1 (some (.tok 1 x17.l.length))) ?_;refine S As (nil ?_);refine hK14 _ ?_;clear hK14 K14;refine region ?_;refine SI ?_;refine S Mv (nil ?_);exact hK8 _ (n8,x17,(s8_10+1)) wA hE (nS _)
    refine AWp.exit ?_;exact hK3 _ s3_9 wA hE
 rintro s3_4 hE;try dsimp only at hE
 unfold Z23_j3 at hE;refine seqR (S Mv (S As (nil ?_)));refine AWp.dropTok 2 rfl ?_;refine AWp.ret ?_;repeat (first|refine xBlock_ret ?_|refine xThen_ret ?_)
 obtain rfl:=oJ hE;refine retQ.retF H rfl ⟨rfl,rfl⟩ ?_
 first|exact Heap.sub_set htk1|(simp only [Heap.set_set]; exact Heap.sub_set htk1)
def Tryz.lay66_ren:Go.Shelf.Ren:=⟨fun|10=>66|6=>101|n=>n,fun|22=>47|23=>9|25=>43|3=>3|4=>4|0=>0|n=>n,fun|n=>n⟩
theorem Tryz.lay66:Go.Proofs.SlLaysH.n10 Tryz.prog Tryz.lay66_ren:={
 mixed:=by kernel_rfl
 f6:=⟨Tryz.f101.name,by decide,Tryz.func101.trans (congrArg some (by kernel_rfl))⟩
 f10:=⟨Tryz.f66.name,by decide,Tryz.func66.trans (congrArg some (by kernel_rfl))⟩
 t0:=Tryz.underlying0
 a0:=Tryz.isAgg0
 z0:=Tryz.sizeOf0
 v0:=Tryz.zeroValue0
 t3:=Tryz.underlying3
 a3:=Tryz.isAgg3
 z3:=Tryz.sizeOf3
 v3:=Tryz.zeroValue3
 t4:=Tryz.underlying4
 a4:=Tryz.isAgg4
 z4:=Tryz.sizeOf4
 v4:=Tryz.zeroValue4
 t22:=Tryz.underlying47
 a22:=Tryz.isAgg47
 z22:=Tryz.sizeOf47
 v22:=Tryz.zeroValue47
 a23:=Tryz.isAgg9
 z23:=Tryz.sizeOf9
 t25:=Tryz.underlying43
 a25:=Tryz.isAgg43
 z25:=Tryz.sizeOf43
 v25:=Tryz.zeroValue43 }
theorem Z79_walk {s:Sl Bs}{f:Bs->Option Bool}{g:Nat}{cs:List D}(ht:∀x,∃z,f x=some z) (eg:∀args w,(callFunc g args).run Tryz.prog w=.ok (.enter g args) w)
  (hg:∀x z j w cvs,f x=some z->All2 (DRel j w) cs cvs->Calls Tryz.prog g (#[.string ⟨x.toArray⟩]++cvs.toArray) w fun e w'=>e=.returned (.bool z)/\∃q,w'=w.drewN q)
  {H:Heap}{id m:Nat}{nl:Bool}(hH:H id=some (.arr 1 (s.l.map strE))) (hm:m=s.l.length) (hn:nl=s.nl):AC Tryz.prog 66 [.d (.arr 1 id nl m),.d (.func g cs)] H fun r h'=>r=.a (.d (Sl.d 1 strE none (delL f s)))/\h'=H.set id none :=
 delS_calls Tryz.lay66 Tryz.zeroValue9 ht eg hg hH hm hn rfl
def Z76 (a0:(Sl Bs)):Option (Sl Bs):=bif a0.nl then(some (Sl.nil:Sl Bs)) else((appC 16 (⟨false,[]⟩:Sl Bs) a0).bind fun x7=>some x7)
theorem Z76_arr {a0:Sl Bs}{w0:Option Nat}{ar0:Nat}{r:Sl Bs}(hE:Z76 a0=some r) (H:Heap) (har0:H ar0=some (.arr 1 [])) :AC Tryz.prog 67 [.d (Sl.d 1 strE w0 a0)] H fun v h'=>v=.a (.d (.arr 1 ar0 r.nl r.l.length))/\h'=H.set ar0 (some (.arr 1 (r.l.map strE))):=by
 unfold Z76 at hE;refine AC.oW 8 [.tmp 2] Tryz.call67 Tryz.func67 ?_;refine AWp.heqA (h':=(H.set ar0 (some (.arr 1 [])))) (by funext n_; simp only [Heap.set]; (repeat' split)<;>simp_all) ?_;refine seqR ?_;refine s0 (assignNil (k':=1) rfl) rfl ?_;refine AOps.nilR 2 1 ar0 rfl hpG ?_;refine nil ?_;refine seqK fun K2 hK2=>?_;refine seqR (S Mv ?_);refine s0 (eqNil (TK rfl) rfl rfl) rfl ?_;refine nil ?_
 refine cE hE (fun hc4 hE=>?_) (fun hc4 hE=>?_)
 ·refine seqR ?_;refine s0 (assignNil (k':=1) rfl) rfl ?_;refine AOps.nilR 2 1 ar0 rfl hpG ?_;refine nil ?_;exact rt hE
 refine sk hK2 ?_;clear hK2 K2;refine seqR ?_;refine s0 (buildSliceF (TK rfl) rfl (TK rfl) rfl rfl rfl rfl rfl rfl) rfl ?_;refine AOps.fullR 5 1 ar0 rfl hpG ?_;refine S Mv ?_;obtain⟨x7,gx7,hE⟩:=bO hE;refine sH (appR (f:=strE) (s:=(⟨false,[]⟩:Sl Bs)) (TK rfl) rfl (TK rfl) (TK rfl) ⟨_,rfl⟩ rfl rfl rfl rfl rfl rfl hpG (by first|rfl|simp [Sl.setL,Sl.nil,sortL_len]) rfl gx7) rfl ?_;refine hq (H.set ar0 (some (.arr 1 (x7.l.map strE)))) ?_
 refine S As (nil ?_);exact rt hE
def Z81_j2  :Option Int:=some (-1:Int)
def Z81_l6 (a0:(Sl Bs)) (a1:Bs) :Nat->Nat->Option Int
 | 0,_=>none
 | n6+1,s8_7=>bif (decide (((s8_7:Nat):Int)<((a0.l.length:Nat):Int))) then((a0.l[s8_7]?).bind fun x14=>bif ((a1==x14)) then(some ((s8_7:Nat):Int)) else((Z81_l6 a0 a1 n6) (s8_7+1))) else(Z81_j2   )
def Z81 (a0:(Sl Bs)) (a1:Bs):Option Int:=Z81_l6 a0 a1 (a0.l.length+1) 0
def Z77 (a0:(Sl Bs)) (a1:Bs):Option Bool:=(Z81 a0 a1).bind fun x3=>some (decide ((0:Int)<=x3))
def Z22 (a0:Bs) (a1:(Sl Bs)):Option Bool:=(Z77 a1 a0).bind fun x3=>some x3
def Tryz.lay69_ren:Go.Shelf.Ren:=⟨fun|31=>69|29=>102|n=>n,fun|22=>47|23=>9|4=>4|3=>3|0=>0|n=>n,fun|n=>n⟩
theorem Tryz.lay69:Go.Proofs.SlLaysE.n31 Tryz.prog Tryz.lay69_ren:={
 mixed:=by kernel_rfl
 f29:=⟨Tryz.f102.name,by decide,Tryz.func102.trans (congrArg some (by kernel_rfl))⟩
 f31:=⟨Tryz.f69.name,by decide,Tryz.func69.trans (congrArg some (by kernel_rfl))⟩
 t0:=Tryz.underlying0
 a0:=Tryz.isAgg0
 z0:=Tryz.sizeOf0
 v0:=Tryz.zeroValue0
 t3:=Tryz.underlying3
 a3:=Tryz.isAgg3
 z3:=Tryz.sizeOf3
 v3:=Tryz.zeroValue3
 t4:=Tryz.underlying4
 a4:=Tryz.isAgg4
 z4:=Tryz.sizeOf4
 v4:=Tryz.zeroValue4
 t22:=Tryz.underlying47
 a22:=Tryz.isAgg47
 z22:=Tryz.sizeOf47
 v22:=Tryz.zeroValue47
 a23:=Tryz.isAgg9
 z23:=Tryz.sizeOf9 }
theorem Z22_idx (a1:Sl Bs) (x:Bs):∀(n k:Nat),k<=a1.l.length->a1.l.length<k+n->∃i:Int,Z81_l6 a1 x n k=some i/\decide ((0:Int)<=i)=(a1.l.drop k).contains x
 | 0,k,h1,h2=>by omega
 | n+1,k,h1,h2=>by
  rw [Z81_l6];by_cases hk:k<a1.l.length
  ·rw [dT (by omega:((k:Nat):Int)<((a1.l.length:Nat):Int)),cond_true,List.getElem?_eq_getElem hk,oB,List.drop_eq_getElem_cons hk,List.contains_cons];cases h:(x==a1.l[k])
   ·obtain⟨i,e,hi⟩:=Z22_idx a1 x n (k+1) (by omega) (by omega);exact⟨i,by rw [cond_false,e],by rw [hi,Bool.false_or]⟩
   exact⟨_,rfl,by simp⟩
  rw [dF (by omega:¬((k:Nat):Int)<((a1.l.length:Nat):Int)),cond_false];unfold Z81_j2;exact⟨-1,rfl,by rw [List.drop_of_length_le (by omega)]; rfl⟩
theorem Z22_is (x:Bs) (a1:Sl Bs):Z22 x a1=some (a1.l.contains x):=by
 obtain⟨i,e,h⟩:=Z22_idx a1 x (a1.l.length+1) 0 (Nat.zero_le _) (by omega);unfold Z22 Z77 Z81;rw [e,oB,oB,h,List.drop_zero]
theorem Z22_tot (a1:Sl Bs) (x:Bs):∃z,Z22 x a1=some z:=⟨_,Z22_is x a1⟩
theorem Z22_enter (args:Array Value) (w:World):(callFunc 68 args).run Tryz.prog w=.ok (.enter 68 args) w:=Tryz.call68 args w
theorem Z22_callsC (a1:Sl Bs) (x:Bs) (z:Bool) (j:J) (w:World) (cvs:List Value) (h:Z22 x a1=some z) (hc:All2 (DRel j w) [.view [Sl.d 1 strE none a1]] cvs) :
  Calls Tryz.prog 68 (#[.string ⟨x.toArray⟩]++cvs.toArray) w fun e w'=>e=.returned (.bool z)/\∃q,w'=w.drewN q:=by
 rw [Z22_is] at h;obtain rfl:=oJ h;obtain⟨a,cv,rfl,hsp,hcell,hv⟩:=view_strs hc;obtain⟨ab,ao,asp⟩:=a;obtain rfl:asp=none:=hsp;have eC:∀args w,(callFunc 69 args).run Tryz.prog w=.ok (.enter 69 args) w:=fun args w=>Tryz.call69 args w
 go_enter Tryz.func68,Tryz.ntmps68
 go_wp2_with (go_at_fn 69; refine(containsS_calls (ρ:=Tryz.lay69_ren) Tryz.lay69 (EqlAt.stringS _ _) hv x).mono ?_; rintro e w' ⟨rfl,rfl⟩)
 go_ret
 refine⟨?_,0,rfl⟩;show Ending.returned (Value.bool (decide (x∈a1.l)))=Ending.returned (Value.bool (a1.l.contains x))
 congr 2
 rw [Bool.eq_iff_iff]; simp
def Z21 (a0:(Sl Bs)) (a1:(Sl Bs)):Option (Sl Bs):=(Z76 a0).bind fun x3=>(some (delL (fun y0=>Z22 y0 a1) x3)).bind fun x4=>some x4
theorem Z21_walk {a0 a1:Sl Bs}{w0 w1:Option Nat}{r:Sl Bs}(hE:Z21 a0 a1=some r) (H:Heap) :AC Tryz.prog 41 [.d (Sl.d 1 strE w0 a0),.d (Sl.d 1 strE w1 a1)] H fun v h'=>v=.a (.d (Sl.d 1 strE none r))/\h'=H:=by
 unfold Z21 at hE;refine AC.oW 9 [.tmp 4] Tryz.call41 Tryz.func41 ?_;refine AWp.arrO 1 fun ar1 har1=>?_;refine seqR ?_;refine AOps.dropTok 1 rfl ?_;refine S BX ?_;refine s0 (assignNil (k':=1) rfl) rfl ?_;refine nil ?_;refine seqR (S Mv ?_);obtain⟨x3,gx3,hE⟩:=bO hE;refine sH (callH rfl rfl (Z76_arr gx3 _ hpG)) rfl ?_;refine hq (H.set ar1 (some (.arr 1 (x3.l.map strE)))) ?_;refine s0 (makeFunc rfl) rfl ?_
 obtain⟨x4,gx4,hE⟩:=bO hE;have ex4:=oJ gx4;refine sH (callH rfl rfl (Z79_walk (s:=x3) (f:=fun y0=>Z22 y0 a1) (Z22_tot a1) Z22_enter (Z22_callsC a1) hpG (by first|rfl|simp [Sl.setL,Sl.nil,sortL_len]) rfl)) rfl ?_;refine hq H ?_;rw [ex4];refine S As (nil ?_);exact rt hE
def Z15 (a0:Bs):Option (Bs×Bs):=some (a0,([]:Bs))
theorem Z15_walk {a0:Bs}{r:Bs×Bs}(hE:Z15 a0=some r) (H:Heap) :AC Tryz.prog 43 [.d (.str a0)] H fun v h'=>v=.tup [.d (.str r.1),.d (.str r.2)]/\h'=H:=by
 unfold Z15 at hE;refine AC.oW 5 [.tmp 2,.tmp 3] Tryz.call43 Tryz.func43 ?_;refine seqR (S As (S As (nil ?_)));refine seqR (S Mv (S As (S As (nil ?_))));exact rt hE
end Go.Proofs
