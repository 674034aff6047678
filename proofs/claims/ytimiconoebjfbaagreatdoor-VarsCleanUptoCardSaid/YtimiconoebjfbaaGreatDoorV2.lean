import Derived.Test.YtimiconoebjfbaaGreatDoorV1
set_option maxRecDepth 100000
set_option maxHeartbeats 2000000
set_option linter.unusedVariables false
set_option linter.unusedSimpArgs false
namespace Go.Proofs
open Go Go.Ab
open AOps Cert AWp Keeps KeepsT
variable {lou:Lou}
def Z23 (a0:TValue) (a1:Bool):Option Bool:=bif (decide (a0.FKind=(0:Int))) then(some ((((decide (a0.FInt=(0:Int)))&&((a0.FText==([]:Bs))))&&(decide (((a0.FItems.l.length:Nat):Int)=(0:Int))))&&(decide (((a0.FKeys.l.length:Nat):Int)=(0:Int))))) else(bif (decide (a0.FKind=(1:Int))) then(some (((((decide (a0.FInt=(0:Int)))||(decide (a0.FInt=(1:Int))))&&((a0.FText==([]:Bs))))&&(decide (((a0.FItems.l.length:Nat):Int)=(0:Int))))&&(decide (((a0.FKeys.l.length:Nat):Int)=(0:Int))))) else(bif (decide (a0.FKind=(2:Int))) then(some ((((a0.FText==([]:Bs)))&&(decide (((a0.FItems.l.length:Nat):Int)=(0:Int))))&&(decide (((a0.FKeys.l.length:Nat):Int)=(0:Int))))) else(bif (decide (a0.FKind=(3:Int))) then(some (((decide (a0.FInt=(0:Int)))&&(decide (((a0.FItems.l.length:Nat):Int)=(0:Int))))&&(decide (((a0.FKeys.l.length:Nat):Int)=(0:Int))))) else(bif (decide (a0.FKind=(4:Int))) then(guardO ((((decide (a0.FInt=(0:Int)))&&(decide (((a0.FItems.l.length:Nat):Int)=(0:Int))))&&(decide (((a0.FKeys.l.length:Nat):Int)=(0:Int))))) (Z16 a0.FText) false fun x19=>some (((((((decide (a0.FInt=(0:Int)))&&(decide (((a0.FItems.l.length:Nat):Int)=(0:Int))))&&(decide (((a0.FKeys.l.length:Nat):Int)=(0:Int))))&&x19)&&(!(a0.FText==([116,114,117,101]:Bs))))&&(!(a0.FText==([102,97,108,115,101]:Bs))))&&(!(a0.FText==([110,117,108,108]:Bs))))) else(bif (decide (a0.FKind=(5:Int))) then(some (((decide (a0.FInt=(0:Int)))&&((a0.FText==([]:Bs))))&&(decide (((a0.FKeys.l.length:Nat):Int)=(0:Int))))) else(bif (decide (a0.FKind=(6:Int))) then(guardO ((((decide (a0.FInt=(0:Int)))&&((a0.FText==([]:Bs))))&&(decide (((a0.FKeys.l.length:Nat):Int)=((a0.FItems.l.length:Nat):Int))))) (Z24 a0.FKeys) false fun x26=>some ((((decide (a0.FInt=(0:Int)))&&((a0.FText==([]:Bs))))&&(decide (((a0.FKeys.l.length:Nat):Int)=((a0.FItems.l.length:Nat):Int))))&&(!x26))) else(bif (decide (a0.FKind=(7:Int))) then(guardO ((((a1&&(decide (a0.FInt=(0:Int))))&&(decide (((a0.FItems.l.length:Nat):Int)=(0:Int))))&&(decide (((a0.FKeys.l.length:Nat):Int)=(0:Int))))) (Z16 a0.FText) false fun x30=>some ((((a1&&(decide (a0.FInt=(0:Int))))&&(decide (((a0.FItems.l.length:Nat):Int)=(0:Int))))&&(decide (((a0.FKeys.l.length:Nat):Int)=(0:Int))))&&x30)) else(some false))))))))
theorem Z23_walk {a0:TValue}{a1 r:Bool}(hE:Z23 a0 a1=some r) (H:Heap) :ACalls Tryz.prog 125 [.agg (TValue.c a0),.d (.bool a1)] H fun v h'=>v=.a (.d (.bool r))/\h'=H:=by
 unfold Z23 at hE;refine ACalls.oW 193 [.tmp 4] Tryz.call125 Tryz.func125 ?_;refine seqR ?_;refine S BX (S As ?_);refine nil ?_;refine seqK fun K2 hK2=>?_;refine seqR ?_;refine S Fv (S Ld ?_);refine nil ?_;refine block ?_;refine seqR ?_;refine S BI (S As ?_);refine nil ?_;refine cE hE (fun hc5 hE=>?_) (fun hc5 hE=>?_)
 ·refine seqR ?_;refine S Fv (S Ld (S BI (S Mv (g0 Fv ?_))));refine g1 13 rfl Ld ?_;refine g1 14 rfl BS ?_;refine S PA (S Mv (g0 Fv ?_));refine gC rfl rfl (fun hC=>ungdA (k:=18) rfl (loadV (TK rfl) rfl rfl (congrArg (fun x=>some (A.d x)) (TValue.FItemsD_eq _)))) rfl ?_;refine gC rfl rfl (fun hC=>ungdA (k:=19) rfl (lenM' (f:=TValue.c) (s:=a0.FItems) (TK rfl) rfl rfl rfl)) rfl ?_;refine g1 20 rfl BI ?_
  refine S PA (S Mv (g0 Fv ?_));refine g1 24 rfl Ld ?_;refine gC rfl rfl (fun hC=>ungdA (k:=25) rfl (lenM' (f:=strE) (s:=a0.FKeys) (TK rfl) rfl rfl rfl)) rfl ?_;refine g1 26 rfl BI ?_;refine S PA (S As ?_);refine nil ?_;exact rt hE
 refine seqR ?_;refine S BI (S As ?_);refine nil ?_;refine cE hE (fun hc8 hE=>?_) (fun hc8 hE=>?_)
 ·refine seqR ?_;refine S Fv (S Ld (S BI (S Mv (g0 Fv ?_))));refine g1 35 rfl Ld ?_;refine g1 36 rfl BI ?_;refine S PO (S Mv (g0 Fv ?_));refine g1 40 rfl Ld ?_;refine g1 41 rfl BS ?_;refine S PA (S Mv (g0 Fv ?_));refine gC rfl rfl (fun hC=>ungdA (k:=45) rfl (loadV (TK rfl) rfl rfl (congrArg (fun x=>some (A.d x)) (TValue.FItemsD_eq _)))) rfl ?_;refine gC rfl rfl (fun hC=>ungdA (k:=46) rfl (lenM' (f:=TValue.c) (s:=a0.FItems) (TK rfl) rfl rfl rfl)) rfl ?_
  refine g1 47 rfl BI ?_;refine S PA (S Mv (g0 Fv ?_));refine g1 51 rfl Ld ?_;refine gC rfl rfl (fun hC=>ungdA (k:=52) rfl (lenM' (f:=strE) (s:=a0.FKeys) (TK rfl) rfl rfl rfl)) rfl ?_;refine g1 53 rfl BI ?_;refine S PA (S As ?_);refine nil ?_;exact rt hE
 refine seqR ?_;refine S BI (S As ?_);refine nil ?_;refine cE hE (fun hc11 hE=>?_) (fun hc11 hE=>?_)
 ·refine seqR ?_;refine S Fv (S Ld (S BS (S Mv (g0 Fv ?_))));refine gC rfl rfl (fun hC=>ungdA (k:=62) rfl (loadV (TK rfl) rfl rfl (congrArg (fun x=>some (A.d x)) (TValue.FItemsD_eq _)))) rfl ?_;refine gC rfl rfl (fun hC=>ungdA (k:=63) rfl (lenM' (f:=TValue.c) (s:=a0.FItems) (TK rfl) rfl rfl rfl)) rfl ?_;refine g1 64 rfl BI ?_;refine S PA (S Mv (g0 Fv ?_));refine g1 68 rfl Ld ?_;refine gC rfl rfl (fun hC=>ungdA (k:=69) rfl (lenM' (f:=strE) (s:=a0.FKeys) (TK rfl) rfl rfl rfl)) rfl ?_
  refine g1 70 rfl BI ?_;refine S PA (S As ?_);refine nil ?_;exact rt hE
 refine seqR ?_;refine S BI (S As ?_);refine nil ?_;refine cE hE (fun hc14 hE=>?_) (fun hc14 hE=>?_)
 ·refine seqR ?_;refine S Fv (S Ld (S BI (S Mv (g0 Fv ?_))));refine gC rfl rfl (fun hC=>ungdA (k:=79) rfl (loadV (TK rfl) rfl rfl (congrArg (fun x=>some (A.d x)) (TValue.FItemsD_eq _)))) rfl ?_;refine gC rfl rfl (fun hC=>ungdA (k:=80) rfl (lenM' (f:=TValue.c) (s:=a0.FItems) (TK rfl) rfl rfl rfl)) rfl ?_;refine g1 81 rfl BI ?_;refine S PA (S Mv (g0 Fv ?_));refine g1 85 rfl Ld ?_;refine gC rfl rfl (fun hC=>ungdA (k:=86) rfl (lenM' (f:=strE) (s:=a0.FKeys) (TK rfl) rfl rfl rfl)) rfl ?_
  refine g1 87 rfl BI ?_;refine S PA (S As ?_);refine nil ?_;exact rt hE
 refine seqR ?_;refine S BI (S As ?_);refine nil ?_;refine cE hE (fun hc17 hE=>?_) (fun hc17 hE=>?_)
 ·refine seqR ?_;refine S Fv (S Ld (S BI (S Mv (g0 Fv ?_))));refine gC rfl rfl (fun hC=>ungdA (k:=96) rfl (loadV (TK rfl) rfl rfl (congrArg (fun x=>some (A.d x)) (TValue.FItemsD_eq _)))) rfl ?_;refine gC rfl rfl (fun hC=>ungdA (k:=97) rfl (lenM' (f:=TValue.c) (s:=a0.FItems) (TK rfl) rfl rfl rfl)) rfl ?_;refine g1 98 rfl BI ?_;refine S PA (S Mv (g0 Fv ?_));refine g1 102 rfl Ld ?_;refine gC rfl rfl (fun hC=>ungdA (k:=103) rfl (lenM' (f:=strE) (s:=a0.FKeys) (TK rfl) rfl rfl rfl)) rfl ?_
  refine g1 104 rfl BI ?_;refine S PA (S Mv (g0 Fv ?_));refine g1 108 rfl Ld ?_;obtain⟨x19,gx19,hE⟩:=gO hE;refine gc1 109 rfl rfl rfl rfl rfl (fun hC=>Z16_walk (gx19 hC)) ?_;refine S PA (S Mv (g0 Fv ?_));refine g1 113 rfl Ld ?_;refine g1 114 rfl BS ?_;refine S PA (S Mv (g0 Fv ?_));refine g1 118 rfl Ld ?_;refine g1 119 rfl BS ?_;refine S PA (S Mv (g0 Fv ?_));refine g1 123 rfl Ld ?_;refine g1 124 rfl BS ?_
  refine S PA (S As ?_);refine nil ?_;exact rt hE
 refine seqR ?_;refine S BI (S As ?_);refine nil ?_;refine cE hE (fun hc21 hE=>?_) (fun hc21 hE=>?_)
 ·refine seqR ?_;refine S Fv (S Ld (S BI (S Mv (g0 Fv ?_))));refine g1 133 rfl Ld ?_;refine g1 134 rfl BS ?_;refine S PA (S Mv (g0 Fv ?_));refine g1 138 rfl Ld ?_;refine gC rfl rfl (fun hC=>ungdA (k:=139) rfl (lenM' (f:=strE) (s:=a0.FKeys) (TK rfl) rfl rfl rfl)) rfl ?_;refine g1 140 rfl BI ?_;refine S PA (S As ?_);refine nil ?_;exact rt hE
 refine seqR ?_;refine S BI (S As ?_);refine nil ?_;refine cE hE (fun hc24 hE=>?_) (fun hc24 hE=>?_)
 ·refine seqR ?_;refine S Fv (S Ld (S BI (S Mv (g0 Fv ?_))));refine g1 149 rfl Ld ?_;refine g1 150 rfl BS ?_;refine S PA (S Mv (g0 Fv ?_));refine g1 154 rfl Ld ?_;refine gC rfl rfl (fun hC=>ungdA (k:=155) rfl (lenM' (f:=strE) (s:=a0.FKeys) (TK rfl) rfl rfl rfl)) rfl ?_;refine g0 Fv ?_;refine gC rfl rfl (fun hC=>ungdA (k:=157) rfl (loadV (TK rfl) rfl rfl (congrArg (fun x=>some (A.d x)) (TValue.FItemsD_eq _)))) rfl ?_
  refine gC rfl rfl (fun hC=>ungdA (k:=158) rfl (lenM' (f:=TValue.c) (s:=a0.FItems) (TK rfl) rfl rfl rfl)) rfl ?_;refine g2 156 159 rfl rfl BI ?_;refine S PA (S Mv (g0 Fv ?_));refine g1 163 rfl Ld ?_;obtain⟨x26,gx26,hE⟩:=gO hE;refine gc1 164 rfl rfl rfl rfl rfl (fun hC=>Z24_walk (gx26 hC)) ?_;refine g1 165 rfl NB ?_;refine S PA (S As ?_);refine nil ?_;exact rt hE
 refine seqR ?_;refine S BI (S As ?_);refine nil ?_;refine cE hE (fun hc28 hE=>?_) (fun hc28 hE=>?_)
 ·refine seqR ?_;refine S Mv (S Mv (g0 Fv ?_));refine g1 172 rfl Ld ?_;refine g1 173 rfl BI ?_;refine S PA (S Mv (g0 Fv ?_));refine gC rfl rfl (fun hC=>ungdA (k:=177) rfl (loadV (TK rfl) rfl rfl (congrArg (fun x=>some (A.d x)) (TValue.FItemsD_eq _)))) rfl ?_;refine gC rfl rfl (fun hC=>ungdA (k:=178) rfl (lenM' (f:=TValue.c) (s:=a0.FItems) (TK rfl) rfl rfl rfl)) rfl ?_;refine g1 179 rfl BI ?_;refine S PA (S Mv (g0 Fv ?_))
  refine g1 183 rfl Ld ?_;refine gC rfl rfl (fun hC=>ungdA (k:=184) rfl (lenM' (f:=strE) (s:=a0.FKeys) (TK rfl) rfl rfl rfl)) rfl ?_;refine g1 185 rfl BI ?_;refine S PA (S Mv (g0 Fv ?_));refine g1 189 rfl Ld ?_;obtain⟨x30,gx30,hE⟩:=gO hE;refine gc1 190 rfl rfl rfl rfl rfl (fun hC=>Z16_walk (gx30 hC)) ?_;refine S PA (S As ?_);refine nil ?_;exact rt hE
 refine sk hK2 ?_;clear hK2 K2;refine seqR ?_;refine S As ?_;refine nil ?_;exact rt hE
def Z25_j8  :Option Bool:=some true
def Z25_l11 (a0:TValue) (a1:Bool) (k_rec_101:TValue->Bool->Option Bool):Nat->Nat->Option Bool
 | 0,_=>none
 | n11+1,s6_12=>bif (decide (((s6_12:Nat):Int)<((a0.FItems.l.length:Nat):Int))) then((a0.FItems.l[s6_12]?).bind fun x19=>(k_rec_101 x19 a1).bind fun x20=>bif (!x20) then(some false) else((Z25_l11 a0 a1 k_rec_101 n11) (s6_12+1))) else(Z25_j8   )
def Z25_j7 (a0:TValue) (a1:Bool) (k_rec_101:TValue->Bool->Option Bool) :Option Bool:=Z25_l11 a0 a1 k_rec_101 (a0.FItems.l.length+1) 0
def Z25_l24 (a0:TValue) (a1:Bool) (k_rec_101:TValue->Bool->Option Bool):Nat->Nat->Option Bool
 | 0,_=>none
 | n24+1,s5_25=>bif (decide (((s5_25:Nat):Int)<((a0.FKeys.l.length:Nat):Int))) then(guardO (a1) (a0.FKeys.l[s5_25]?) ([]:Bs) fun x32=>guardO (a1) (Z16 x32) false fun x33=>bif (a1&&(!x33)) then(some false) else((Z25_l24 a0 a1 k_rec_101 n24) (s5_25+1))) else(Z25_j7 a0 a1 k_rec_101 )
def Z25_n:Nat->TValue->Bool->Option Bool
 | 0,_,_=>none
 | n+1,a0,a1=>(Z23 a0 a1).bind fun x4=>bif (!x4) then(some false) else(Z25_l24 a0 a1 (Z25_n n) (a0.FKeys.l.length+1) 0)
theorem Z25_step (n:Nat) (ih_101:∀{a0:TValue}{a1 r:Bool},Z25_n n a0 a1=some r->∀(H:Heap),ACalls Tryz.prog 101 [.agg (TValue.c a0),.d (.bool a1)] H fun v h'=>v=.a (.d (.bool r))/\h'=H):∀{a0:TValue}{a1 r:Bool},Z25_n (n+1) a0 a1=some r->∀(H:Heap),ACalls Tryz.prog 101 [.agg (TValue.c a0),.d (.bool a1)] H fun v h'=>v=.a (.d (.bool r))/\h'=H:=by
 intro a0 a1   r hE H ;rw [Z25_n] at hE;refine ACalls.oW 43 [.tmp 4] Tryz.call101 Tryz.func101 ?_;refine seqR ?_;refine S BX (S As ?_);refine nil ?_;refine seqK fun K2 hK2=>?_;refine seqR ?_;refine S Ld (S Mv ?_);obtain⟨x4,gx4,hE⟩:=bO hE;refine Sc rfl rfl (Z23_walk gx4) ?_;refine S NB ?_;refine nil ?_;refine cE hE (fun hc5 hE=>?_) (fun hc5 hE=>?_)
 ·refine seqR ?_;refine S As ?_;refine nil ?_;exact rt hE
 refine sk hK2 ?_;clear hK2 K2;refine seqJH (TA 1 (TA 2 KeepsT.nil)) (fun(z:Unit)=>[]) (fun z=>H) (fun z=>Z25_j7 a0 a1 (Z25_n n) =some r) ?_ ?_
 ·intro K7 hK7;refine seqR ?_;refine S As ?_;refine nil ?_;refine block ?_;refine loopH (TA 1 (TA 2 KeepsT.nil)) (fun(z:Nat×Nat)=>[(5,.a (.d (.int .i64 ((z.2:Nat):Int))))]) (fun z=>H) (fun z=>z.1) (fun z=>Z25_l24 a0 a1 (Z25_n n) z.1 z.2=some r) ((a0.FKeys.l.length+1),0) hE Weak.toA ?_;rintro ⟨n24,s5_25⟩ hE K24 hK24;try dsimp only at hE
  cases n24 with
  | zero=>cases hE
  | succ n24 =>
    rw [Z25_l24] at hE;refine seqK fun K26 hK26=>?_;refine seqR ?_;refine S Mv (S Fv (S Ld ?_));refine sLen (f:=strE) (s:=a0.FKeys) (TK rfl) rfl rfl rfl rfl fun hL28=>?_;refine S BI ?_;refine nil ?_;refine cE hE (fun hc29 hE=>?_) (fun hc29 hE=>?_)
    ·try dsimp only at hc29
     have hf29:=of_decide_eq_true hc29;refine sk hK26 ?_;clear hK26 K26;refine seqK fun K30 hK30=>?_;refine block ?_;refine seqR ?_;refine S Mv (S Mv (g0 Fv ?_));refine g1 20 rfl Ld ?_;refine g0 Mv ?_;obtain⟨x32,gx32,hE⟩:=gO hE;refine gC rfl rfl (fun hC=>ungdA (k:=21) rfl (ungdA (k:=22) rfl (idxMn (f:=strE) (n:=s5_25) (TK rfl) rfl (TK rfl) rfl rfl rfl (gx32 hC)))) rfl ?_;refine g1 23 rfl Ld ?_;obtain⟨x33,gx33,hE⟩:=gO hE
     refine gc1 24 rfl rfl rfl rfl rfl (fun hC=>Z16_walk (gx33 hC)) ?_;refine g1 25 rfl NB ?_;refine S PA ?_;refine nil ?_;refine cE hE (fun hc34 hE=>?_) (fun hc34 hE=>?_)
     ·refine seqR ?_;refine S As ?_;refine nil ?_;exact rt hE
     refine sk hK30 ?_;clear hK30 K30;refine region ?_;refine S Mv ?_;refine SI ?_;refine S As ?_;refine nil ?_;exact hK24 _ (n24,(s5_25+1)) Weak.toA hE (Nat.lt_succ_self _)
    refine AWp.exit ?_;exact hK7 _ () Weak.toA hE
 rintro _ hE;try dsimp only at hE
 unfold Z25_j7 at hE;refine seqJH KeepsT.nil (fun(z:Unit)=>[]) (fun z=>H) (fun z=>Z25_j8 =some r) ?_ ?_
 ·intro K8 hK8;refine seqR ?_;refine S As ?_;refine nil ?_;refine block ?_;refine loopH (TA 1 (TA 2 KeepsT.nil)) (fun(z:Nat×Nat)=>[(6,.a (.d (.int .i64 ((z.2:Nat):Int))))]) (fun z=>H) (fun z=>z.1) (fun z=>Z25_l11 a0 a1 (Z25_n n) z.1 z.2=some r) ((a0.FItems.l.length+1),0) hE Weak.toA ?_;rintro ⟨n11,s6_12⟩ hE K11 hK11;try dsimp only at hE
  cases n11 with
  | zero=>cases hE
  | succ n11 =>
    rw [Z25_l11] at hE;refine seqK fun K13 hK13=>?_;refine seqR ?_;refine S Mv (S Fv ?_);refine s0 (loadV (TK rfl) rfl rfl (congrArg (fun x=>some (A.d x)) (TValue.FItemsD_eq _))) rfl ?_;refine sLen (f:=TValue.c) (s:=a0.FItems) (TK rfl) rfl rfl rfl rfl fun hL15=>?_;refine S BI ?_;refine nil ?_;refine cE hE (fun hc16 hE=>?_) (fun hc16 hE=>?_)
    ·try dsimp only at hc16
     have hf16:=of_decide_eq_true hc16;refine sk hK13 ?_;clear hK13 K13;refine seqK fun K17 hK17=>?_;refine block ?_;refine seqR ?_;refine S Fv ?_;refine s0 (loadV (TK rfl) rfl rfl (congrArg (fun x=>some (A.d x)) (TValue.FItemsD_eq _))) rfl ?_;refine S Mv ?_;obtain⟨x19,gx19,hE⟩:=bO hE;refine s0 (idxMn (f:=TValue.c) (n:=s6_12) (TK rfl) rfl (TK rfl) rfl rfl rfl gx19) rfl ?_;refine S Ld (S Mv ?_);obtain⟨x20,gx20,hE⟩:=bO hE
     refine Sc rfl rfl (ih_101 gx20) ?_;refine S NB ?_;refine nil ?_;refine cE hE (fun hc21 hE=>?_) (fun hc21 hE=>?_)
     ·refine seqR ?_;refine S As ?_;refine nil ?_;exact rt hE
     refine sk hK17 ?_;clear hK17 K17;refine region ?_;refine S Mv ?_;refine SI ?_;refine S As ?_;refine nil ?_;exact hK11 _ (n11,(s6_12+1)) Weak.toA hE (Nat.lt_succ_self _)
    refine AWp.exit ?_;exact hK8 _ () Weak.toA hE
 rintro _ hE;try dsimp only at hE
 unfold Z25_j8 at hE;refine seqR ?_;refine S As ?_;refine nil ?_;exact rt hE
theorem Z25_all:∀(n:Nat),(∀{a0:TValue}{a1 r:Bool},Z25_n n a0 a1=some r->∀(H:Heap),ACalls Tryz.prog 101 [.agg (TValue.c a0),.d (.bool a1)] H fun v h'=>v=.a (.d (.bool r))/\h'=H)
 | 0=>fun hE=>by first|cases hE|(rw [Z25_n] at hE; cases hE)
 | n+1=>Z25_step n (Z25_all n)
def Z25 (a0:TValue) (a1:Bool):Option Bool:=Z25_n F0 a0 a1
theorem Z25_walk {a0:TValue}{a1 r:Bool}(hE:Z25 a0 a1=some r) (H:Heap) :ACalls Tryz.prog 101 [.agg (TValue.c a0),.d (.bool a1)] H fun v h'=>v=.a (.d (.bool r))/\h'=H:=(Z25_all F0) hE H 
def Z21 (a0:TValue):Option Bool:=(Z22 a0).bind fun x3=>guardO ((decide (x3<=(4096:Int)))) (Z20 a0) (0:Int) fun x4=>guardO (((decide (x3<=(4096:Int)))&&(decide (x4<=(24:Int))))) (Z25 a0 true) false fun x5=>some (((decide (x3<=(4096:Int)))&&(decide (x4<=(24:Int))))&&x5)
theorem Z21_walk {a0:TValue}{r:Bool}(hE:Z21 a0=some r) (H:Heap) :ACalls Tryz.prog 64 [.agg (TValue.c a0)] H fun v h'=>v=.a (.d (.bool r))/\h'=H:=by
 unfold Z21 at hE;refine ACalls.oW 15 [.tmp 2] Tryz.call64 Tryz.func64 ?_;refine seqR ?_;refine S BX (S As ?_);refine nil ?_;refine seqR ?_;refine S Ld ?_;obtain⟨x3,gx3,hE⟩:=bO hE;refine Sc rfl rfl (Z22_walk gx3) ?_;refine S BI (S Mv (g0 Ld ?_));obtain⟨x4,gx4,hE⟩:=gO hE;refine gc1 7 rfl rfl rfl rfl rfl (fun hC=>Z20_walk (gx4 hC)) ?_;refine g1 8 rfl BI ?_;refine S PA (S Mv (g0 Ld ?_));obtain⟨x5,gx5,hE⟩:=gO hE
 refine gc1 12 rfl rfl rfl rfl rfl (fun hC=>Z25_walk (gx5 hC)) ?_;refine S PA (S As ?_);refine nil ?_;exact rt hE
def Z36_j2 (a0:TValue)  :Option Bool:=some (!decide (a0.FKind=(7:Int)))
def Z36_l5 (a0:TValue) (k_rec_65:TValue->Option Bool):Nat->Nat->Option Bool
 | 0,_=>none
 | n5+1,s3_6=>bif (decide (((s3_6:Nat):Int)<((a0.FItems.l.length:Nat):Int))) then((a0.FItems.l[s3_6]?).bind fun x13=>(k_rec_65 x13).bind fun x14=>bif (!x14) then(some false) else((Z36_l5 a0 k_rec_65 n5) (s3_6+1))) else(Z36_j2 a0  )
def Z36_n:Nat->TValue->Option Bool
 | 0,_=>none
 | n+1,a0=>Z36_l5 a0 (Z36_n n) (a0.FItems.l.length+1) 0
theorem Z36_step (n:Nat) (ih_65:∀{a0:TValue}{r:Bool},Z36_n n a0=some r->∀(H:Heap),ACalls Tryz.prog 65 [.agg (TValue.c a0)] H fun v h'=>v=.a (.d (.bool r))/\h'=H):∀{a0:TValue}{r:Bool},Z36_n (n+1) a0=some r->∀(H:Heap),ACalls Tryz.prog 65 [.agg (TValue.c a0)] H fun v h'=>v=.a (.d (.bool r))/\h'=H:=by
 intro a0   r hE H ;rw [Z36_n] at hE;refine ACalls.oW 21 [.tmp 2] Tryz.call65 Tryz.func65 ?_;refine seqR ?_;refine S BX (S As ?_);refine nil ?_;refine seqJH (TA 1 KeepsT.nil) (fun(z:Unit)=>[]) (fun z=>H) (fun z=>Z36_j2 a0 =some r) ?_ ?_
 ·intro K2 hK2;refine seqR ?_;refine S As ?_;refine nil ?_;refine block ?_;refine loopH (TA 1 KeepsT.nil) (fun(z:Nat×Nat)=>[(3,.a (.d (.int .i64 ((z.2:Nat):Int))))]) (fun z=>H) (fun z=>z.1) (fun z=>Z36_l5 a0 (Z36_n n) z.1 z.2=some r) ((a0.FItems.l.length+1),0) hE Weak.toA ?_;rintro ⟨n5,s3_6⟩ hE K5 hK5;try dsimp only at hE
  cases n5 with
  | zero=>cases hE
  | succ n5 =>
    rw [Z36_l5] at hE;refine seqK fun K7 hK7=>?_;refine seqR ?_;refine S Mv (S Fv ?_);refine s0 (loadV (TK rfl) rfl rfl (congrArg (fun x=>some (A.d x)) (TValue.FItemsD_eq _))) rfl ?_;refine sLen (f:=TValue.c) (s:=a0.FItems) (TK rfl) rfl rfl rfl rfl fun hL9=>?_;refine S BI ?_;refine nil ?_;refine cE hE (fun hc10 hE=>?_) (fun hc10 hE=>?_)
    ·try dsimp only at hc10
     have hf10:=of_decide_eq_true hc10;refine sk hK7 ?_;clear hK7 K7;refine seqK fun K11 hK11=>?_;refine block ?_;refine seqR ?_;refine S Fv ?_;refine s0 (loadV (TK rfl) rfl rfl (congrArg (fun x=>some (A.d x)) (TValue.FItemsD_eq _))) rfl ?_;refine S Mv ?_;obtain⟨x13,gx13,hE⟩:=bO hE;refine s0 (idxMn (f:=TValue.c) (n:=s3_6) (TK rfl) rfl (TK rfl) rfl rfl rfl gx13) rfl ?_;refine S Ld ?_;obtain⟨x14,gx14,hE⟩:=bO hE
     refine Sc rfl rfl (ih_65 gx14) ?_;refine S NB ?_;refine nil ?_;refine cE hE (fun hc15 hE=>?_) (fun hc15 hE=>?_)
     ·refine seqR ?_;refine S As ?_;refine nil ?_;exact rt hE
     refine sk hK11 ?_;clear hK11 K11;refine region ?_;refine S Mv ?_;refine SI ?_;refine S As ?_;refine nil ?_;exact hK5 _ (n5,(s3_6+1)) Weak.toA hE (Nat.lt_succ_self _)
    refine AWp.exit ?_;exact hK2 _ () Weak.toA hE
 rintro _ hE;try dsimp only at hE
 unfold Z36_j2 at hE;refine seqR ?_;refine S Fv (S Ld (S BI (S As ?_)));refine nil ?_;exact rt hE
theorem Z36_all:∀(n:Nat),(∀{a0:TValue}{r:Bool},Z36_n n a0=some r->∀(H:Heap),ACalls Tryz.prog 65 [.agg (TValue.c a0)] H fun v h'=>v=.a (.d (.bool r))/\h'=H)
 | 0=>fun hE=>by first|cases hE|(rw [Z36_n] at hE; cases hE)
 | n+1=>Z36_step n (Z36_all n)
def Z36 (a0:TValue):Option Bool:=Z36_n F0 a0
theorem Z36_walk {a0:TValue}{r:Bool}(hE:Z36 a0=some r) (H:Heap) :ACalls Tryz.prog 65 [.agg (TValue.c a0)] H fun v h'=>v=.a (.d (.bool r))/\h'=H:=(Z36_all F0) hE H 
def Z40_j2 (a0:(Sl TVar))  :Option Bool:=some (decide (((a0.l.length:Nat):Int)<=(16:Int)))
def Z40_l6 (a0:(Sl TVar)) :Nat->Nat->Option Bool
 | 0,_=>none
 | n6+1,s3_7=>bif (decide (((s3_7:Nat):Int)<((a0.l.length:Nat):Int))) then((a0.l[s3_7]?).bind fun x14=>(Z16 x14.FName).bind fun x17=>guardO (!(!x17)) (Z30 x14.FType) false fun x18=>guardO (!((!x17)||(!x18))) (Z21 x14.FDefault) false fun x19=>guardO (!(((!x17)||(!x18))||(!x19))) (Z36 x14.FDefault) false fun x20=>bif ((((!x17)||(!x18))||(!x19))||(!x20)) then(some false) else(bif ((!x14.FHas)&&(!decide (x14.FDefault.FKind=(0:Int)))) then(some false) else((Z40_l6 a0 n6) (s3_7+1)))) else(Z40_j2 a0  )
def Z40 (a0:(Sl TVar)):Option Bool:=Z40_l6 a0 (a0.l.length+1) 0
theorem Z40_walk {a0:Sl TVar}{w0:Option Nat}{r:Bool}(hE:Z40 a0=some r) (H:Heap) :ACalls Tryz.prog 29 [.d (Sl.d 9 TVar.c w0 a0)] H fun v h'=>v=.a (.d (.bool r))/\h'=H:=by
 unfold Z40 at hE;refine ACalls.oW 49 [.tmp 2] Tryz.call29 Tryz.func29 ?_;refine seqR ?_;refine S As ?_;refine nil ?_;refine seqJH (TA 0 KeepsT.nil) (fun(z:Unit)=>[]) (fun z=>H) (fun z=>Z40_j2 a0 =some r) ?_ ?_
 ·intro K2 hK2;refine seqR ?_;refine S As ?_;refine nil ?_;refine block ?_;refine loopH (TA 0 KeepsT.nil) (fun(z:Nat×Nat)=>[(3,.a (.d (.int .i64 ((z.2:Nat):Int))))]) (fun z=>H) (fun z=>z.1) (fun z=>Z40_l6 a0 z.1 z.2=some r) ((a0.l.length+1),0) hE Weak.toA ?_;rintro ⟨n6,s3_7⟩ hE K6 hK6;try dsimp only at hE
  cases n6 with
  | zero=>cases hE
  | succ n6 =>
    rw [Z40_l6] at hE;refine seqK fun K8 hK8=>?_;refine seqR ?_;refine S Mv (S Mv ?_);refine sLen (f:=TVar.c) (s:=a0) (TK rfl) rfl rfl rfl rfl fun hL10=>?_;refine S BI ?_;refine nil ?_;refine cE hE (fun hc11 hE=>?_) (fun hc11 hE=>?_)
    ·try dsimp only at hc11
     have hf11:=of_decide_eq_true hc11;refine sk hK8 ?_;clear hK8 K8;refine seqK fun K12 hK12=>?_;refine block ?_;refine seqR ?_;refine S Mv (S Mv ?_);obtain⟨x14,gx14,hE⟩:=bO hE;refine s0 (idxMn (f:=TVar.c) (n:=s3_7) (TK rfl) rfl (TK rfl) rfl rfl rfl gx14) rfl ?_;refine S Ld ?_;refine Sl ?_;refine Sf ?_;refine nil ?_;refine freezeA 4 _ rfl (KA 0 (KA 3 Keeps.nil)) ?_;refine seqK fun K15 hK15=>?_;refine seqR ?_
     refine S Fv (S Ld ?_);obtain⟨x17,gx17,hE⟩:=bO hE;refine Sc rfl rfl (Z16_walk gx17) ?_;refine S NB (S Mv (g0 Fv ?_));refine g1 20 rfl Ld ?_;obtain⟨x18,gx18,hE⟩:=gO hE;refine gc1 21 rfl rfl rfl rfl rfl (fun hC=>Z30_walk (gx18 hC)) ?_;refine g1 22 rfl NB ?_;refine S PO (S Mv (g0 Fv ?_));refine g1 26 rfl Ld ?_;obtain⟨x19,gx19,hE⟩:=gO hE;refine gc1 27 rfl rfl rfl rfl rfl (fun hC=>Z21_walk (gx19 hC)) ?_
     refine g1 28 rfl NB ?_;refine S PO (S Mv (g0 Fv ?_));refine g1 32 rfl Ld ?_;obtain⟨x20,gx20,hE⟩:=gO hE;refine gc1 33 rfl rfl rfl rfl rfl (fun hC=>Z36_walk (gx20 hC)) ?_;refine g1 34 rfl NB ?_;refine S PO ?_;refine nil ?_;refine cE hE (fun hc21 hE=>?_) (fun hc21 hE=>?_)
     ·refine seqR ?_;refine S As ?_;refine nil ?_;exact rt hE
     refine sk hK15 ?_;clear hK15 K15;refine seqR ?_;refine S Fv (S Ld (S NB (S Mv (g0 Fv ?_))));refine g1 41 rfl Fv ?_;refine g1 42 rfl Ld ?_;refine g1 43 rfl BI ?_;refine S PA ?_;refine nil ?_;refine cE hE (fun hc24 hE=>?_) (fun hc24 hE=>?_)
     ·refine seqR ?_;refine S As ?_;refine nil ?_;exact rt hE
     refine sk hK12 ?_;clear hK12 K12;refine region ?_;refine S Mv ?_;refine SI ?_;refine S As ?_;refine nil ?_;exact hK6 _ (n6,(s3_7+1)) Weak.toA hE (Nat.lt_succ_self _)
    refine AWp.exit ?_;exact hK2 _ () Weak.toA hE
 rintro _ hE;try dsimp only at hE
 unfold Z40_j2 at hE;refine seqR ?_;refine S Mv ?_;refine sLen (f:=TVar.c) (s:=a0) (TK rfl) rfl rfl rfl rfl fun hL4=>?_;refine S BI (S As ?_);refine nil ?_;exact rt hE
end Go.Proofs

namespace Go.Proofs
open Go Go.Ab
open AOps Cert AWp Keeps KeepsT
variable {lou:Lou}
def Z39 (a0:Bs):Option Bool:=(Z16 a0).bind fun x3=>some (x3&&(!(a0==([111,110]:Bs))))
theorem Z39_walk {a0:Bs}{r:Bool}(hE:Z39 a0=some r) (H:Heap) :ACalls Tryz.prog 31 [.d (.str a0)] H fun v h'=>v=.a (.d (.bool r))/\h'=H:=by
 unfold Z39 at hE;refine ACalls.oW 9 [.tmp 2] Tryz.call31 Tryz.func31 ?_;refine seqR ?_;refine S As ?_;refine nil ?_;refine seqR ?_;refine S Mv ?_;obtain⟨x3,gx3,hE⟩:=bO hE;refine Sc rfl rfl (Z16_walk gx3) ?_;refine S Mv (g0 Mv ?_);refine g1 6 rfl BS ?_;refine S PA (S As ?_);refine nil ?_;exact rt hE
def Z35_j2 (a0:(Sl TArg))  :Option Bool:=some (decide (((a0.l.length:Nat):Int)<=(16:Int)))
def Z35_l6 (a0:(Sl TArg)) :Nat->Nat->Option Bool
 | 0,_=>none
 | n6+1,s3_7=>bif (decide (((s3_7:Nat):Int)<((a0.l.length:Nat):Int))) then((a0.l[s3_7]?).bind fun x14=>(Z16 x14.FName).bind fun x15=>guardO (!(!x15)) (a0.l[s3_7]?) TArg.zero fun x16=>guardO (!(!x15)) (Z21 x16.FValue) false fun x17=>bif ((!x15)||(!x17)) then(some false) else((Z35_l6 a0 n6) (s3_7+1))) else(Z35_j2 a0  )
def Z35 (a0:(Sl TArg)):Option Bool:=Z35_l6 a0 (a0.l.length+1) 0
theorem Z35_walk {a0:Sl TArg}{w0:Option Nat}{r:Bool}(hE:Z35 a0=some r) (H:Heap) :ACalls Tryz.prog 103 [.d (Sl.d 6 TArg.c w0 a0)] H fun v h'=>v=.a (.d (.bool r))/\h'=H:=by
 unfold Z35 at hE;refine ACalls.oW 29 [.tmp 2] Tryz.call103 Tryz.func103 ?_;refine seqR ?_;refine S As ?_;refine nil ?_;refine seqJH (TA 0 KeepsT.nil) (fun(z:Unit)=>[]) (fun z=>H) (fun z=>Z35_j2 a0 =some r) ?_ ?_
 ·intro K2 hK2;refine seqR ?_;refine S As ?_;refine nil ?_;refine block ?_;refine loopH (TA 0 KeepsT.nil) (fun(z:Nat×Nat)=>[(3,.a (.d (.int .i64 ((z.2:Nat):Int))))]) (fun z=>H) (fun z=>z.1) (fun z=>Z35_l6 a0 z.1 z.2=some r) ((a0.l.length+1),0) hE Weak.toA ?_;rintro ⟨n6,s3_7⟩ hE K6 hK6;try dsimp only at hE
  cases n6 with
  | zero=>cases hE
  | succ n6 =>
    rw [Z35_l6] at hE;refine seqK fun K8 hK8=>?_;refine seqR ?_;refine S Mv (S Mv ?_);refine sLen (f:=TArg.c) (s:=a0) (TK rfl) rfl rfl rfl rfl fun hL10=>?_;refine S BI ?_;refine nil ?_;refine cE hE (fun hc11 hE=>?_) (fun hc11 hE=>?_)
    ·try dsimp only at hc11
     have hf11:=of_decide_eq_true hc11;refine sk hK8 ?_;clear hK8 K8;refine seqK fun K12 hK12=>?_;refine block ?_;refine seqR ?_;refine S Mv (S Mv ?_);obtain⟨x14,gx14,hE⟩:=bO hE;refine s0 (idxMn (f:=TArg.c) (n:=s3_7) (TK rfl) rfl (TK rfl) rfl rfl rfl gx14) rfl ?_;refine S Fv (S Ld ?_);obtain⟨x15,gx15,hE⟩:=bO hE;refine Sc rfl rfl (Z16_walk gx15) ?_;refine S NB (S Mv (g0 Mv (g0 Mv ?_)));obtain⟨x16,gx16,hE⟩:=gO hE
     refine gC rfl rfl (fun hC=>ungdA (k:=18) rfl (ungdA (k:=19) rfl (idxMn (f:=TArg.c) (n:=s3_7) (TK rfl) rfl (TK rfl) rfl rfl rfl (gx16 hC)))) rfl ?_;refine g1 20 rfl Fv ?_;refine g1 21 rfl Ld ?_;obtain⟨x17,gx17,hE⟩:=gO hE;refine gc1 22 rfl rfl rfl rfl rfl (fun hC=>Z21_walk (gx17 hC)) ?_;refine g1 23 rfl NB ?_;refine S PO ?_;refine nil ?_;refine cE hE (fun hc18 hE=>?_) (fun hc18 hE=>?_)
     ·refine seqR ?_;refine S As ?_;refine nil ?_;exact rt hE
     refine sk hK12 ?_;clear hK12 K12;refine region ?_;refine S Mv ?_;refine SI ?_;refine S As ?_;refine nil ?_;exact hK6 _ (n6,(s3_7+1)) Weak.toA hE (Nat.lt_succ_self _)
    refine AWp.exit ?_;exact hK2 _ () Weak.toA hE
 rintro _ hE;try dsimp only at hE
 unfold Z35_j2 at hE;refine seqR ?_;refine S Mv ?_;refine sLen (f:=TArg.c) (s:=a0) (TK rfl) rfl rfl rfl rfl fun hL4=>?_;refine S BI (S As ?_);refine nil ?_;exact rt hE
def Z37_j2 (a0:(Sl TDir))  :Option Bool:=some (decide (((a0.l.length:Nat):Int)<=(16:Int)))
def Z37_l6 (a0:(Sl TDir)) :Nat->Nat->Option Bool
 | 0,_=>none
 | n6+1,s3_7=>bif (decide (((s3_7:Nat):Int)<((a0.l.length:Nat):Int))) then((a0.l[s3_7]?).bind fun x14=>(Z16 x14.FName).bind fun x15=>guardO (!(!x15)) (a0.l[s3_7]?) TDir.zero fun x16=>guardO (!(!x15)) (Z35 x16.FArgs) false fun x17=>bif ((!x15)||(!x17)) then(some false) else((Z37_l6 a0 n6) (s3_7+1))) else(Z37_j2 a0  )
def Z37 (a0:(Sl TDir)):Option Bool:=Z37_l6 a0 (a0.l.length+1) 0
theorem Z37_walk {a0:Sl TDir}{w0:Option Nat}{r:Bool}(hE:Z37 a0=some r) (H:Heap) :ACalls Tryz.prog 102 [.d (Sl.d 2 TDir.c w0 a0)] H fun v h'=>v=.a (.d (.bool r))/\h'=H:=by
 unfold Z37 at hE;refine ACalls.oW 29 [.tmp 2] Tryz.call102 Tryz.func102 ?_;refine seqR ?_;refine S As ?_;refine nil ?_;refine seqJH (TA 0 KeepsT.nil) (fun(z:Unit)=>[]) (fun z=>H) (fun z=>Z37_j2 a0 =some r) ?_ ?_
 ·intro K2 hK2;refine seqR ?_;refine S As ?_;refine nil ?_;refine block ?_;refine loopH (TA 0 KeepsT.nil) (fun(z:Nat×Nat)=>[(3,.a (.d (.int .i64 ((z.2:Nat):Int))))]) (fun z=>H) (fun z=>z.1) (fun z=>Z37_l6 a0 z.1 z.2=some r) ((a0.l.length+1),0) hE Weak.toA ?_;rintro ⟨n6,s3_7⟩ hE K6 hK6;try dsimp only at hE
  cases n6 with
  | zero=>cases hE
  | succ n6 =>
    rw [Z37_l6] at hE;refine seqK fun K8 hK8=>?_;refine seqR ?_;refine S Mv (S Mv ?_);refine sLen (f:=TDir.c) (s:=a0) (TK rfl) rfl rfl rfl rfl fun hL10=>?_;refine S BI ?_;refine nil ?_;refine cE hE (fun hc11 hE=>?_) (fun hc11 hE=>?_)
    ·try dsimp only at hc11
     have hf11:=of_decide_eq_true hc11;refine sk hK8 ?_;clear hK8 K8;refine seqK fun K12 hK12=>?_;refine block ?_;refine seqR ?_;refine S Mv (S Mv ?_);obtain⟨x14,gx14,hE⟩:=bO hE;refine s0 (idxMn (f:=TDir.c) (n:=s3_7) (TK rfl) rfl (TK rfl) rfl rfl rfl gx14) rfl ?_;refine S Fv (S Ld ?_);obtain⟨x15,gx15,hE⟩:=bO hE;refine Sc rfl rfl (Z16_walk gx15) ?_;refine S NB (S Mv (g0 Mv (g0 Mv ?_)));obtain⟨x16,gx16,hE⟩:=gO hE
     refine gC rfl rfl (fun hC=>ungdA (k:=18) rfl (ungdA (k:=19) rfl (idxMn (f:=TDir.c) (n:=s3_7) (TK rfl) rfl (TK rfl) rfl rfl rfl (gx16 hC)))) rfl ?_;refine g1 20 rfl Fv ?_;refine g1 21 rfl Ld ?_;obtain⟨x17,gx17,hE⟩:=gO hE;refine gc1 22 rfl rfl rfl rfl rfl (fun hC=>Z35_walk (gx17 hC)) ?_;refine g1 23 rfl NB ?_;refine S PO ?_;refine nil ?_;refine cE hE (fun hc18 hE=>?_) (fun hc18 hE=>?_)
     ·refine seqR ?_;refine S As ?_;refine nil ?_;exact rt hE
     refine sk hK12 ?_;clear hK12 K12;refine region ?_;refine S Mv ?_;refine SI ?_;refine S As ?_;refine nil ?_;exact hK6 _ (n6,(s3_7+1)) Weak.toA hE (Nat.lt_succ_self _)
    refine AWp.exit ?_;exact hK2 _ () Weak.toA hE
 rintro _ hE;try dsimp only at hE
 unfold Z37_j2 at hE;refine seqR ?_;refine S Mv ?_;refine sLen (f:=TDir.c) (s:=a0) (TK rfl) rfl rfl rfl rfl fun hL4=>?_;refine S BI (S As ?_);refine nil ?_;exact rt hE
def r08_selsRight_j7  :Option Bool:=some true
def r08_selsRight_l10 (a0:(Sl TSel)) (a1:Int) (k_rec_66:TSel->Int->Option Bool):Nat->Nat->Option Bool
 | 0,_=>none
 | n10+1,s5_11=>bif (decide (((s5_11:Nat):Int)<((a0.l.length:Nat):Int))) then((a0.l[s5_11]?).bind fun x18=>(k_rec_66 x18 a1).bind fun x19=>bif (!x19) then(some false) else((r08_selsRight_l10 a0 a1 k_rec_66 n10) (s5_11+1))) else(r08_selsRight_j7   )
mutual
def r08_selsRight_n:Nat->(Sl TSel)->Int->Option Bool
 | 0,_,_=>none
 | n+1,a0,a1=>bif (((decide (((a0.l.length:Nat):Int)=(0:Int)))||(decide ((64:Int)<((a0.l.length:Nat):Int))))||(decide ((24:Int)<a1))) then(some false) else(r08_selsRight_l10 a0 a1 (Z38_n n) (a0.l.length+1) 0)
def Z38_n:Nat->TSel->Int->Option Bool
 | 0,_,_=>none
 | n+1,a0,a1=>(Z37 a0.FDirs).bind fun x4=>guardO (!(!x4)) (Z35 a0.FArgs) false fun x5=>bif ((!x4)||(!x5)) then(some false) else(bif (decide (a0.FKind=(1:Int))) then((Z16 a0.FName).bind fun x13=>guardO ((x13&&!((a0.FAlias==([]:Bs))))) (Z16 a0.FAlias) false fun x14=>guardO ((((x13&&(((a0.FAlias==([]:Bs)))||x14))&&((a0.FOn==([]:Bs))))&&!(decide (((a0.FSels.l.length:Nat):Int)=(0:Int))))) (addC a1 (1:Int)) (0:Int) fun x15=>guardO ((((x13&&(((a0.FAlias==([]:Bs)))||x14))&&((a0.FOn==([]:Bs))))&&!(decide (((a0.FSels.l.length:Nat):Int)=(0:Int))))) ((r08_selsRight_n n) a0.FSels x15) false fun x16=>some (((x13&&(((a0.FAlias==([]:Bs)))||x14))&&((a0.FOn==([]:Bs))))&&((decide (((a0.FSels.l.length:Nat):Int)=(0:Int)))||x16))) else(bif (decide (a0.FKind=(2:Int))) then((Z39 a0.FName).bind fun x20=>some ((((x20&&((a0.FAlias==([]:Bs))))&&((a0.FOn==([]:Bs))))&&(decide (((a0.FArgs.l.length:Nat):Int)=(0:Int))))&&(decide (((a0.FSels.l.length:Nat):Int)=(0:Int))))) else(bif (decide (a0.FKind=(3:Int))) then(guardO (((((a0.FName==([]:Bs)))&&((a0.FAlias==([]:Bs))))&&!((a0.FOn==([]:Bs))))) (Z16 a0.FOn) false fun x24=>guardO ((((((a0.FName==([]:Bs)))&&((a0.FAlias==([]:Bs))))&&(((a0.FOn==([]:Bs)))||x24))&&(decide (((a0.FArgs.l.length:Nat):Int)=(0:Int))))) (addC a1 (1:Int)) (0:Int) fun x25=>guardO ((((((a0.FName==([]:Bs)))&&((a0.FAlias==([]:Bs))))&&(((a0.FOn==([]:Bs)))||x24))&&(decide (((a0.FArgs.l.length:Nat):Int)=(0:Int))))) ((r08_selsRight_n n) a0.FSels x25) false fun x26=>some ((((((a0.FName==([]:Bs)))&&((a0.FAlias==([]:Bs))))&&(((a0.FOn==([]:Bs)))||x24))&&(decide (((a0.FArgs.l.length:Nat):Int)=(0:Int))))&&x26)) else(some false))))
end
theorem r08_selsRight_step (n:Nat) (ih_30:∀{a0:Sl TSel}{a1:Int}{w0:Option Nat}{r:Bool},r08_selsRight_n n a0 a1=some r->∀(H:Heap),ACalls Tryz.prog 30 [.d (Sl.d 7 TSel.c w0 a0),.d (.int .i64 a1)] H fun v h'=>v=.a (.d (.bool r))/\h'=H) (ih_66:∀{a0:TSel}{a1:Int}{r:Bool},Z38_n n a0 a1=some r->∀(H:Heap),ACalls Tryz.prog 66 [.agg (TSel.c a0),.d (.int .i64 a1)] H fun v h'=>v=.a (.d (.bool r))/\h'=H):∀{a0:Sl TSel}{a1:Int}{w0:Option Nat}{r:Bool},r08_selsRight_n (n+1) a0 a1=some r->∀(H:Heap),ACalls Tryz.prog 30 [.d (Sl.d 7 TSel.c w0 a0),.d (.int .i64 a1)] H fun v h'=>v=.a (.d (.bool r))/\h'=H:=by
 intro a0 a1 w0  r hE H ;rw [r08_selsRight_n] at hE;refine ACalls.oW 31 [.tmp 4] Tryz.call30 Tryz.func30 ?_;refine seqR ?_;refine S As ?_;refine nil ?_;refine seqK fun K2 hK2=>?_;refine seqR ?_;refine S Mv ?_;refine sLen (f:=TSel.c) (s:=a0) (TK rfl) rfl rfl rfl rfl fun hL4=>?_;refine S BI (S Mv (g0 Mv ?_));refine gC rfl rfl (fun hC=>ungdA (k:=10) rfl (lenM' (f:=TSel.c) (s:=a0) (TK rfl) rfl rfl rfl)) rfl ?_
 refine g1 11 rfl BI ?_;refine S PO (S Mv (g0 Mv ?_));refine g1 15 rfl BI ?_;refine S PO ?_;refine nil ?_;refine cE hE (fun hc5 hE=>?_) (fun hc5 hE=>?_)
 ·refine seqR ?_;refine S As ?_;refine nil ?_;exact rt hE
 refine sk hK2 ?_;clear hK2 K2;refine seqJH KeepsT.nil (fun(z:Unit)=>[]) (fun z=>H) (fun z=>r08_selsRight_j7 =some r) ?_ ?_
 ·intro K7 hK7;refine seqR ?_;refine S As ?_;refine nil ?_;refine block ?_;refine loopH (TA 0 (TA 1 KeepsT.nil)) (fun(z:Nat×Nat)=>[(5,.a (.d (.int .i64 ((z.2:Nat):Int))))]) (fun z=>H) (fun z=>z.1) (fun z=>r08_selsRight_l10 a0 a1 (Z38_n n) z.1 z.2=some r) ((a0.l.length+1),0) hE Weak.toA ?_;rintro ⟨n10,s5_11⟩ hE K10 hK10;try dsimp only at hE
  cases n10 with
  | zero=>cases hE
  | succ n10 =>
    rw [r08_selsRight_l10] at hE;refine seqK fun K12 hK12=>?_;refine seqR ?_;refine S Mv (S Mv ?_);refine sLen (f:=TSel.c) (s:=a0) (TK rfl) rfl rfl rfl rfl fun hL14=>?_;refine S BI ?_;refine nil ?_;refine cE hE (fun hc15 hE=>?_) (fun hc15 hE=>?_)
    ·try dsimp only at hc15
     have hf15:=of_decide_eq_true hc15;refine sk hK12 ?_;clear hK12 K12;refine seqK fun K16 hK16=>?_;refine block ?_;refine seqR ?_;refine S Mv (S Mv ?_);obtain⟨x18,gx18,hE⟩:=bO hE;refine s0 (idxMn (f:=TSel.c) (n:=s5_11) (TK rfl) rfl (TK rfl) rfl rfl rfl gx18) rfl ?_;refine S Ld (S Mv ?_);obtain⟨x19,gx19,hE⟩:=bO hE;refine Sc rfl rfl (ih_66 gx19) ?_;refine S NB ?_;refine nil ?_;refine cE hE (fun hc20 hE=>?_) (fun hc20 hE=>?_)
     ·refine seqR ?_;refine S As ?_;refine nil ?_;exact rt hE
     refine sk hK16 ?_;clear hK16 K16;refine region ?_;refine S Mv ?_;refine SI ?_;refine S As ?_;refine nil ?_;exact hK10 _ (n10,(s5_11+1)) Weak.toA hE (Nat.lt_succ_self _)
    refine AWp.exit ?_;exact hK7 _ () Weak.toA hE
 rintro _ hE;try dsimp only at hE
 unfold r08_selsRight_j7 at hE;refine seqR ?_;refine S As ?_;refine nil ?_;exact rt hE
theorem Z38_step (n:Nat) (ih_30:∀{a0:Sl TSel}{a1:Int}{w0:Option Nat}{r:Bool},r08_selsRight_n n a0 a1=some r->∀(H:Heap),ACalls Tryz.prog 30 [.d (Sl.d 7 TSel.c w0 a0),.d (.int .i64 a1)] H fun v h'=>v=.a (.d (.bool r))/\h'=H) (ih_66:∀{a0:TSel}{a1:Int}{r:Bool},Z38_n n a0 a1=some r->∀(H:Heap),ACalls Tryz.prog 66 [.agg (TSel.c a0),.d (.int .i64 a1)] H fun v h'=>v=.a (.d (.bool r))/\h'=H):∀{a0:TSel}{a1:Int}{r:Bool},Z38_n (n+1) a0 a1=some r->∀(H:Heap),ACalls Tryz.prog 66 [.agg (TSel.c a0),.d (.int .i64 a1)] H fun v h'=>v=.a (.d (.bool r))/\h'=H:=by
 intro a0 a1   r hE H ;rw [Z38_n] at hE;refine ACalls.oW 110 [.tmp 4] Tryz.call66 Tryz.func66 ?_;refine seqR ?_;refine S BX (S As ?_);refine nil ?_;refine seqK fun K2 hK2=>?_;refine seqR ?_;refine S Fv (S Ld ?_);obtain⟨x4,gx4,hE⟩:=bO hE;refine Sc rfl rfl (Z37_walk gx4) ?_;refine S NB (S Mv (g0 Fv ?_));refine g1 10 rfl Ld ?_;obtain⟨x5,gx5,hE⟩:=gO hE;refine gc1 11 rfl rfl rfl rfl rfl (fun hC=>Z35_walk (gx5 hC)) ?_
 refine g1 12 rfl NB ?_;refine S PO ?_;refine nil ?_;refine cE hE (fun hc6 hE=>?_) (fun hc6 hE=>?_)
 ·refine seqR ?_;refine S As ?_;refine nil ?_;exact rt hE
 refine sk hK2 ?_;clear hK2 K2;refine seqK fun K8 hK8=>?_;refine seqR ?_;refine S Fv (S Ld ?_);refine nil ?_;refine block ?_;refine seqR ?_;refine S BI (S As ?_);refine nil ?_;refine cE hE (fun hc11 hE=>?_) (fun hc11 hE=>?_)
 ·refine seqR ?_;refine S Fv (S Ld ?_);obtain⟨x13,gx13,hE⟩:=bO hE;refine Sc rfl rfl (Z16_walk gx13) ?_;refine S Mv (g0 Fv ?_);refine g1 23 rfl Ld ?_;refine g1 24 rfl BS ?_;refine g1 25 rfl Mv ?_;refine g0 Fv ?_;refine g1 27 rfl Ld ?_;obtain⟨x14,gx14,hE⟩:=gO hE;refine gc1 28 rfl rfl rfl rfl rfl (fun hC=>Z16_walk (gx14 hC)) ?_;refine gC rfl rfl (fun hC=>ungdA (k:=26) rfl (pickOrA rfl rfl rfl)) rfl ?_
  refine S PA (S Mv (g0 Fv ?_));refine g1 33 rfl Ld ?_;refine g1 34 rfl BS ?_;refine S PA (S Mv (g0 Fv ?_));refine gC rfl rfl (fun hC=>ungdA (k:=38) rfl (loadV (TK rfl) rfl rfl (congrArg (fun x=>some (A.d x)) (TSel.FSelsD_eq _)))) rfl ?_;refine gC rfl rfl (fun hC=>ungdA (k:=39) rfl (lenM' (f:=TSel.c) (s:=a0.FSels) (TK rfl) rfl rfl rfl)) rfl ?_;refine g1 40 rfl BI ?_;refine g1 41 rfl Mv ?_;refine g0 Fv ?_
  refine gC rfl rfl (fun hC=>ungdA (k:=43) rfl (loadV (TK rfl) rfl rfl (congrArg (fun x=>some (A.d x)) (TSel.FSelsD_eq _)))) rfl ?_;refine g0 Mv ?_;obtain⟨x15,gx15,hE⟩:=gO hE;refine gC rfl rfl (fun hC=>ungdA (k:=45) rfl (addM rfl rfl (gx15 hC))) rfl ?_;obtain⟨x16,gx16,hE⟩:=gO hE;refine gc2 44 46 rfl rfl rfl rfl rfl rfl (fun hC=>ih_30 (gx16 hC)) ?_;refine gC rfl rfl (fun hC=>ungdA (k:=42) rfl (pickOrA rfl rfl rfl)) rfl ?_
  refine S PA (S As ?_);refine nil ?_;exact rt hE
 refine seqR ?_;refine S BI (S As ?_);refine nil ?_;refine cE hE (fun hc18 hE=>?_) (fun hc18 hE=>?_)
 ·refine seqR ?_;refine S Fv (S Ld ?_);obtain⟨x20,gx20,hE⟩:=bO hE;refine Sc rfl rfl (Z39_walk gx20) ?_;refine S Mv (g0 Fv ?_);refine g1 56 rfl Ld ?_;refine g1 57 rfl BS ?_;refine S PA (S Mv (g0 Fv ?_));refine g1 61 rfl Ld ?_;refine g1 62 rfl BS ?_;refine S PA (S Mv (g0 Fv ?_));refine g1 66 rfl Ld ?_;refine gC rfl rfl (fun hC=>ungdA (k:=67) rfl (lenM' (f:=TArg.c) (s:=a0.FArgs) (TK rfl) rfl rfl rfl)) rfl ?_
  refine g1 68 rfl BI ?_;refine S PA (S Mv (g0 Fv ?_));refine gC rfl rfl (fun hC=>ungdA (k:=72) rfl (loadV (TK rfl) rfl rfl (congrArg (fun x=>some (A.d x)) (TSel.FSelsD_eq _)))) rfl ?_;refine gC rfl rfl (fun hC=>ungdA (k:=73) rfl (lenM' (f:=TSel.c) (s:=a0.FSels) (TK rfl) rfl rfl rfl)) rfl ?_;refine g1 74 rfl BI ?_;refine S PA (S As ?_);refine nil ?_;exact rt hE
 refine seqR ?_;refine S BI (S As ?_);refine nil ?_;refine cE hE (fun hc22 hE=>?_) (fun hc22 hE=>?_)
 ·refine seqR ?_;refine S Fv (S Ld (S BS (S Mv (g0 Fv ?_))));refine g1 83 rfl Ld ?_;refine g1 84 rfl BS ?_;refine S PA (S Mv (g0 Fv ?_));refine g1 88 rfl Ld ?_;refine g1 89 rfl BS ?_;refine g1 90 rfl Mv ?_;refine g0 Fv ?_;refine g1 92 rfl Ld ?_;obtain⟨x24,gx24,hE⟩:=gO hE;refine gc1 93 rfl rfl rfl rfl rfl (fun hC=>Z16_walk (gx24 hC)) ?_;refine gC rfl rfl (fun hC=>ungdA (k:=91) rfl (pickOrA rfl rfl rfl)) rfl ?_
  refine S PA (S Mv (g0 Fv ?_));refine g1 98 rfl Ld ?_;refine gC rfl rfl (fun hC=>ungdA (k:=99) rfl (lenM' (f:=TArg.c) (s:=a0.FArgs) (TK rfl) rfl rfl rfl)) rfl ?_;refine g1 100 rfl BI ?_;refine S PA (S Mv (g0 Fv ?_));refine gC rfl rfl (fun hC=>ungdA (k:=104) rfl (loadV (TK rfl) rfl rfl (congrArg (fun x=>some (A.d x)) (TSel.FSelsD_eq _)))) rfl ?_;refine g0 Mv ?_;obtain⟨x25,gx25,hE⟩:=gO hE;refine gC rfl rfl (fun hC=>ungdA (k:=106) rfl (addM rfl rfl (gx25 hC))) rfl ?_
  obtain⟨x26,gx26,hE⟩:=gO hE;refine gc2 105 107 rfl rfl rfl rfl rfl rfl (fun hC=>ih_30 (gx26 hC)) ?_;refine S PA (S As ?_);refine nil ?_;exact rt hE
 refine sk hK8 ?_;clear hK8 K8;refine seqR ?_;refine S As ?_;refine nil ?_;exact rt hE
theorem r08_selsRight_all:∀(n:Nat),(∀{a0:Sl TSel}{a1:Int}{w0:Option Nat}{r:Bool},r08_selsRight_n n a0 a1=some r->∀(H:Heap),ACalls Tryz.prog 30 [.d (Sl.d 7 TSel.c w0 a0),.d (.int .i64 a1)] H fun v h'=>v=.a (.d (.bool r))/\h'=H)/\(∀{a0:TSel}{a1:Int}{r:Bool},Z38_n n a0 a1=some r->∀(H:Heap),ACalls Tryz.prog 66 [.agg (TSel.c a0),.d (.int .i64 a1)] H fun v h'=>v=.a (.d (.bool r))/\h'=H)
 | 0=>⟨fun hE=>by first|cases hE|(rw [r08_selsRight_n] at hE; cases hE),fun hE=>by first|cases hE|(rw [Z38_n] at hE; cases hE)⟩
 | n+1=>⟨r08_selsRight_step n (r08_selsRight_all n).1 (r08_selsRight_all n).2,Z38_step n (r08_selsRight_all n).1 (r08_selsRight_all n).2⟩
def r08_selsRight (a0:(Sl TSel)) (a1:Int):Option Bool:=r08_selsRight_n F0 a0 a1
theorem r08_selsRight_walk {a0:Sl TSel}{a1:Int}{w0:Option Nat}{r:Bool}(hE:r08_selsRight a0 a1=some r) (H:Heap) :ACalls Tryz.prog 30 [.d (Sl.d 7 TSel.c w0 a0),.d (.int .i64 a1)] H fun v h'=>v=.a (.d (.bool r))/\h'=H:=(r08_selsRight_all F0).1 hE H 
def Z34_j11  :Option Bool:=some true
def Z34_l14 (a0:TQuery) :Nat->Nat->Option Bool
 | 0,_=>none
 | n14+1,s6_15=>bif (decide (((s6_15:Nat):Int)<((a0.FFrags.l.length:Nat):Int))) then((a0.FFrags.l[s6_15]?).bind fun x22=>(Z39 x22.FName).bind fun x24=>guardO (!(!x24)) (Z16 x22.FOn) false fun x25=>guardO (!((!x24)||(!x25))) (r08_selsRight x22.FSels (1:Int)) false fun x26=>bif (((!x24)||(!x25))||(!x26)) then(some false) else((Z34_l14 a0 n14) (s6_15+1))) else(Z34_j11   )
def Z34_j10 (a0:TQuery)  :Option Bool:=Z34_l14 a0 (a0.FFrags.l.length+1) 0
def Z34_l30 (a0:TQuery) :Nat->Nat->Option Bool
 | 0,_=>none
 | n30+1,s4_31=>bif (decide (((s4_31:Nat):Int)<((a0.FOps.l.length:Nat):Int))) then((a0.FOps.l[s4_31]?).bind fun x38=>guardO ((!((decide (x38.FKind<(1:Int)))||(decide ((3:Int)<x38.FKind)))&&(!(x38.FName==([]:Bs))))) (Z16 x38.FName) false fun x40=>guardO (!(((decide (x38.FKind<(1:Int)))||(decide ((3:Int)<x38.FKind)))||((!(x38.FName==([]:Bs)))&&(!x40)))) (Z40 x38.FVars) false fun x41=>guardO (!((((decide (x38.FKind<(1:Int)))||(decide ((3:Int)<x38.FKind)))||((!(x38.FName==([]:Bs)))&&(!x40)))||(!x41))) (r08_selsRight x38.FSels (1:Int)) false fun x42=>bif (((((decide (x38.FKind<(1:Int)))||(decide ((3:Int)<x38.FKind)))||((!(x38.FName==([]:Bs)))&&(!x40)))||(!x41))||(!x42)) then(some false) else((Z34_l30 a0 n30) (s4_31+1))) else(Z34_j10 a0  )
def Z34 (a0:TQuery):Option Bool:=(addC ((a0.FOps.l.length:Nat):Int) ((a0.FFrags.l.length:Nat):Int)).bind fun x5=>bif ((decide (x5<(1:Int)))||(decide ((64:Int)<x5))) then(some false) else(Z34_l30 a0 (a0.FOps.l.length+1) 0)
theorem Z34_walk {a0:TQuery}{r:Bool}(hE:Z34 a0=some r) (H:Heap) :ACalls Tryz.prog 13 [.agg (TQuery.c a0)] H fun v h'=>v=.a (.d (.bool r))/\h'=H:=by
 unfold Z34 at hE;refine ACalls.oW 92 [.tmp 2] Tryz.call13 Tryz.func13 ?_;refine seqR ?_;refine S BX (S As ?_);refine nil ?_;refine seqR ?_;refine S Fv (S Ld ?_);refine sLen (f:=TOp.c) (s:=a0.FOps) (TK rfl) rfl rfl rfl rfl fun hL3=>?_;refine S Fv (S Ld ?_);refine sLen (f:=TFrag.c) (s:=a0.FFrags) (TK rfl) rfl rfl rfl rfl fun hL4=>?_;obtain⟨x5,gx5,hE⟩:=bO hE;refine s0 (addM rfl rfl gx5) rfl ?_;refine S As ?_
 refine nil ?_;refine seqK fun K6 hK6=>?_;refine seqR ?_;refine S Mv (S BI (S Mv (g0 Mv ?_)));refine g1 18 rfl BI ?_;refine S PO ?_;refine nil ?_;refine cE hE (fun hc8 hE=>?_) (fun hc8 hE=>?_)
 ·refine seqR ?_;refine S As ?_;refine nil ?_;exact rt hE
 refine sk hK6 ?_;clear hK6 K6;refine seqJH (TA 1 KeepsT.nil) (fun(z:Unit)=>[]) (fun z=>H) (fun z=>Z34_j10 a0 =some r) ?_ ?_
 ·intro K10 hK10;refine seqR ?_;refine S As ?_;refine nil ?_;refine block ?_;refine loopH (TA 1 KeepsT.nil) (fun(z:Nat×Nat)=>[(4,.a (.d (.int .i64 ((z.2:Nat):Int))))]) (fun z=>H) (fun z=>z.1) (fun z=>Z34_l30 a0 z.1 z.2=some r) ((a0.FOps.l.length+1),0) hE Weak.toA ?_;rintro ⟨n30,s4_31⟩ hE K30 hK30;try dsimp only at hE
  cases n30 with
  | zero=>cases hE
  | succ n30 =>
    rw [Z34_l30] at hE;refine seqK fun K32 hK32=>?_;refine seqR ?_;refine S Mv (S Fv (S Ld ?_));refine sLen (f:=TOp.c) (s:=a0.FOps) (TK rfl) rfl rfl rfl rfl fun hL34=>?_;refine S BI ?_;refine nil ?_;refine cE hE (fun hc35 hE=>?_) (fun hc35 hE=>?_)
    ·try dsimp only at hc35
     have hf35:=of_decide_eq_true hc35;refine sk hK32 ?_;clear hK32 K32;refine seqK fun K36 hK36=>?_;refine block ?_;refine seqR ?_;refine S Fv (S Ld (S Mv ?_));obtain⟨x38,gx38,hE⟩:=bO hE;refine s0 (idxMn (f:=TOp.c) (n:=s4_31) (TK rfl) rfl (TK rfl) rfl rfl rfl gx38) rfl ?_;refine S Ld ?_;refine Sl ?_;refine Sf ?_;refine nil ?_;refine freezeA 5 _ rfl (KA 1 (KA 4 Keeps.nil)) ?_;refine seqR ?_;refine S Fv (S Ld (S BI (S Mv (g0 Fv ?_))))
     refine g1 37 rfl Ld ?_;refine g1 38 rfl BI ?_;refine S PO (S Mv (g0 Fv ?_));refine g1 42 rfl Ld ?_;refine g1 43 rfl BS ?_;refine g1 44 rfl Mv ?_;refine g0 Fv ?_;refine g1 46 rfl Ld ?_;obtain⟨x40,gx40,hE⟩:=gO hE;refine gc1 47 rfl rfl rfl rfl rfl (fun hC=>Z16_walk (gx40 hC)) ?_;refine g1 48 rfl NB ?_;refine gC rfl rfl (fun hC=>ungdA (k:=45) rfl (pickAndA rfl rfl rfl)) rfl ?_;refine S PO (S Mv (g0 Fv ?_))
     refine g1 53 rfl Ld ?_;obtain⟨x41,gx41,hE⟩:=gO hE;refine gc1 54 rfl rfl rfl rfl rfl (fun hC=>Z40_walk (gx41 hC)) ?_;refine g1 55 rfl NB ?_;refine S PO (S Mv (g0 Fv ?_));refine g1 59 rfl Ld ?_;obtain⟨x42,gx42,hE⟩:=gO hE;refine gc1 60 rfl rfl rfl rfl rfl (fun hC=>r08_selsRight_walk (gx42 hC)) ?_;refine g1 61 rfl NB ?_;refine S PO ?_;refine nil ?_;refine cE hE (fun hc43 hE=>?_) (fun hc43 hE=>?_)
     ·refine seqR ?_;refine S As ?_;refine nil ?_;exact rt hE
     refine sk hK36 ?_;clear hK36 K36;refine region ?_;refine S Mv ?_;refine SI ?_;refine S As ?_;refine nil ?_;exact hK30 _ (n30,(s4_31+1)) Weak.toA hE (Nat.lt_succ_self _)
    refine AWp.exit ?_;exact hK10 _ () Weak.toA hE
 rintro _ hE;try dsimp only at hE
 unfold Z34_j10 at hE;refine seqJH KeepsT.nil (fun(z:Unit)=>[]) (fun z=>H) (fun z=>Z34_j11 =some r) ?_ ?_
 ·intro K11 hK11;refine seqR ?_;refine S As ?_;refine nil ?_;refine block ?_;refine loopH (TA 1 KeepsT.nil) (fun(z:Nat×Nat)=>[(6,.a (.d (.int .i64 ((z.2:Nat):Int))))]) (fun z=>H) (fun z=>z.1) (fun z=>Z34_l14 a0 z.1 z.2=some r) ((a0.FFrags.l.length+1),0) hE Weak.toA ?_;rintro ⟨n14,s6_15⟩ hE K14 hK14;try dsimp only at hE
  cases n14 with
  | zero=>cases hE
  | succ n14 =>
    rw [Z34_l14] at hE;refine seqK fun K16 hK16=>?_;refine seqR ?_;refine S Mv (S Fv (S Ld ?_));refine sLen (f:=TFrag.c) (s:=a0.FFrags) (TK rfl) rfl rfl rfl rfl fun hL18=>?_;refine S BI ?_;refine nil ?_;refine cE hE (fun hc19 hE=>?_) (fun hc19 hE=>?_)
    ·try dsimp only at hc19
     have hf19:=of_decide_eq_true hc19;refine sk hK16 ?_;clear hK16 K16;refine seqK fun K20 hK20=>?_;refine block ?_;refine seqR ?_;refine S Fv (S Ld (S Mv ?_));obtain⟨x22,gx22,hE⟩:=bO hE;refine s0 (idxMn (f:=TFrag.c) (n:=s6_15) (TK rfl) rfl (TK rfl) rfl rfl rfl gx22) rfl ?_;refine S Ld ?_;refine Sl ?_;refine Sf ?_;refine nil ?_;refine freezeA 7 _ rfl (KA 1 (KA 6 Keeps.nil)) ?_;refine seqR ?_;refine S Fv (S Ld ?_)
     obtain⟨x24,gx24,hE⟩:=bO hE;refine Sc rfl rfl (Z39_walk gx24) ?_;refine S NB (S Mv (g0 Fv ?_));refine g1 81 rfl Ld ?_;obtain⟨x25,gx25,hE⟩:=gO hE;refine gc1 82 rfl rfl rfl rfl rfl (fun hC=>Z16_walk (gx25 hC)) ?_;refine g1 83 rfl NB ?_;refine S PO (S Mv (g0 Fv ?_));refine g1 87 rfl Ld ?_;obtain⟨x26,gx26,hE⟩:=gO hE;refine gc1 88 rfl rfl rfl rfl rfl (fun hC=>r08_selsRight_walk (gx26 hC)) ?_;refine g1 89 rfl NB ?_
     refine S PO ?_;refine nil ?_;refine cE hE (fun hc27 hE=>?_) (fun hc27 hE=>?_)
     ·refine seqR ?_;refine S As ?_;refine nil ?_;exact rt hE
     refine sk hK20 ?_;clear hK20 K20;refine region ?_;refine S Mv ?_;refine SI ?_;refine S As ?_;refine nil ?_;exact hK14 _ (n14,(s6_15+1)) Weak.toA hE (Nat.lt_succ_self _)
    refine AWp.exit ?_;exact hK11 _ () Weak.toA hE
 rintro _ hE;try dsimp only at hE
 unfold Z34_j11 at hE;refine seqR ?_;refine S As ?_;refine nil ?_;exact rt hE
end Go.Proofs
