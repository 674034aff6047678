import Derived.Test.YtfmbgiahleepfadGreatDoorV3
set_option maxRecDepth 100000
set_option maxHeartbeats 2000000
set_option linter.unusedVariables false
set_option linter.unusedSimpArgs false
namespace Go.Proofs
open Go Go.Ab
open AOps Cert AWp Keeps KeepsT
variable {lou:Lou}
def coerce_coercer_at_j7 (a1:TRef) (a3:Int) (k_rec_132:Z1->TRef->Z10->Int->Option (Z10×Int×Z1)) (k_rec_133:Z1->TDef->Z10->Int->Option (Z10×Int×Z1)) (y8_c0:Z1) (y9_l0:Z10) (y10_l1:Z10):Option (Z10×Int×Z1):=(Z24 y8_c0 a3).bind fun x13=>bif (!decide (x13.1=(0:Int))) then(some ((Z10.mk (0:Int) (0:Int) ([]:Bs) true ([]) (Sl.nil:Sl Bs)),x13.1,x13.2)) else(bif (decide (y9_l0.FKind=(0:Int))) then((Z144 a1).bind fun x22=>bif x22 then(some ((Z10.mk (0:Int) (0:Int) ([]:Bs) true ([]) (Sl.nil:Sl Bs)),(23:Int),x13.2)) else(some ((Z10.mk (0:Int) (0:Int) ([]:Bs) true ([]) (Sl.nil:Sl Bs)),(0:Int),x13.2))) else((Z142 a1).bind fun x28=>bif x28.2 then((k_rec_132 x13.2 x28.1 y9_l0 a3).bind fun x32=>some (x32.1,x32.2.1,x32.2.2)) else((Z114 x13.2.Fd a1.FName).bind fun x35=>guardO (x35.2) (Z119 a1.FName) false fun x37=>bif ((x35.2&&(!x37))&&(decide (x35.1.FKind=(5:Int)))) then((k_rec_133 x13.2 x35.1 y9_l0 a3).bind fun x40=>some (x40.1,x40.2.1,x40.2.2)) else((Z25 x13.2 a1.FName y9_l0).bind fun x42=>some (x42.1,x42.2,x13.2)))))
def coerce_coercer_list_j7  (y8_c0:Z1) (y9_l0:Z10) (y10_l1:Z10):Option (Z10×Int×Z1):=some (y10_l1,(0:Int),y8_c0)
def coerce_coercer_list_l14 (a1:TRef) (a3:Int) (s10_4:(Sl Z10)) (k_rec_82:Z1->TRef->Z10->Int->Option (Z10×Int×Z1)):Nat->Nat->Z1->Z10->Z10->Option (Z10×Int×Z1)
 | 0,_,_,_,_=>none
 | n14+1,s26_15,y16_c0,y17_l0,y18_l1=>bif (decide (((s26_15:Nat):Int)<((s10_4.l.length:Nat):Int))) then((s10_4.l[s26_15]?).bind fun x24=>(addC a3 (1:Int)).bind fun x26=>(k_rec_82 y16_c0 a1 x24 x26).bind fun x27=>bif (!decide (x27.2.1=(0:Int))) then(some ((Z10.mk (0:Int) (0:Int) ([]:Bs) true ([]) (Sl.nil:Sl Bs)),x27.2.1,x27.2.2)) else((appC 80 y18_l1.FItems (⟨false,[x27.1]⟩:Sl Z10)).bind fun x32=>(coerce_coercer_list_l14 a1 a3 s10_4 k_rec_82 n14) (s26_15+1) x27.2.2 y17_l0 (Z10.mk y18_l1.FKind y18_l1.FInt y18_l1.FText x32.nl x32.l y18_l1.FKeys))) else(coerce_coercer_list_j7   y16_c0 y17_l0 y18_l1)
def coerce_coercer_list_j3 (a0:Z1) (a1:TRef) (a3:Int) (k_rec_82:Z1->TRef->Z10->Int->Option (Z10×Int×Z1)) (s10_4:(Sl Z10)):Option (Z10×Int×Z1):=coerce_coercer_list_l14 a1 a3 s10_4 k_rec_82 (s10_4.l.length+1) 0 a0 Z10.zero (Z10.mk (5:Int) (0:Int) ([]:Bs) true ([]) (Sl.nil:Sl Bs))
def coerce_coercer_object_j11  (y12_c0:Z1) (y13_l0:Z10) (y14_l1:Z10):Option (Z10×Int×Z1):=some (y14_l1,(0:Int),y12_c0)
def coerce_coercer_object_j26 (s49_19:Nat) (k_next_18:Nat->Z1->Z10->Z10->Option (Z10×Int×Z1)) (y27_c0:Z1) (y28_l0:Z10) (y29_l1:Z10):Option (Z10×Int×Z1):=k_next_18 (s49_19+1) y27_c0 y28_l0 y29_l1
def coerce_coercer_object_j42 (s49_19:Nat) (y21_l0:Z10) (y22_l1:Z10) (x31:Z7) (k_next_18:Nat->Z1->Z10->Z10->Option (Z10×Int×Z1)) (s22_43:Int) (y44_c0:Z1) (y45_l2:Z10):Option (Z10×Int×Z1):=bif (!decide (s22_43=(0:Int))) then(some ((Z10.mk (0:Int) (0:Int) ([]:Bs) true ([]) (Sl.nil:Sl Bs)),s22_43,y44_c0)) else((appC 16 y22_l1.FKeys (⟨false,[x31.FName]⟩:Sl Bs)).bind fun x50=>(appC 80 y22_l1.FItems (⟨false,[y45_l2]⟩:Sl Z10)).bind fun x51=>coerce_coercer_object_j26 s49_19 k_next_18 y44_c0 y21_l0 (Z10.mk y22_l1.FKind y22_l1.FInt y22_l1.FText x51.nl x51.l x50))
def coerce_coercer_object_l18 (a1:TDef) (a2:Z10) (a3:Int) (k_rec_167:Z1->Z7->Int->Option (Z10×Int×Z1)) (k_rec_82:Z1->TRef->Z10->Int->Option (Z10×Int×Z1)):Nat->Nat->Z1->Z10->Z10->Option (Z10×Int×Z1)
 | 0,_,_,_,_=>none
 | n18+1,s49_19,y20_c0,y21_l0,y22_l1=>bif (decide (((s49_19:Nat):Int)<((a1.FInputs.l.length:Nat):Int))) then((a1.FInputs.l[s49_19]?).bind fun x31=>(partC a1.FInputs none (some ((s49_19:Nat):Int))).bind fun x34=>(Z115 x34 x31.FName).bind fun x35=>bif x35.2 then(coerce_coercer_object_j26 s49_19 ((coerce_coercer_object_l18 a1 a2 a3 k_rec_167 k_rec_82 n18)) y20_c0 y21_l0 y22_l1) else((Z153 a2 x31.FName).bind fun x39=>guardO (x39.2) (Z27 y20_c0 x39.1) false fun x53=>bif (x39.2&&(!x53)) then((addC a3 (1:Int)).bind fun x55=>(k_rec_82 y20_c0 x31.FType x39.1 x55).bind fun x56=>coerce_coercer_object_j42 s49_19 y21_l0 y22_l1 x31 ((coerce_coercer_object_l18 a1 a2 a3 k_rec_167 k_rec_82 n18)) x56.2.1 x56.2.2 x56.1) else(bif x31.FHas then((addC a3 (1:Int)).bind fun x59=>(k_rec_167 y20_c0 x31 x59).bind fun x60=>coerce_coercer_object_j42 s49_19 y21_l0 y22_l1 x31 ((coerce_coercer_object_l18 a1 a2 a3 k_rec_167 k_rec_82 n18)) x60.2.1 x60.2.2 x60.1) else((Z144 x31.FType).bind fun x62=>bif x62 then(coerce_coercer_object_j42 s49_19 y21_l0 y22_l1 x31 ((coerce_coercer_object_l18 a1 a2 a3 k_rec_167 k_rec_82 n18)) (22:Int) y20_c0 Z10.zero) else(coerce_coercer_object_j26 s49_19 ((coerce_coercer_object_l18 a1 a2 a3 k_rec_167 k_rec_82 n18)) y20_c0 y21_l0 y22_l1))))) else(coerce_coercer_object_j11   y20_c0 y21_l0 y22_l1)
def coerce_coercer_object_j6 (a0:Z1) (a1:TDef) (a2:Z10) (a3:Int) (k_rec_167:Z1->Z7->Int->Option (Z10×Int×Z1)) (k_rec_82:Z1->TRef->Z10->Int->Option (Z10×Int×Z1)) (y7_l0:Z10):Option (Z10×Int×Z1):=coerce_coercer_object_l18 a1 a2 a3 k_rec_167 k_rec_82 (a1.FInputs.l.length+1) 0 a0 y7_l0 (Z10.mk (6:Int) (0:Int) ([]:Bs) true ([]) (Sl.nil:Sl Bs))
def coerce_coercer_object_l66 (a0:Z1) (a1:TDef) (a2:Z10) (a3:Int) (k_rec_167:Z1->Z7->Int->Option (Z10×Int×Z1)) (k_rec_82:Z1->TRef->Z10->Int->Option (Z10×Int×Z1)):Nat->Nat->Z10->Option (Z10×Int×Z1)
 | 0,_,_=>none
 | n66+1,s30_67,y68_l0=>bif (decide (((s30_67:Nat):Int)<((a2.FKeys.l.length:Nat):Int))) then((a2.FKeys.l[s30_67]?).bind fun x74=>(Z115 a1.FInputs x74).bind fun x76=>bif (!x76.2) then(some ((Z10.mk (0:Int) (0:Int) ([]:Bs) true ([]) (Sl.nil:Sl Bs)),(22:Int),a0)) else((coerce_coercer_object_l66 a0 a1 a2 a3 k_rec_167 k_rec_82 n66) (s30_67+1) y68_l0)) else(coerce_coercer_object_j6 a0 a1 a2 a3 k_rec_167 k_rec_82 y68_l0)
mutual
def coerce_coercer_at_n:Nat->Z1->TRef->Z10->Int->Option (Z10×Int×Z1)
 | 0,_,_,_,_=>none
 | n+1,a0,a1,a2,a3=>(Z116 a0.Fd a1.FName).bind fun x4=>bif (!x4) then(some ((Z10.mk (0:Int) (0:Int) ([]:Bs) true ([]) (Sl.nil:Sl Bs)),(10:Int),a0)) else(bif ((decide (a2.FKind=(7:Int)))&&a0.Fliteral) then((Z153 a0.Fvars a2.FText).bind fun x46=>bif (!decide (x46.1.FKind=(0:Int))) then((Z30 a0 x46.1 a3).bind fun x50=>bif (!decide (x50.1=(0:Int))) then(some ((Z10.mk (0:Int) (0:Int) ([]:Bs) true ([]) (Sl.nil:Sl Bs)),x50.1,x50.2)) else(some (x46.1,(0:Int),x50.2))) else(coerce_coercer_at_j7 a1 a3 (coerce_coercer_list_n n) (coerce_coercer_object_n n) a0 x46.1 Z10.zero)) else(coerce_coercer_at_j7 a1 a3 (coerce_coercer_list_n n) (coerce_coercer_object_n n) a0 a2 Z10.zero))
def coerce_coercer_list_n:Nat->Z1->TRef->Z10->Int->Option (Z10×Int×Z1)
 | 0,_,_,_,_=>none
 | n+1,a0,a1,a2,a3=>bif (!decide (a2.FKind=(5:Int))) then(coerce_coercer_list_j3 a0 a1 a3 (coerce_coercer_at_n n) (⟨false,[a2]⟩:Sl Z10)) else(coerce_coercer_list_j3 a0 a1 a3 (coerce_coercer_at_n n) a2.FItems)
def coerce_coercer_object_n:Nat->Z1->TDef->Z10->Int->Option (Z10×Int×Z1)
 | 0,_,_,_,_=>none
 | n+1,a0,a1,a2,a3=>bif (!decide (a2.FKind=(6:Int))) then(some ((Z10.mk (0:Int) (0:Int) ([]:Bs) true ([]) (Sl.nil:Sl Bs)),(23:Int),a0)) else(coerce_coercer_object_l66 a0 a1 a2 a3 (Z28_n n) (coerce_coercer_at_n n) (a2.FKeys.l.length+1) 0 Z10.zero)
def Z28_n:Nat->Z1->Z7->Int->Option (Z10×Int×Z1)
 | 0,_,_,_=>none
 | n+1,a0,a1,a2=>((coerce_coercer_at_n n) (Z1.mk a0.Fd (Z10.mk (0:Int) (0:Int) ([]:Bs) true ([]) (Sl.nil:Sl Bs)) true a0.Fnodes) a1.FType a1.FDefault a2).bind fun x5=>(Z29 a0.Fvars a0.Fliteral x5.2.2).bind fun x6=>some (x5.1,x5.2.1,x6)
end
theorem coerce_coercer_at_step (n:Nat) (ih_82:∀{a0:Z1}{a1:TRef}{a2:Z10}{a3:Int}{oT:Ab.Obj}{c0 gT:Nat}{r:Z10×Int×Z1},coerce_coercer_at_n n a0 a1 a2 a3=some r->∀(H:Heap) (hc0:H c0=some (.cells (Z1.c a0))) (hgT:H gT=some oT) (hoT:IsTab Tryz.prog oT),ACalls Tryz.prog 82 [.d (.ptr c0 0),.agg (TRef.c a1),.agg (Z10.c a2),.d (.int .i64 a3)] H fun v h'=>v=.tup [.agg (Z10.c r.1),.d (.int .i64 r.2.1)]/\h'=(H.set c0 (some (.cells (Z1.c r.2.2))))) (ih_132:∀{a0:Z1}{a1:TRef}{a2:Z10}{a3:Int}{oT:Ab.Obj}{c0 gT:Nat}{r:Z10×Int×Z1},coerce_coercer_list_n n a0 a1 a2 a3=some r->∀(H:Heap) (hc0:H c0=some (.cells (Z1.c a0))) (hgT:H gT=some oT) (hoT:IsTab Tryz.prog oT),ACalls Tryz.prog 132 [.d (.ptr c0 0),.agg (TRef.c a1),.agg (Z10.c a2),.d (.int .i64 a3)] H fun v h'=>v=.tup [.agg (Z10.c r.1),.d (.int .i64 r.2.1)]/\h'=(H.set c0 (some (.cells (Z1.c r.2.2))))) (ih_133:∀{a0:Z1}{a1:TDef}{a2:Z10}{a3:Int}{oT:Ab.Obj}{c0 gT:Nat}{r:Z10×Int×Z1},coerce_coercer_object_n n a0 a1 a2 a3=some r->∀(H:Heap) (hc0:H c0=some (.cells (Z1.c a0))) (hgT:H gT=some oT) (hoT:IsTab Tryz.prog oT),ACalls Tryz.prog 133 [.d (.ptr c0 0),.agg (TDef.c a1),.agg (Z10.c a2),.d (.int .i64 a3)] H fun v h'=>v=.tup [.agg (Z10.c r.1),.d (.int .i64 r.2.1)]/\h'=(H.set c0 (some (.cells (Z1.c r.2.2))))) (ih_167:∀{a0:Z1}{a1:Z7}{a2:Int}{oT:Ab.Obj}{c0 gT:Nat}{r:Z10×Int×Z1},Z28_n n a0 a1 a2=some r->∀(H:Heap) (hc0:H c0=some (.cells (Z1.c a0))) (hgT:H gT=some oT) (hoT:IsTab Tryz.prog oT),ACalls Tryz.prog 167 [.d (.ptr c0 0),.agg (Z7.c a1),.d (.int .i64 a2)] H fun v h'=>v=.tup [.agg (Z10.c r.1),.d (.int .i64 r.2.1)]/\h'=(H.set c0 (some (.cells (Z1.c r.2.2))))):∀{a0:Z1}{a1:TRef}{a2:Z10}{a3:Int}{oT:Ab.Obj}{c0 gT:Nat}{r:Z10×Int×Z1},coerce_coercer_at_n (n+1) a0 a1 a2 a3=some r->∀(H:Heap) (hc0:H c0=some (.cells (Z1.c a0))) (hgT:H gT=some oT) (hoT:IsTab Tryz.prog oT),ACalls Tryz.prog 82 [.d (.ptr c0 0),.agg (TRef.c a1),.agg (Z10.c a2),.d (.int .i64 a3)] H fun v h'=>v=.tup [.agg (Z10.c r.1),.d (.int .i64 r.2.1)]/\h'=(H.set c0 (some (.cells (Z1.c r.2.2)))):=by
 intro a0 a1 a2 a3 oT c0 gT r hE H hc0 hgT hoT;rw [coerce_coercer_at_n] at hE;refine ACalls.oW 119 [.cell 8 86,.tmp 9] Tryz.call82 Tryz.func82 ?_;have ne_gT_c0:gT≠c0:=fun e_=>by subst e_; obtain⟨_,_,_,e2_,_⟩:=hoT; simp_all
 refine AWp.heqA (h':=(H.set c0 (some (.cells (Z1.c a0))))) (by funext n_; simp only [Heap.set]; (repeat' split)<;>simp_all) ?_;refine seqR (S BX ?_);refine sL (boxL rfl (by repeat (first|exact Snoc.nil|apply Snoc.cons))) rfl ?_;refine Sl ?_;refine S As (nil ?_);refine seqK fun K2 hK2=>?_;refine AWp.seqD (Sd Mv (Sd NP ?_));refine DOps.s0 (fieldP (TK rfl) rfl rfl (TK rfl) rfl rfl) rfl ?_;refine DOps.s0 (loadP (TK rfl) rfl rfl hpG rfl) rfl ?_
 refine Sd Fv (Sd Ld ?_);obtain⟨x4,gx4,hE⟩:=bO hE;refine Scd rfl rfl (Z116_walk gx4) ?_;refine Sd NB ?_;refine DOps.nil (by decide +kernel) ?_;refine cE hE (fun hc5 hE=>?_) (fun hc5 hE=>?_)
 ·refine seqR (S BU ?_);refine Sf ?_;refine S As (nil ?_);exact rt hE
 refine sk hK2 ?_;clear hK2 K2;refine seqJ (TA 0 (TA 3 (TA 5 (TA 6 (TA 8 KeepsT.nil))))) (fun(z:Z1×Z10×Z10)=>[]) (fun z=>[Z10.c z.2.1,Z10.c z.2.2]) (fun z=>(H.set c0 (some (.cells (Z1.c z.1))))) (fun z=>coerce_coercer_at_j7 a1 a3 (coerce_coercer_list_n n) (coerce_coercer_object_n n) z.1 z.2.1 z.2.2=some r) ?_ ?_
 ·intro K7 hK7;refine seqR (S FL (S LL (S BI (S Mv (G0 Mv ?_)))));refine G1 29 rfl NP ?_;refine gC rfl rfl (fun hC=>ungdA (k:=30) rfl (fieldP (TK rfl) rfl rfl (TK rfl) rfl rfl)) rfl ?_;refine gC rfl rfl (fun hC=>ungdA (k:=31) rfl (loadP (TK rfl) rfl rfl hpG rfl)) rfl ?_;refine S PA (nil ?_);refine cE hE (fun hc44 hE=>?_) (fun hc44 hE=>?_)
  ·refine AWp.seqD (Sd Mv (Sd NP ?_));refine DOps.s0 (fieldP (TK rfl) rfl rfl (TK rfl) rfl rfl) rfl ?_;refine DOps.s0 (loadP (TK rfl) rfl rfl hpG rfl) rfl ?_;refine Sd FL (Sd LL ?_);obtain⟨x46,gx46,hE⟩:=bO hE;refine Scd rfl rfl (Z153_walk gx46) ?_;refine Sd Mv (Sd EX (Sd EX ?_));refine DOps.sLn (storeLFA (TK rfl) rfl rfl rfl rfl rfl) ?_;refine DOps.nil (by decide +kernel) ?_;refine seqR (S FL (S LL (S BI (nil ?_))))
   refine cE hE (fun hc48 hE=>?_) (fun hc48 hE=>?_)
   ·refine seqR (S Mv (S LL (S Mv ?_)));obtain⟨x50,gx50,hE⟩:=bO hE;refine sH (callH rfl rfl (Z30_walk gx50 _ hpG)) rfl ?_;refine hq (H.set c0 (some (.cells (Z1.c x50.2)))) ?_;refine S As (nil ?_);refine seqK fun K51 hK51=>?_;refine seqR (S Mv (S BI (nil ?_)));refine cE hE (fun hc53 hE=>?_) (fun hc53 hE=>?_)
    ·refine seqR (S BU (S Mv ?_));refine Sf ?_;refine S As (nil ?_);exact rt hE
    refine sk hK51 ?_;clear hK51 K51;refine seqR (S LL ?_);refine Sf ?_;refine S As (nil ?_);exact rt hE
   refine AWp.skip ?_;exact hK7 _ (a0,x46.1,Z10.zero) Weak.toA hE
  refine AWp.skip ?_;exact hK7 _ (a0,a2,Z10.zero) Weak.toA hE
 rintro ⟨y8_c0,y9_l0,y10_l1⟩ hE;try dsimp only at hE
 unfold coerce_coercer_at_j7 at hE;refine seqK fun K11 hK11=>?_;refine seqR (S Mv (S Mv ?_));obtain⟨x13,gx13,hE⟩:=bO hE;refine sH (callH rfl rfl (Z24_walk gx13 _ hpG)) rfl ?_;refine hq (H.set c0 (some (.cells (Z1.c x13.2)))) ?_;refine S As (nil ?_);refine seqR (S Mv (S BI (nil ?_)));refine cE hE (fun hc15 hE=>?_) (fun hc15 hE=>?_)
 ·refine seqR (S BU (S Mv ?_));refine Sf ?_;refine S As (nil ?_);exact rt hE
 refine sk hK11 ?_;clear hK11 K11;refine seqK fun K17 hK17=>?_;refine seqR (S FL (S LL (S BI (nil ?_))));refine cE hE (fun hc19 hE=>?_) (fun hc19 hE=>?_)
 ·refine seqK fun K20 hK20=>?_;refine seqR (S Ld ?_);obtain⟨x22,gx22,hE⟩:=bO hE;refine Sc rfl rfl (Z144_walk gx22) ?_;refine nil ?_;refine cE hE (fun hc23 hE=>?_) (fun hc23 hE=>?_)
  ·refine seqR (S BU ?_);refine Sf ?_;refine S As (nil ?_);exact rt hE
  refine sk hK20 ?_;clear hK20 K20;refine seqR (S BU ?_);refine Sf ?_;refine S As (nil ?_);exact rt hE
 refine sk hK17 ?_;clear hK17 K17;refine seqK fun K26 hK26=>?_;refine seqR (S Ld ?_);obtain⟨x28,gx28,hE⟩:=bO hE;refine Sc rfl rfl (Z142_walk gx28) ?_;refine S Mv (S EX (S EX ?_));refine Sl ?_;refine Sf ?_;refine S As (nil ?_);refine freezeA 12 _ rfl (KA 0 (KA 3 (KA 5 (KA 6 (KA 8 (KA 13 Keeps.nil)))))) ?_;refine seqR (S Mv (nil ?_));refine cE hE (fun hc30 hE=>?_) (fun hc30 hE=>?_)
 ·refine seqR (S Mv (S Ld (S LL (S Mv ?_))));obtain⟨x32,gx32,hE⟩:=bO hE;refine sH (callH rfl rfl (ih_132 (gT:=gT) (oT:=oT) gx32 _ hpG hpG (by assumption))) rfl ?_;refine hq (H.set c0 (some (.cells (Z1.c x32.2.2)))) ?_;refine S EX (S EX ?_);refine Sf ?_;refine S As (nil ?_);exact rt hE
 refine sk hK26 ?_;clear hK26 K26;refine seqK fun K33 hK33=>?_;refine AWp.seqD (Sd Mv (Sd NP ?_));refine DOps.s0 (fieldP (TK rfl) rfl rfl (TK rfl) rfl rfl) rfl ?_;refine DOps.s0 (loadP (TK rfl) rfl rfl hpG rfl) rfl ?_;refine Sd Fv (Sd Ld ?_);obtain⟨x35,gx35,hE⟩:=bO hE;refine Scd rfl rfl (Z114_walk gx35) ?_;refine Sd Mv (Sd EX (Sd EX ?_));refine DOps.sB (TK rfl) rfl rfl ?_ (by repeat (first|exact Snoc.nil|apply Snoc.cons))
 refine DOps.sLn (storeLFA (TK rfl) rfl rfl rfl rfl rfl) ?_;refine Sd As ?_;refine DOps.nil (by decide +kernel) ?_;refine freezeA 14 _ rfl (KA 0 (KA 3 (KA 5 (KA 6 (KA 8 (KA 15 Keeps.nil)))))) ?_;refine seqR (S Mv (S Mv (G0 Fv ?_)));refine G1 95 rfl Ld ?_;obtain⟨x37,gx37,hE⟩:=gO hE;refine Gc1 96 rfl rfl rfl rfl rfl (fun hC=>Z119_walk (gx37 hC)) ?_;refine G1 97 rfl NB ?_;refine S PA (S Mv (G0 Fv ?_))
 refine G1 101 rfl Ld ?_;refine G1 102 rfl BI ?_;refine S PA (nil ?_);refine cE hE (fun hc38 hE=>?_) (fun hc38 hE=>?_)
 ·refine seqR (S Mv (S Ld (S LL (S Mv ?_))));obtain⟨x40,gx40,hE⟩:=bO hE;refine sH (callH rfl rfl (ih_133 (gT:=gT) (oT:=oT) gx40 _ hpG hpG (by assumption))) rfl ?_;refine hq (H.set c0 (some (.cells (Z1.c x40.2.2)))) ?_;refine S EX (S EX ?_);refine Sf ?_;refine S As (nil ?_);exact rt hE
 refine sk hK33 ?_;clear hK33 K33;refine seqR (S Mv (S Fv (S Ld (S LL ?_))));obtain⟨x42,gx42,hE⟩:=bO hE;refine s0 (callR rfl rfl (Z25_walk (gT:=gT) (oT:=oT) gx42 _ hpG hpG (by assumption))) rfl ?_;refine S EX (S EX ?_);refine Sf ?_;refine S As (nil ?_);exact rt hE
theorem coerce_coercer_list_step (n:Nat) (ih_82:∀{a0:Z1}{a1:TRef}{a2:Z10}{a3:Int}{oT:Ab.Obj}{c0 gT:Nat}{r:Z10×Int×Z1},coerce_coercer_at_n n a0 a1 a2 a3=some r->∀(H:Heap) (hc0:H c0=some (.cells (Z1.c a0))) (hgT:H gT=some oT) (hoT:IsTab Tryz.prog oT),ACalls Tryz.prog 82 [.d (.ptr c0 0),.agg (TRef.c a1),.agg (Z10.c a2),.d (.int .i64 a3)] H fun v h'=>v=.tup [.agg (Z10.c r.1),.d (.int .i64 r.2.1)]/\h'=(H.set c0 (some (.cells (Z1.c r.2.2))))) (ih_132:∀{a0:Z1}{a1:TRef}{a2:Z10}{a3:Int}{oT:Ab.Obj}{c0 gT:Nat}{r:Z10×Int×Z1},coerce_coercer_list_n n a0 a1 a2 a3=some r->∀(H:Heap) (hc0:H c0=some (.cells (Z1.c a0))) (hgT:H gT=some oT) (hoT:IsTab Tryz.prog oT),ACalls Tryz.prog 132 [.d (.ptr c0 0),.agg (TRef.c a1),.agg (Z10.c a2),.d (.int .i64 a3)] H fun v h'=>v=.tup [.agg (Z10.c r.1),.d (.int .i64 r.2.1)]/\h'=(H.set c0 (some (.cells (Z1.c r.2.2))))) (ih_133:∀{a0:Z1}{a1:TDef}{a2:Z10}{a3:Int}{oT:Ab.Obj}{c0 gT:Nat}{r:Z10×Int×Z1},coerce_coercer_object_n n a0 a1 a2 a3=some r->∀(H:Heap) (hc0:H c0=some (.cells (Z1.c a0))) (hgT:H gT=some oT) (hoT:IsTab Tryz.prog oT),ACalls Tryz.prog 133 [.d (.ptr c0 0),.agg (TDef.c a1),.agg (Z10.c a2),.d (.int .i64 a3)] H fun v h'=>v=.tup [.agg (Z10.c r.1),.d (.int .i64 r.2.1)]/\h'=(H.set c0 (some (.cells (Z1.c r.2.2))))) (ih_167:∀{a0:Z1}{a1:Z7}{a2:Int}{oT:Ab.Obj}{c0 gT:Nat}{r:Z10×Int×Z1},Z28_n n a0 a1 a2=some r->∀(H:Heap) (hc0:H c0=some (.cells (Z1.c a0))) (hgT:H gT=some oT) (hoT:IsTab Tryz.prog oT),ACalls Tryz.prog 167 [.d (.ptr c0 0),.agg (Z7.c a1),.d (.int .i64 a2)] H fun v h'=>v=.tup [.agg (Z10.c r.1),.d (.int .i64 r.2.1)]/\h'=(H.set c0 (some (.cells (Z1.c r.2.2))))):∀{a0:Z1}{a1:TRef}{a2:Z10}{a3:Int}{oT:Ab.Obj}{c0 gT:Nat}{r:Z10×Int×Z1},coerce_coercer_list_n (n+1) a0 a1 a2 a3=some r->∀(H:Heap) (hc0:H c0=some (.cells (Z1.c a0))) (hgT:H gT=some oT) (hoT:IsTab Tryz.prog oT),ACalls Tryz.prog 132 [.d (.ptr c0 0),.agg (TRef.c a1),.agg (Z10.c a2),.d (.int .i64 a3)] H fun v h'=>v=.tup [.agg (Z10.c r.1),.d (.int .i64 r.2.1)]/\h'=(H.set c0 (some (.cells (Z1.c r.2.2)))):=by
 intro a0 a1 a2 a3 oT c0 gT r hE H hc0 hgT hoT;rw [coerce_coercer_list_n] at hE;refine ACalls.oW 51 [.cell 8 86,.tmp 9] Tryz.call132 Tryz.func132 ?_;have ne_gT_c0:gT≠c0:=fun e_=>by subst e_; obtain⟨_,_,_,e2_,_⟩:=hoT; simp_all
 refine AWp.heqA (h':=(H.set c0 (some (.cells (Z1.c a0))))) (by funext n_; simp only [Heap.set]; (repeat' split)<;>simp_all) ?_;refine seqR (S BX (S BX ?_));refine Sl ?_;refine S As (nil ?_);refine seqR (S Fv ?_);refine s0 (loadV (TK rfl) rfl rfl (congrArg (fun x=>some (A.d x)) (Z10.FItemsD_eq _))) rfl ?_;refine S As (nil ?_);refine seqJH (TA 0 (TA 3 (TA 5 (TA 8 KeepsT.nil)))) (fun(z:(Sl Z10))=>[(10,.a (.d (Sl.d 5 Z10.c none z)))]) (fun z=>(H.set c0 (some (.cells (Z1.c a0))))) (fun z=>coerce_coercer_list_j3 a0 a1 a3 (coerce_coercer_at_n n) z=some r) ?_ ?_
 ·intro K3 hK3;refine seqR (S Fv (S Ld (S BI (nil ?_))));refine cE hE (fun hc34 hE=>?_) (fun hc34 hE=>?_)
  ·refine region ?_;refine S Ld (S BV (S As (nil ?_)));exact hK3 _ (⟨false,[a2]⟩:Sl Z10) Weak.toA hE
  refine AWp.skip ?_;exact hK3 _ a2.FItems Weak.toA hE
 rintro s10_4 hE;try dsimp only at hE
 unfold coerce_coercer_list_j3 at hE;refine seqR (S BU ?_);refine Sl ?_;refine AOps.tok 5 fun tk11_6 htk11_6=>?_;obtain⟨ne_tk11_6_c0,htk11_6⟩:=Heap.set_fresh htk11_6;have ne_tk11_6_gT:tk11_6≠gT:=fun e_=>by subst e_; simp_all
 refine AOps.relocal 1 _ rfl (fun j w cs hh hx=>tok_cell 3 5 5 hh (t:=tk11_6) hpG hx rfl) ?_;refine Sf ?_;refine AOps.relocal 1 _ rfl (fun j w cs hh hx=>tok_cell 3 5 5 hh (t:=tk11_6) hpG hx rfl) ?_;refine nil ?_;refine seqJ (TA 8 (TA 11 KeepsT.nil)) (fun(z:Z1×Z10×Z10)=>[]) (fun z=>[Z10.c z.2.1,((intE .i64) z.2.2.FKind++(intE .i64) z.2.2.FInt++strE z.2.2.FText++[Sl.d 5 Z10.c (some tk11_6) z.2.2.FItems]++(fun s=>[Sl.d 1 strE none s]) z.2.2.FKeys)]) (fun z=>((H.set c0 (some (.cells (Z1.c z.1)))).set tk11_6 (some (.tok 5 z.2.2.FItems.l.length)))) (fun z=>coerce_coercer_list_j7 z.1 z.2.1 z.2.2=some r) ?_ ?_
 ·intro K7 hK7;refine seqR (S Mv ?_);refine sLen (f:=Z10.c) (s:=s10_4) (TK rfl) rfl rfl rfl rfl fun hL13=>?_;refine S Mv (nil ?_);refine block ?_;refine loopO (TA 0 (TA 3 (TA 5 (TA 8 (TA 11 (TA 24 (TA 25 KeepsT.nil))))))) (fun(z:Nat×Nat×Z1×Z10×Z10)=>[(26,.a (.d (.int .i64 ((z.2.1:Nat):Int))))]) (fun z=>[Z10.c z.2.2.2.1,((intE .i64) z.2.2.2.2.FKind++(intE .i64) z.2.2.2.2.FInt++strE z.2.2.2.2.FText++[Sl.d 5 Z10.c (some tk11_6) z.2.2.2.2.FItems]++(fun s=>[Sl.d 1 strE none s]) z.2.2.2.2.FKeys)]) (fun z=>((H.set c0 (some (.cells (Z1.c z.2.2.1)))).set tk11_6 (some (.tok 5 z.2.2.2.2.FItems.l.length)))) (fun z=>z.1) (fun z=>coerce_coercer_list_l14 a1 a3 s10_4 (coerce_coercer_at_n n) z.1 z.2.1 z.2.2.1 z.2.2.2.1 z.2.2.2.2=some r) ((s10_4.l.length+1),0,a0,Z10.zero,(Z10.mk (5:Int) (0:Int) ([]:Bs) true ([]) (Sl.nil:Sl Bs))) hE Weak.toA ?_
  rintro ⟨n14,s26_15,y16_c0,y17_l0,y18_l1⟩ hE K14 hK14;try dsimp only at hE
  cases n14 with
  | zero=>cases hE
  | succ n14 =>
    rw [coerce_coercer_list_l14] at hE;refine seqR (S BI (nil ?_));refine seqK fun K20 hK20=>?_;refine cE hE (fun hc21 hE=>?_) (fun hc21 hE=>?_)
    ·try dsimp only at hc21
     have hf21:=of_decide_eq_true hc21;refine sk hK20 ?_;clear hK20 K20;refine seqK fun K22 hK22=>?_;refine block ?_;refine seqR ?_;obtain⟨x24,gx24,hE⟩:=bO hE;refine S (ix Z10.c s26_15 gx24) (S Ld ?_);refine Sl ?_;refine Sf ?_;refine nil ?_;refine freezeA 13 _ rfl (KA 0 (KA 3 (KA 5 (KA 8 (KA 11 (KA 24 (KA 25 (KA 26 Keeps.nil)))))))) ?_;refine seqR (S Mv (S Ld (S Ld (S Mv ?_))));obtain⟨x26,gx26,hE⟩:=bO hE
     refine s0 (addM rfl rfl gx26) rfl ?_;obtain⟨x27,gx27,hE⟩:=bO hE;refine sH (callH rfl rfl (ih_82 (gT:=gT) (oT:=oT) gx27 _ hpG hpG (by assumption))) rfl ?_;refine hq ((H.set c0 (some (.cells (Z1.c x27.2.2)))).set tk11_6 (some (.tok 5 y18_l1.FItems.l.length))) ?_;refine S Mv (S EX (S EX ?_));refine Sl ?_;refine Sf ?_;refine S As (nil ?_);refine freezeA 14 _ rfl (KA 0 (KA 3 (KA 5 (KA 8 (KA 11 (KA 15 (KA 24 (KA 25 (KA 26 Keeps.nil))))))))) ?_
     refine seqK fun K28 hK28=>?_;refine seqR (S Mv (S BI (nil ?_)));refine cE hE (fun hc30 hE=>?_) (fun hc30 hE=>?_)
     ·refine seqR (S BU (S Mv ?_));refine Sf ?_;refine S As (nil ?_);refine AWp.ret ?_;repeat (first|refine xBlock_ret ?_|refine xThen_ret ?_)
      obtain rfl:=Option.some.inj hE;refine retQ.retF (H.set c0 (some (.cells (Z1.c x27.2.2)))) rfl ⟨rfl,rfl⟩ ?_;intro id_ o_ he_;have e_tk11_6:id_≠tk11_6:=fun e_=>by subst e_; simp_all [Heap.set]
      rw [<- he_];simp only [Heap.set] at he_ ⊢
      (repeat' split)<;>simp_all
     refine sk hK28 ?_;clear hK28 K28;refine region ?_;refine S FL (S LL (S Ld (S BV ?_)));obtain⟨x32,gx32,hE⟩:=bO hE;refine SH (am Z10.c (TK rfl) rfl (TK rfl) (TK rfl) gx32) ?_;refine hq ((H.set c0 (some (.cells (Z1.c x27.2.2)))).set tk11_6 (some (.tok 5 x32.l.length))) ?_;refine S FL ?_;refine Sf ?_;refine nil ?_;refine hK22 _ ?_;clear hK22 K22;refine region ?_;refine SI ?_;refine S Mv (nil ?_);exact hK14 _ (n14,(s26_15+1),x27.2.2,y17_l0,(Z10.mk y18_l1.FKind y18_l1.FInt y18_l1.FText x32.nl x32.l y18_l1.FKeys)) Weak.toA hE (Nat.lt_succ_self _)
    refine AWp.exit ?_;exact hK7 _ (y16_c0,y17_l0,y18_l1) Weak.toA hE
 rintro ⟨y8_c0,y9_l0,y10_l1⟩ hE;try dsimp only at hE
 unfold coerce_coercer_list_j7 at hE;refine seqK fun K11 hK11=>?_;refine AWp.relocal 1 _ rfl (fun j w cs hh hx=>untok_cell 3 hx rfl) ?_;refine AWp.relocal 1 (Z10.c y10_l1) rfl (fun j w cs hh hx=>by rw [Z10.cu_eq]; exact hx) ?_;refine region ?_;refine S LL ?_;refine Sf ?_;refine S As (nil ?_);refine hK11 _ ?_;clear hK11 K11;refine AWp.ret ?_;repeat (first|refine xBlock_ret ?_|refine xThen_ret ?_)
 obtain rfl:=Option.some.inj hE;refine retQ.retF (H.set c0 (some (.cells (Z1.c y8_c0)))) rfl ⟨rfl,rfl⟩ ?_;intro id_ o_ he_;have e_tk11_6:id_≠tk11_6:=fun e_=>by subst e_; simp_all [Heap.set]
 rw [<- he_];simp only [Heap.set] at he_ ⊢
 (repeat' split)<;>simp_all
theorem coerce_coercer_object_step (n:Nat) (ih_82:∀{a0:Z1}{a1:TRef}{a2:Z10}{a3:Int}{oT:Ab.Obj}{c0 gT:Nat}{r:Z10×Int×Z1},coerce_coercer_at_n n a0 a1 a2 a3=some r->∀(H:Heap) (hc0:H c0=some (.cells (Z1.c a0))) (hgT:H gT=some oT) (hoT:IsTab Tryz.prog oT),ACalls Tryz.prog 82 [.d (.ptr c0 0),.agg (TRef.c a1),.agg (Z10.c a2),.d (.int .i64 a3)] H fun v h'=>v=.tup [.agg (Z10.c r.1),.d (.int .i64 r.2.1)]/\h'=(H.set c0 (some (.cells (Z1.c r.2.2))))) (ih_132:∀{a0:Z1}{a1:TRef}{a2:Z10}{a3:Int}{oT:Ab.Obj}{c0 gT:Nat}{r:Z10×Int×Z1},coerce_coercer_list_n n a0 a1 a2 a3=some r->∀(H:Heap) (hc0:H c0=some (.cells (Z1.c a0))) (hgT:H gT=some oT) (hoT:IsTab Tryz.prog oT),ACalls Tryz.prog 132 [.d (.ptr c0 0),.agg (TRef.c a1),.agg (Z10.c a2),.d (.int .i64 a3)] H fun v h'=>v=.tup [.agg (Z10.c r.1),.d (.int .i64 r.2.1)]/\h'=(H.set c0 (some (.cells (Z1.c r.2.2))))) (ih_133:∀{a0:Z1}{a1:TDef}{a2:Z10}{a3:Int}{oT:Ab.Obj}{c0 gT:Nat}{r:Z10×Int×Z1},coerce_coercer_object_n n a0 a1 a2 a3=some r->∀(H:Heap) (hc0:H c0=some (.cells (Z1.c a0))) (hgT:H gT=some oT) (hoT:IsTab Tryz.prog oT),ACalls Tryz.prog 133 [.d (.ptr c0 0),.agg (TDef.c a1),.agg (Z10.c a2),.d (.int .i64 a3)] H fun v h'=>v=.tup [.agg (Z10.c r.1),.d (.int .i64 r.2.1)]/\h'=(H.set c0 (some (.cells (Z1.c r.2.2))))) (ih_167:∀{a0:Z1}{a1:Z7}{a2:Int}{oT:Ab.Obj}{c0 gT:Nat}{r:Z10×Int×Z1},Z28_n n a0 a1 a2=some r->∀(H:Heap) (hc0:H c0=some (.cells (Z1.c a0))) (hgT:H gT=some oT) (hoT:IsTab Tryz.prog oT),ACalls Tryz.prog 167 [.d (.ptr c0 0),.agg (Z7.c a1),.d (.int .i64 a2)] H fun v h'=>v=.tup [.agg (Z10.c r.1),.d (.int .i64 r.2.1)]/\h'=(H.set c0 (some (.cells (Z1.c r.2.2))))):∀{a0:Z1}{a1:TDef}{a2:Z10}{a3:Int}{oT:Ab.Obj}{c0 gT:Nat}{r:Z10×Int×Z1},coerce_coercer_object_n (n+1) a0 a1 a2 a3=some r->∀(H:Heap) (hc0:H c0=some (.cells (Z1.c a0))) (hgT:H gT=some oT) (hoT:IsTab Tryz.prog oT),ACalls Tryz.prog 133 [.d (.ptr c0 0),.agg (TDef.c a1),.agg (Z10.c a2),.d (.int .i64 a3)] H fun v h'=>v=.tup [.agg (Z10.c r.1),.d (.int .i64 r.2.1)]/\h'=(H.set c0 (some (.cells (Z1.c r.2.2)))):=by
 intro a0 a1 a2 a3 oT c0 gT r hE H hc0 hgT hoT;rw [coerce_coercer_object_n] at hE;refine ACalls.oW 124 [.cell 8 86,.tmp 9] Tryz.call133 Tryz.func133 ?_;have ne_gT_c0:gT≠c0:=fun e_=>by subst e_; obtain⟨_,_,_,e2_,_⟩:=hoT; simp_all
 refine AWp.heqA (h':=(H.set c0 (some (.cells (Z1.c a0))))) (by funext n_; simp only [Heap.set]; (repeat' split)<;>simp_all) ?_;refine seqR (S BX (S BX ?_));refine Sl ?_;refine S As (nil ?_);refine seqK fun K2 hK2=>?_;refine seqR (S Fv (S Ld (S BI (nil ?_))));refine cE hE (fun hc4 hE=>?_) (fun hc4 hE=>?_)
 ·refine seqR (S BU ?_);refine Sf ?_;refine S As (nil ?_);exact rt hE
 refine sk hK2 ?_;clear hK2 K2;refine seqJ (TA 0 (TA 3 (TA 5 (TA 6 (TA 8 KeepsT.nil))))) (fun(z:Z10)=>[]) (fun z=>[Z10.c z]) (fun z=>(H.set c0 (some (.cells (Z1.c a0))))) (fun z=>coerce_coercer_object_j6 a0 a1 a2 a3 (Z28_n n) (coerce_coercer_at_n n) z=some r) ?_ ?_
 ·intro K6 hK6;refine seqR (S Fv (S Ld ?_));refine sLen (f:=strE) (s:=a2.FKeys) (TK rfl) rfl rfl rfl rfl fun hL65=>?_;refine S Mv (nil ?_);refine block ?_;refine loopO (TA 0 (TA 3 (TA 5 (TA 6 (TA 8 (TA 28 (TA 29 KeepsT.nil))))))) (fun(z:Nat×Nat×Z10)=>[(30,.a (.d (.int .i64 ((z.2.1:Nat):Int))))]) (fun z=>[Z10.c z.2.2]) (fun z=>(H.set c0 (some (.cells (Z1.c a0))))) (fun z=>z.1) (fun z=>coerce_coercer_object_l66 a0 a1 a2 a3 (Z28_n n) (coerce_coercer_at_n n) z.1 z.2.1 z.2.2=some r) ((a2.FKeys.l.length+1),0,Z10.zero) hE Weak.toA ?_
  rintro ⟨n66,s30_67,y68_l0⟩ hE K66 hK66;try dsimp only at hE
  cases n66 with
  | zero=>cases hE
  | succ n66 =>
    rw [coerce_coercer_object_l66] at hE;refine seqR (S BI (nil ?_));refine seqK fun K70 hK70=>?_;refine cE hE (fun hc71 hE=>?_) (fun hc71 hE=>?_)
    ·try dsimp only at hc71
     have hf71:=of_decide_eq_true hc71;refine sk hK70 ?_;clear hK70 K70;refine seqK fun K72 hK72=>?_;refine block ?_;refine seqR ?_;obtain⟨x74,gx74,hE⟩:=bO hE;refine S (ix strE s30_67 gx74) (S Ld (S As (nil ?_)));refine seqR (S Fv (S Ld (S Mv ?_)));obtain⟨x76,gx76,hE⟩:=bO hE;refine Sc rfl rfl (Z115_walk gx76) ?_;refine S Mv (S EX (S EX ?_));refine Sl ?_;refine Sf ?_;refine S As (nil ?_);refine freezeA 12 _ rfl (KA 0 (KA 3 (KA 5 (KA 6 (KA 8 (KA 13 (KA 28 (KA 29 (KA 30 Keeps.nil))))))))) ?_
     refine seqR (S Mv (S NB (nil ?_)));refine cE hE (fun hc78 hE=>?_) (fun hc78 hE=>?_)
     ·refine seqR (S BU ?_);refine Sf ?_;refine S As (nil ?_);exact rt hE
     refine sk hK72 ?_;clear hK72 K72;refine region ?_;refine SI ?_;refine S Mv (nil ?_);exact hK66 _ (n66,(s30_67+1),y68_l0) Weak.toA hE (Nat.lt_succ_self _)
    refine AWp.exit ?_;exact hK6 _ y68_l0 Weak.toA hE
 rintro y7_l0 hE;try dsimp only at hE
 unfold coerce_coercer_object_j6 at hE;refine seqR (S BU ?_);refine Sl ?_;refine AOps.tok 5 fun tk14_9 htk14_9=>?_;obtain⟨ne_tk14_9_c0,htk14_9⟩:=Heap.set_fresh htk14_9;have ne_tk14_9_gT:tk14_9≠gT:=fun e_=>by subst e_; simp_all
 refine AOps.relocal 1 _ rfl (fun j w cs hh hx=>tok_cell 3 5 5 hh (t:=tk14_9) hpG hx rfl) ?_;refine AOps.tok 1 fun tk14_10 htk14_10=>?_;obtain⟨ne_tk14_10_tk14_9,htk14_10⟩:=Heap.set_fresh htk14_10;obtain⟨ne_tk14_10_c0,htk14_10⟩:=Heap.set_fresh htk14_10;have ne_tk14_10_gT:tk14_10≠gT:=fun e_=>by subst e_; simp_all
 refine AOps.relocal 1 _ rfl (fun j w cs hh hx=>tok_cell 4 1 1 hh (t:=tk14_10) hpG hx rfl) ?_;refine Sf ?_;refine AOps.relocal 1 _ rfl (fun j w cs hh hx=>tok_cell 3 5 5 hh (t:=tk14_9) hpG hx rfl) ?_;refine AOps.relocal 1 _ rfl (fun j w cs hh hx=>tok_cell 4 1 1 hh (t:=tk14_10) hpG hx rfl) ?_;refine nil ?_;refine seqJ (TA 8 (TA 14 KeepsT.nil)) (fun(z:Z1×Z10×Z10)=>[]) (fun z=>[Z10.c z.2.1,((intE .i64) z.2.2.FKind++(intE .i64) z.2.2.FInt++strE z.2.2.FText++[Sl.d 5 Z10.c (some tk14_9) z.2.2.FItems]++[Sl.d 1 strE (some tk14_10) z.2.2.FKeys])]) (fun z=>(((H.set c0 (some (.cells (Z1.c z.1)))).set tk14_9 (some (.tok 5 z.2.2.FItems.l.length))).set tk14_10 (some (.tok 1 z.2.2.FKeys.l.length)))) (fun z=>coerce_coercer_object_j11 z.1 z.2.1 z.2.2=some r) ?_ ?_
 ·intro K11 hK11;refine seqR (S Fv (S Ld ?_));refine sLen (f:=Z7.c) (s:=a1.FInputs) (TK rfl) rfl rfl rfl rfl fun hL17=>?_;refine S Mv (nil ?_);refine block ?_;refine loopO (TA 0 (TA 3 (TA 5 (TA 6 (TA 8 (TA 14 (TA 47 (TA 48 KeepsT.nil)))))))) (fun(z:Nat×Nat×Z1×Z10×Z10)=>[(49,.a (.d (.int .i64 ((z.2.1:Nat):Int))))]) (fun z=>[Z10.c z.2.2.2.1,((intE .i64) z.2.2.2.2.FKind++(intE .i64) z.2.2.2.2.FInt++strE z.2.2.2.2.FText++[Sl.d 5 Z10.c (some tk14_9) z.2.2.2.2.FItems]++[Sl.d 1 strE (some tk14_10) z.2.2.2.2.FKeys])]) (fun z=>(((H.set c0 (some (.cells (Z1.c z.2.2.1)))).set tk14_9 (some (.tok 5 z.2.2.2.2.FItems.l.length))).set tk14_10 (some (.tok 1 z.2.2.2.2.FKeys.l.length)))) (fun z=>z.1) (fun z=>coerce_coercer_object_l18 a1 a2 a3 (Z28_n n) (coerce_coercer_at_n n) z.1 z.2.1 z.2.2.1 z.2.2.2.1 z.2.2.2.2=some r) ((a1.FInputs.l.length+1),0,a0,y7_l0,(Z10.mk (6:Int) (0:Int) ([]:Bs) true ([]) (Sl.nil:Sl Bs))) hE Weak.toA ?_
  rintro ⟨n18,s49_19,y20_c0,y21_l0,y22_l1⟩ hE K18 hK18;try dsimp only at hE
  cases n18 with
  | zero=>cases hE
  | succ n18 =>
    rw [coerce_coercer_object_l18] at hE;refine seqR (S BI (nil ?_));refine seqK fun K24 hK24=>?_;refine cE hE (fun hc25 hE=>?_) (fun hc25 hE=>?_)
    ·try dsimp only at hc25
     have hf25:=of_decide_eq_true hc25;refine sk hK24 ?_;clear hK24 K24;refine seqJ (TA 0 (TA 3 (TA 5 (TA 6 (TA 8 (TA 14 (TA 47 (TA 48 (TA 49 KeepsT.nil))))))))) (fun(z:Z1×Z10×Z10)=>[]) (fun z=>[Z10.c z.2.1,((intE .i64) z.2.2.FKind++(intE .i64) z.2.2.FInt++strE z.2.2.FText++[Sl.d 5 Z10.c (some tk14_9) z.2.2.FItems]++[Sl.d 1 strE (some tk14_10) z.2.2.FKeys])]) (fun z=>(((H.set c0 (some (.cells (Z1.c z.1)))).set tk14_9 (some (.tok 5 z.2.2.FItems.l.length))).set tk14_10 (some (.tok 1 z.2.2.FKeys.l.length)))) (fun z=>coerce_coercer_object_j26 s49_19 ((coerce_coercer_object_l18 a1 a2 a3 (Z28_n n) (coerce_coercer_at_n n) n18)) z.1 z.2.1 z.2.2=some r) ?_ ?_
     ·intro K26 hK26;refine block ?_;refine seqR (S Mv ?_);obtain⟨x31,gx31,hE⟩:=bO hE;refine S (ix Z7.c s49_19 gx31) (S Ld ?_);refine Sl ?_;refine S As ?_;refine Sf ?_;refine nil ?_;refine freezeA 16 _ rfl (KA 0 (KA 3 (KA 5 (KA 6 (KA 8 (KA 14 (KA 15 (KA 47 (KA 48 (KA 49 Keeps.nil)))))))))) ?_;refine seqK fun K32 hK32=>?_;refine AWp.seqD (Sd Fv (Sd Ld (Sd Mv ?_)));obtain⟨x34,gx34,hE⟩:=bO hE;refine DOps.s0 (partM (f:=Z7.c) (l:=none) (r:=(some ((s49_19:Nat):Int))) (TK rfl) rfl (TK rfl) rfl rfl trivial rfl gx34) rfl ?_
      refine Sd Fv (Sd Ld ?_);obtain⟨x35,gx35,hE⟩:=bO hE;refine Scd rfl rfl (Z115_walk gx35) ?_;refine Sd Mv (Sd EX (Sd EX ?_));refine DOps.sB (TK rfl) rfl rfl ?_ (by repeat (first|exact Snoc.nil|apply Snoc.cons));refine DOps.sLn (storeLFA (TK rfl) rfl rfl rfl rfl rfl) ?_;refine Sd As ?_;refine DOps.nil (by decide +kernel) ?_;refine freezeA 17 _ rfl (KA 0 (KA 3 (KA 5 (KA 6 (KA 8 (KA 14 (KA 16 (KA 18 (KA 47 (KA 48 (KA 49 Keeps.nil))))))))))) ?_
      refine seqR (S Mv (nil ?_));refine cE hE (fun hc37 hE=>?_) (fun hc37 hE=>?_)
      ·refine AWp.exit ?_;exact hK26 _ (y20_c0,y21_l0,y22_l1) Weak.toA hE
      refine sk hK32 ?_;clear hK32 K32;refine seqR (S Ld (S Fv (S Ld ?_)));obtain⟨x39,gx39,hE⟩:=bO hE;refine Sc rfl rfl (Z153_walk gx39) ?_;refine S Mv (S EX (S EX ?_));refine Sl ?_;refine Sf ?_;refine S As (nil ?_);refine freezeA 19 _ rfl (KA 0 (KA 3 (KA 5 (KA 6 (KA 8 (KA 14 (KA 16 (KA 20 (KA 47 (KA 48 (KA 49 Keeps.nil))))))))))) ?_;refine seqR ?_;refine Sl ?_;refine nil ?_;refine seqR (S As (nil ?_))
      refine seqJ (TA 0 (TA 3 (TA 5 (TA 6 (TA 8 (TA 14 (TA 16 (TA 21 (TA 47 (TA 48 (TA 49 KeepsT.nil))))))))))) (fun(z:Int×Z1×Z10)=>[(22,.a (.d (.int .i64 z.1)))]) (fun z=>[Z10.c y21_l0,((intE .i64) y22_l1.FKind++(intE .i64) y22_l1.FInt++strE y22_l1.FText++[Sl.d 5 Z10.c (some tk14_9) y22_l1.FItems]++[Sl.d 1 strE (some tk14_10) y22_l1.FKeys]),Z10.c z.2.2]) (fun z=>(((H.set c0 (some (.cells (Z1.c z.2.1)))).set tk14_9 (some (.tok 5 y22_l1.FItems.l.length))).set tk14_10 (some (.tok 1 y22_l1.FKeys.l.length)))) (fun z=>coerce_coercer_object_j42 s49_19 y21_l0 y22_l1 x31 ((coerce_coercer_object_l18 a1 a2 a3 (Z28_n n) (coerce_coercer_at_n n) n18)) z.1 z.2.1 z.2.2=some r) ?_ ?_
      ·intro K42 hK42;refine block ?_;refine seqR (S Mv (S Mv (G0 Mv (G0 Ld ?_))));obtain⟨x53,gx53,hE⟩:=gO hE;refine gC rfl rfl (fun hC=>ungdA (k:=75) rfl (ungdA (k:=76) rfl (callR rfl rfl (Z27_walk (gx53 hC) _ hpG)))) rfl ?_;refine G1 77 rfl NB ?_;refine S PA (S As (nil ?_));refine cE hE (fun hc54 hE=>?_) (fun hc54 hE=>?_)
       ·refine region ?_;refine S Mv (S Fv (S Ld (S Ld (S Mv ?_))));obtain⟨x55,gx55,hE⟩:=bO hE;refine s0 (addM rfl rfl gx55) rfl ?_;obtain⟨x56,gx56,hE⟩:=bO hE;refine sH (callH rfl rfl (ih_82 (gT:=gT) (oT:=oT) gx56 _ hpG hpG (by assumption))) rfl ?_;refine hq (((H.set c0 (some (.cells (Z1.c x56.2.2)))).set tk14_9 (some (.tok 5 y22_l1.FItems.l.length))).set tk14_10 (some (.tok 1 y22_l1.FKeys.l.length))) ?_
        refine S Mv (S EX (S EX ?_));refine Sf ?_;refine S As (nil ?_);exact hK42 _ (x56.2.1,x56.2.2,x56.1) Weak.toA hE
       refine seqR (S Fv (S Ld (S As (nil ?_))));refine cE hE (fun hc58 hE=>?_) (fun hc58 hE=>?_)
       ·refine region ?_;refine S Mv (S Ld (S Mv ?_));obtain⟨x59,gx59,hE⟩:=bO hE;refine s0 (addM rfl rfl gx59) rfl ?_;obtain⟨x60,gx60,hE⟩:=bO hE;refine sH (callH rfl rfl (ih_167 (gT:=gT) (oT:=oT) gx60 _ hpG hpG (by assumption))) rfl ?_;refine hq (((H.set c0 (some (.cells (Z1.c x60.2.2)))).set tk14_9 (some (.tok 5 y22_l1.FItems.l.length))).set tk14_10 (some (.tok 1 y22_l1.FKeys.l.length))) ?_;refine S Mv (S EX (S EX ?_))
        refine Sf ?_;refine S As (nil ?_);exact hK42 _ (x60.2.1,x60.2.2,x60.1) Weak.toA hE
       refine seqR (S Fv (S Ld ?_));obtain⟨x62,gx62,hE⟩:=bO hE;refine Sc rfl rfl (Z144_walk gx62) ?_;refine S As (nil ?_);refine cE hE (fun hc63 hE=>?_) (fun hc63 hE=>?_)
       ·refine region ?_;refine S As (nil ?_);exact hK42 _ ((22:Int),y20_c0,Z10.zero) Weak.toA hE
       refine AWp.exit ?_;exact hK26 _ (y20_c0,y21_l0,y22_l1) Weak.toA hE
      rintro ⟨s22_43,y44_c0,y45_l2⟩ hE;try dsimp only at hE
      unfold coerce_coercer_object_j42 at hE;refine seqK fun K46 hK46=>?_;refine seqR (S Mv (S BI (nil ?_)));refine cE hE (fun hc48 hE=>?_) (fun hc48 hE=>?_)
      ·refine seqR (S BU (S Mv ?_));refine Sf ?_;refine S As (nil ?_);refine AWp.ret ?_;repeat (first|refine xBlock_ret ?_|refine xThen_ret ?_)
       obtain rfl:=Option.some.inj hE;refine retQ.retF (H.set c0 (some (.cells (Z1.c y44_c0)))) rfl ⟨rfl,rfl⟩ ?_;intro id_ o_ he_;have e_tk14_9:id_≠tk14_9:=fun e_=>by subst e_; simp_all [Heap.set]
       have e_tk14_10:id_≠tk14_10:=fun e_=>by subst e_; simp_all [Heap.set]
       rw [<- he_];simp only [Heap.set] at he_ ⊢
       (repeat' split)<;>simp_all
      refine sk hK46 ?_;clear hK46 K46;refine AWp.draw rfl ?_;refine Sd FL (Sd LL (Sd Fv (Sd Ld (Sd BV ?_))));obtain⟨x50,gx50,hE⟩:=bO hE;refine DOps.sH (appM (f:=strE) (TK rfl) rfl (TK rfl) (TK rfl) ⟨_,rfl⟩ rfl rfl (by decide) rfl rfl rfl rfl hpG rfl gx50) rfl ?_;refine DOps.Dh (((H.set c0 (some (.cells (Z1.c y44_c0)))).set tk14_9 (some (.tok 5 y22_l1.FItems.l.length))).set tk14_10 (some (.tok 1 x50.l.length))) ?_
      refine Sd FL (Sd LL (Sd LL (Sd BV ?_)));obtain⟨x51,gx51,hE⟩:=bO hE;refine DOps.sH (appM (f:=Z10.c) (TK rfl) rfl (TK rfl) (TK rfl) ⟨_,rfl⟩ rfl rfl (by decide) rfl rfl rfl rfl hpG rfl gx51) rfl ?_;refine DOps.Dh (((H.set c0 (some (.cells (Z1.c y44_c0)))).set tk14_9 (some (.tok 5 x51.l.length))).set tk14_10 (some (.tok 1 x50.l.length))) ?_;refine Sd FL ?_;refine DOps.sLn (storeL1 (TK rfl) rfl rfl rfl rfl (by repeat (first|exact SetAt.zero|apply SetAt.succ)) (by repeat (first|exact SetAt.zero|apply SetAt.succ))) ?_
      refine Sd FL ?_;refine DOps.sLn (storeL1 (TK rfl) rfl rfl rfl rfl (by repeat (first|exact SetAt.zero|apply SetAt.succ)) (by repeat (first|exact SetAt.zero|apply SetAt.succ))) ?_;refine DOps.nil (by decide +kernel) ?_;exact hK26 _ (y44_c0,y21_l0,(Z10.mk y22_l1.FKind y22_l1.FInt y22_l1.FText x51.nl x51.l x50)) Weak.toA hE
     rintro ⟨y27_c0,y28_l0,y29_l1⟩ hE;try dsimp only at hE
     unfold coerce_coercer_object_j26 at hE;refine region ?_;refine SI ?_;refine S Mv (nil ?_);exact hK18 _ (n18,(s49_19+1),y27_c0,y28_l0,y29_l1) Weak.toA hE (Nat.lt_succ_self _)
    refine AWp.exit ?_;exact hK11 _ (y20_c0,y21_l0,y22_l1) Weak.toA hE
 rintro ⟨y12_c0,y13_l0,y14_l1⟩ hE;try dsimp only at hE
 unfold coerce_coercer_object_j11 at hE;refine seqK fun K15 hK15=>?_;refine AWp.relocal 1 _ rfl (fun j w cs hh hx=>untok_cell 3 hx rfl) ?_;refine AWp.relocal 1 _ rfl (fun j w cs hh hx=>untok_cell 4 hx rfl) ?_;refine AWp.relocal 1 (Z10.c y14_l1) rfl (fun j w cs hh hx=>by rw [Z10.cu_eq]; exact hx) ?_;refine region ?_;refine S LL ?_;refine Sf ?_;refine S As (nil ?_);refine hK15 _ ?_;clear hK15 K15;refine AWp.ret ?_
 repeat (first|refine xBlock_ret ?_|refine xThen_ret ?_)
 obtain rfl:=Option.some.inj hE;refine retQ.retF (H.set c0 (some (.cells (Z1.c y12_c0)))) rfl ⟨rfl,rfl⟩ ?_;intro id_ o_ he_;have e_tk14_9:id_≠tk14_9:=fun e_=>by subst e_; simp_all [Heap.set]
 have e_tk14_10:id_≠tk14_10:=fun e_=>by subst e_; simp_all [Heap.set]
 rw [<- he_];simp only [Heap.set] at he_ ⊢
 (repeat' split)<;>simp_all
theorem Z28_step (n:Nat) (ih_82:∀{a0:Z1}{a1:TRef}{a2:Z10}{a3:Int}{oT:Ab.Obj}{c0 gT:Nat}{r:Z10×Int×Z1},coerce_coercer_at_n n a0 a1 a2 a3=some r->∀(H:Heap) (hc0:H c0=some (.cells (Z1.c a0))) (hgT:H gT=some oT) (hoT:IsTab Tryz.prog oT),ACalls Tryz.prog 82 [.d (.ptr c0 0),.agg (TRef.c a1),.agg (Z10.c a2),.d (.int .i64 a3)] H fun v h'=>v=.tup [.agg (Z10.c r.1),.d (.int .i64 r.2.1)]/\h'=(H.set c0 (some (.cells (Z1.c r.2.2))))) (ih_132:∀{a0:Z1}{a1:TRef}{a2:Z10}{a3:Int}{oT:Ab.Obj}{c0 gT:Nat}{r:Z10×Int×Z1},coerce_coercer_list_n n a0 a1 a2 a3=some r->∀(H:Heap) (hc0:H c0=some (.cells (Z1.c a0))) (hgT:H gT=some oT) (hoT:IsTab Tryz.prog oT),ACalls Tryz.prog 132 [.d (.ptr c0 0),.agg (TRef.c a1),.agg (Z10.c a2),.d (.int .i64 a3)] H fun v h'=>v=.tup [.agg (Z10.c r.1),.d (.int .i64 r.2.1)]/\h'=(H.set c0 (some (.cells (Z1.c r.2.2))))) (ih_133:∀{a0:Z1}{a1:TDef}{a2:Z10}{a3:Int}{oT:Ab.Obj}{c0 gT:Nat}{r:Z10×Int×Z1},coerce_coercer_object_n n a0 a1 a2 a3=some r->∀(H:Heap) (hc0:H c0=some (.cells (Z1.c a0))) (hgT:H gT=some oT) (hoT:IsTab Tryz.prog oT),ACalls Tryz.prog 133 [.d (.ptr c0 0),.agg (TDef.c a1),.agg (Z10.c a2),.d (.int .i64 a3)] H fun v h'=>v=.tup [.agg (Z10.c r.1),.d (.int .i64 r.2.1)]/\h'=(H.set c0 (some (.cells (Z1.c r.2.2))))) (ih_167:∀{a0:Z1}{a1:Z7}{a2:Int}{oT:Ab.Obj}{c0 gT:Nat}{r:Z10×Int×Z1},Z28_n n a0 a1 a2=some r->∀(H:Heap) (hc0:H c0=some (.cells (Z1.c a0))) (hgT:H gT=some oT) (hoT:IsTab Tryz.prog oT),ACalls Tryz.prog 167 [.d (.ptr c0 0),.agg (Z7.c a1),.d (.int .i64 a2)] H fun v h'=>v=.tup [.agg (Z10.c r.1),.d (.int .i64 r.2.1)]/\h'=(H.set c0 (some (.cells (Z1.c r.2.2))))):∀{a0:Z1}{a1:Z7}{a2:Int}{oT:Ab.Obj}{c0 gT:Nat}{r:Z10×Int×Z1},Z28_n (n+1) a0 a1 a2=some r->∀(H:Heap) (hc0:H c0=some (.cells (Z1.c a0))) (hgT:H gT=some oT) (hoT:IsTab Tryz.prog oT),ACalls Tryz.prog 167 [.d (.ptr c0 0),.agg (Z7.c a1),.d (.int .i64 a2)] H fun v h'=>v=.tup [.agg (Z10.c r.1),.d (.int .i64 r.2.1)]/\h'=(H.set c0 (some (.cells (Z1.c r.2.2)))):=by
 intro a0 a1 a2 oT c0 gT r hE H hc0 hgT hoT;rw [Z28_n] at hE
 apply ACalls.of_wpD (fn:=Tryz.f167) (c:=_) Tryz.tab_ok (fun _ _=>Tryz.call167 _ _) Tryz.func167 rfl (n:=35) rfl (rs:=[.cell 6 86,.tmp 7]) rfl rfl
 have ne_gT_c0:gT≠c0:=fun e_=>by subst e_; obtain⟨_,_,_,e2_,_⟩:=hoT; simp_all
 refine Via.heqA (h':=(H.set c0 (some (.cells (Z1.c a0))))) (by funext n_; simp only [Heap.set]; (repeat' split)<;>simp_all) ?_;refine Via.seqK fun K1 hK1=>?_;refine region ?_;refine S BX (S BX ?_);refine Sl ?_;refine S As (nil ?_);refine hK1 _ ?_;refine Via.seqK fun K2 hK2=>?_;refine AWp.draw rfl ?_;refine Sd Ld (Sd NP ?_);refine DOps.s0 (fieldP (TK rfl) rfl rfl (TK rfl) rfl rfl) rfl ?_;refine DOps.s0 (loadP (TK rfl) rfl rfl hpG rfl) rfl ?_
 refine Sd Ld (Sd NP ?_);refine DOps.s0 (fieldP (TK rfl) rfl rfl (TK rfl) rfl rfl) rfl ?_;refine DOps.s0 (loadP (TK rfl) rfl rfl hpG rfl) rfl ?_;refine DOps.sB (TK rfl) rfl rfl ?_ (by repeat (first|exact Snoc.nil|apply Snoc.cons));refine DOps.sB (TK rfl) rfl rfl ?_ (by repeat (first|exact Snoc.nil|apply Snoc.cons));refine DOps.sLn (storeLFA (TK rfl) rfl rfl rfl rfl rfl) ?_;refine DOps.sLn (storeL1 (TK rfl) rfl rfl rfl rfl (by repeat (first|exact SetAt.zero|apply SetAt.succ)) (by repeat (first|exact SetAt.zero|apply SetAt.succ))) ?_
 refine DOps.nil (by decide +kernel) ?_;refine hK2 _ ?_;clear hK2 K2;refine Via.freeze 9 _ rfl (by repeat (first|exact Snoc.nil|apply Snoc.cons)) (KA 2 (KA 3 (KA 4 (KA 6 (KA 8 Keeps.nil))))) ?_;refine Via.freeze 8 _ rfl (by repeat (first|exact Snoc.nil|apply Snoc.cons)) (KA 2 (KA 3 (KA 4 (KA 6 (KA 9 Keeps.nil))))) ?_;refine Via.seqK fun K3 hK3=>?_;refine AWp.draw rfl ?_;refine Sd Ld (Sd Ld (Sd BU (Sd NP ?_)))
 refine DOps.s0 (fieldP (TK rfl) rfl rfl (TK rfl) rfl rfl) rfl ?_;refine DOps.sHn (storeP' (TK rfl) rfl rfl hpG rfl (Nat.le_of_ble_eq_true rfl) rfl rfl) rfl rfl ?_;refine DOps.Dh (H.set c0 (some (.cells (Z1.c (Z1.mk a0.Fd (Z10.mk (0:Int) (0:Int) ([]:Bs) true ([]) (Sl.nil:Sl Bs)) a0.Fliteral a0.Fnodes))))) ?_;refine Sd NP ?_;refine DOps.s0 (fieldP (TK rfl) rfl rfl (TK rfl) rfl rfl) rfl ?_;refine DOps.sHn (storeP1 (TK rfl) rfl rfl hpG rfl (by repeat (first|exact SetAt.zero|apply SetAt.succ))) rfl rfl ?_
 refine DOps.Dh (H.set c0 (some (.cells (Z1.c (Z1.mk a0.Fd (Z10.mk (0:Int) (0:Int) ([]:Bs) true ([]) (Sl.nil:Sl Bs)) true a0.Fnodes))))) ?_;refine DOps.nil (by decide +kernel) ?_;refine hK3 _ ?_;refine Via.done ⟨_,rfl,rfl,fun amb=>?_⟩;refine seqR (S Ld (S Fv (S Ld (S Fv (S Ld (S Mv ?_))))));obtain⟨x5,gx5,hE⟩:=bO hE;refine sH (callH rfl rfl (ih_82 (gT:=gT) (oT:=oT) gx5 _ hpG hpG (by assumption))) rfl ?_
 refine hq (H.set c0 (some (.cells (Z1.c x5.2.2)))) ?_;refine S EX (S EX ?_);refine Sf ?_;refine S As (nil ?_);obtain⟨x6,gx6,hE⟩:=bO hE;refine AWp.ret ?_;repeat (first|refine xBlock_ret ?_|refine xThen_ret ?_|refine xBlock_normal ?_|refine xThen_exit ?_|refine xBlock_exit ?_)
 refine⟨.inr rfl, ?_⟩;obtain rfl:=Option.some.inj hE;refine ACallsD.mono (Z29_walk gx6 _ hpG) fun _ _ ⟨_,e_⟩=>?_;subst e_;refine⟨_,(H.set c0 (some (.cells (Z1.c x6)))),rfl, ?_,⟨rfl,rfl⟩⟩;refine fun id_ o_ he_=>?_;rw [<- he_]; clear he_;exact congrFun (by first|rfl|exact(Heap.set_set _ _ _ _).symm|(rw [Heap.set_set]; rfl)|(funext n_; simp only [Heap.set]; (repeat' split)<;>first|rfl|(exfalso; simp_all; done)|(simp_all; done))) id_
theorem coerce_coercer_at_all:∀(n:Nat),(∀{a0:Z1}{a1:TRef}{a2:Z10}{a3:Int}{oT:Ab.Obj}{c0 gT:Nat}{r:Z10×Int×Z1},coerce_coercer_at_n n a0 a1 a2 a3=some r->∀(H:Heap) (hc0:H c0=some (.cells (Z1.c a0))) (hgT:H gT=some oT) (hoT:IsTab Tryz.prog oT),ACalls Tryz.prog 82 [.d (.ptr c0 0),.agg (TRef.c a1),.agg (Z10.c a2),.d (.int .i64 a3)] H fun v h'=>v=.tup [.agg (Z10.c r.1),.d (.int .i64 r.2.1)]/\h'=(H.set c0 (some (.cells (Z1.c r.2.2)))))/\(∀{a0:Z1}{a1:TRef}{a2:Z10}{a3:Int}{oT:Ab.Obj}{c0 gT:Nat}{r:Z10×Int×Z1},coerce_coercer_list_n n a0 a1 a2 a3=some r->∀(H:Heap) (hc0:H c0=some (.cells (Z1.c a0))) (hgT:H gT=some oT) (hoT:IsTab Tryz.prog oT),ACalls Tryz.prog 132 [.d (.ptr c0 0),.agg (TRef.c a1),.agg (Z10.c a2),.d (.int .i64 a3)] H fun v h'=>v=.tup [.agg (Z10.c r.1),.d (.int .i64 r.2.1)]/\h'=(H.set c0 (some (.cells (Z1.c r.2.2)))))/\(∀{a0:Z1}{a1:TDef}{a2:Z10}{a3:Int}{oT:Ab.Obj}{c0 gT:Nat}{r:Z10×Int×Z1},coerce_coercer_object_n n a0 a1 a2 a3=some r->∀(H:Heap) (hc0:H c0=some (.cells (Z1.c a0))) (hgT:H gT=some oT) (hoT:IsTab Tryz.prog oT),ACalls Tryz.prog 133 [.d (.ptr c0 0),.agg (TDef.c a1),.agg (Z10.c a2),.d (.int .i64 a3)] H fun v h'=>v=.tup [.agg (Z10.c r.1),.d (.int .i64 r.2.1)]/\h'=(H.set c0 (some (.cells (Z1.c r.2.2)))))/\(∀{a0:Z1}{a1:Z7}{a2:Int}{oT:Ab.Obj}{c0 gT:Nat}{r:Z10×Int×Z1},Z28_n n a0 a1 a2=some r->∀(H:Heap) (hc0:H c0=some (.cells (Z1.c a0))) (hgT:H gT=some oT) (hoT:IsTab Tryz.prog oT),ACalls Tryz.prog 167 [.d (.ptr c0 0),.agg (Z7.c a1),.d (.int .i64 a2)] H fun v h'=>v=.tup [.agg (Z10.c r.1),.d (.int .i64 r.2.1)]/\h'=(H.set c0 (some (.cells (Z1.c r.2.2)))))
 | 0=>⟨fun hE=>by first|cases hE|(rw [coerce_coercer_at_n] at hE; cases hE),fun hE=>by first|cases hE|(rw [coerce_coercer_list_n] at hE; cases hE),fun hE=>by first|cases hE|(rw [coerce_coercer_object_n] at hE; cases hE),fun hE=>by first|cases hE|(rw [Z28_n] at hE; cases hE)⟩
 | n+1=>⟨coerce_coercer_at_step n (coerce_coercer_at_all n).1 (coerce_coercer_at_all n).2.1 (coerce_coercer_at_all n).2.2.1 (coerce_coercer_at_all n).2.2.2,coerce_coercer_list_step n (coerce_coercer_at_all n).1 (coerce_coercer_at_all n).2.1 (coerce_coercer_at_all n).2.2.1 (coerce_coercer_at_all n).2.2.2,coerce_coercer_object_step n (coerce_coercer_at_all n).1 (coerce_coercer_at_all n).2.1 (coerce_coercer_at_all n).2.2.1 (coerce_coercer_at_all n).2.2.2,Z28_step n (coerce_coercer_at_all n).1 (coerce_coercer_at_all n).2.1 (coerce_coercer_at_all n).2.2.1 (coerce_coercer_at_all n).2.2.2⟩
def coerce_coercer_at (a0:Z1) (a1:TRef) (a2:Z10) (a3:Int):Option (Z10×Int×Z1):=coerce_coercer_at_n F0 a0 a1 a2 a3
theorem coerce_coercer_at_walk {a0:Z1}{a1:TRef}{a2:Z10}{a3:Int}{oT:Ab.Obj}{c0 gT:Nat}{r:Z10×Int×Z1}(hE:coerce_coercer_at a0 a1 a2 a3=some r) (H:Heap) (hc0:H c0=some (.cells (Z1.c a0))) (hgT:H gT=some oT) (hoT:IsTab Tryz.prog oT):ACalls Tryz.prog 82 [.d (.ptr c0 0),.agg (TRef.c a1),.agg (Z10.c a2),.d (.int .i64 a3)] H fun v h'=>v=.tup [.agg (Z10.c r.1),.d (.int .i64 r.2.1)]/\h'=(H.set c0 (some (.cells (Z1.c r.2.2)))):=(coerce_coercer_at_all F0).1 hE H hc0 hgT hoT
end Go.Proofs

namespace Go.Proofs
open Go Go.Ab
open AOps Cert AWp Keeps KeepsT
variable {lou:Lou}
def Z23 (a0:TDoc) (a1:TRef) (a2:Z10) (a3:Z10):Option (Z10×Int):=(Z27 (Z1.mk a0 a3 true (0:Int)) a2).bind fun x6=>bif x6 then((Z116 a0 a1.FName).bind fun x10=>bif (!x10) then(some ((Z10.mk (0:Int) (0:Int) ([]:Bs) true ([]) (Sl.nil:Sl Bs)),(10:Int))) else(some ((Z10.mk (0:Int) (0:Int) ([]:Bs) true ([]) (Sl.nil:Sl Bs)),(8:Int)))) else((coerce_coercer_at (Z1.mk a0 a3 true (0:Int)) a1 a2 (1:Int)).bind fun x15=>(Z31 x15.1 x15.2.1).bind fun x16=>some (x16.1,x16.2))
theorem Z23_walk {a0:TDoc}{a1:TRef}{a2 a3:Z10}{oT:Ab.Obj}{gT:Nat}{r:Z10×Int}(hE:Z23 a0 a1 a2 a3=some r) (H:Heap) (hgT:H gT=some oT) (hoT:IsTab Tryz.prog oT):ACalls Tryz.prog 37 [.agg (TDoc.c a0),.agg (TRef.c a1),.agg (Z10.c a2),.agg (Z10.c a3)] H fun v h'=>v=.tup [.agg (Z10.c r.1),.d (.int .i64 r.2)]/\h'=H:=by
 unfold Z23 at hE;refine ACalls.oW 34 [.cell 8 86,.tmp 9] Tryz.call37 Tryz.func37 ?_;refine seqR (S BX (S BX (S BX (S BX ?_))));refine Sl ?_;refine S As (nil ?_);refine seqR (S Ld (S Ld (S BU ?_)));refine sE (StepE.boxO rfl) rfl (fun _ _ _ ⟨id14_3,hid14_3,e1,e2,e3⟩=>?_); subst e1 e2 e3;have ne_id14_3_gT:id14_3≠gT:=fun e_=>by subst e_; simp_all
 refine hq (H.set id14_3 (some (.cells (Z1.c (Z1.mk a0 a3 true (0:Int)))))) ?_;refine S As (nil ?_);refine seqK fun K4 hK4=>?_;refine seqR (S Mv (S Ld ?_));obtain⟨x6,gx6,hE⟩:=bO hE;refine s0 (callR rfl rfl (Z27_walk gx6 _ hpG)) rfl ?_;refine nil ?_;refine cE hE (fun hc7 hE=>?_) (fun hc7 hE=>?_)
 ·refine seqK fun K8 hK8=>?_;refine seqR (S Ld (S Fv (S Ld ?_)));obtain⟨x10,gx10,hE⟩:=bO hE;refine Sc rfl rfl (Z116_walk gx10) ?_;refine S NB (nil ?_);refine cE hE (fun hc11 hE=>?_) (fun hc11 hE=>?_)
  ·refine seqR (S BU ?_);refine Sf ?_;refine S As (nil ?_);refine AWp.ret ?_;repeat (first|refine xBlock_ret ?_|refine xThen_ret ?_)
   obtain rfl:=Option.some.inj hE;refine retQ.retF H rfl ⟨rfl,rfl⟩ ?_
   first|exact Heap.sub_set hid14_3|(simp only [Heap.set_set]; exact Heap.sub_set hid14_3)
  refine sk hK8 ?_;clear hK8 K8;refine seqR (S BU ?_);refine Sf ?_;refine S As (nil ?_);refine AWp.ret ?_;repeat (first|refine xBlock_ret ?_|refine xThen_ret ?_)
  obtain rfl:=Option.some.inj hE;refine retQ.retF H rfl ⟨rfl,rfl⟩ ?_
  first|exact Heap.sub_set hid14_3|(simp only [Heap.set_set]; exact Heap.sub_set hid14_3)
 refine sk hK4 ?_;clear hK4 K4;refine seqR (S Mv (S Ld (S Ld ?_)));obtain⟨x15,gx15,hE⟩:=bO hE;refine sH (callH rfl rfl (coerce_coercer_at_walk (gT:=gT) (oT:=oT) gx15 _ hpG hpG (by assumption))) rfl ?_;refine hq (H.set id14_3 (some (.cells (Z1.c x15.2.2)))) ?_;refine S EX (S EX ?_);obtain⟨x16,gx16,hE⟩:=bO hE;refine Sc rfl rfl (Z31_walk gx16) ?_;refine S EX (S EX ?_);refine Sf ?_;refine S As (nil ?_)
 refine AWp.ret ?_;repeat (first|refine xBlock_ret ?_|refine xThen_ret ?_)
 obtain rfl:=Option.some.inj hE;refine retQ.retF H rfl ⟨rfl,rfl⟩ ?_
 first|exact Heap.sub_set hid14_3|(simp only [Heap.set_set]; exact Heap.sub_set hid14_3)
def Z22 (a0:Z7) (a1:Bs) (a2:TDoc) (a3:(Sl Z4)):Option (Sl Z4):=bif (!a0.FHas) then(some a3) else((Z23 a2 a0.FType a0.FDefault (Z10.mk (0:Int) (0:Int) ([]:Bs) true ([]) (Sl.nil:Sl Bs))).bind fun x6=>bif (!decide (x6.2=(0:Int))) then((appC 24 a3 (⟨false,[(Z4.mk (23:Int) a1)]⟩:Sl Z4)).bind fun x9=>some x9) else(some a3))
theorem Z22_walk {a0:Z7}{a1:Bs}{a2:TDoc}{a3:Sl Z4}{oT:Ab.Obj}{c3 c3_g gT:Nat}{r:Sl Z4}(hE:Z22 a0 a1 a2 a3=some r) (H:Heap) (hc3:H c3=some (.cells [Sl.d 2 Z4.c (some c3_g) a3])) (ht3:H c3_g=some (.tok 2 a3.l.length)) (hgT:H gT=some oT) (hoT:IsTab Tryz.prog oT):ACalls Tryz.prog 36 [.agg (Z7.c a0),.d (.str a1),.d (.view (TDoc.c a2)),.d (.ptr c3 0)] H fun v h'=>v=.tup []/\h'=((H.set c3_g (some (.tok 2 r.l.length))).set c3 (some (.cells [Sl.d 2 Z4.c (some c3_g) r]))):=by
 unfold Z22 at hE;refine ACalls.oW 28 [] Tryz.call36 Tryz.func36 ?_;have ne_c3_c3_g:c3≠c3_g:=fun e_=>by subst e_; simp_all
 have ne_gT_c3_g:gT≠c3_g:=fun e_=>by subst e_; obtain⟨_,_,_,e2_,_⟩:=hoT; simp_all
 have ne_gT_c3:gT≠c3:=fun e_=>by subst e_; obtain⟨_,_,_,e2_,_⟩:=hoT; simp_all
 refine AWp.heqA (h':=((H.set c3_g (some (.tok 2 a3.l.length))).set c3 (some (.cells ([Sl.d 2 Z4.c (some c3_g) a3]))))) (by funext n_; simp only [Heap.set]; (repeat' split)<;>simp_all) ?_;refine seqR (S BX (nil ?_));refine seqK fun K2 hK2=>?_;refine seqR (S Fv (S Ld (S NB (nil ?_))));refine cE hE (fun hc4 hE=>?_) (fun hc4 hE=>?_)
 ·exact rt hE
 refine sk hK2 ?_;clear hK2 K2;refine seqR (S Ld (S Fv (S Ld (S Fv (S Ld (S BU ?_))))));obtain⟨x6,gx6,hE⟩:=bO hE;refine s0 (callR rfl rfl (Z23_walk (gT:=gT) (oT:=oT) gx6 _ hpG (by assumption))) rfl ?_;refine S Mv (S EX (S EX ?_));refine Sl ?_;refine Sf ?_;refine S As (nil ?_);refine freezeA 6 _ rfl (KA 1 (KA 3 (KA 7 Keeps.nil))) ?_;refine seqR (S Mv (S BI (nil ?_)));refine cE hE (fun hc8 hE=>?_) (fun hc8 hE=>?_)
 ·refine region ?_;refine s0 (loadP (TK rfl) rfl rfl hpG rfl) rfl ?_;refine S Mv (S BU (S BV ?_));obtain⟨x9,gx9,hE⟩:=bO hE;refine SH (am Z4.c (TK rfl) rfl (TK rfl) (TK rfl) gx9) ?_;refine hq ((H.set c3_g (some (.tok 2 x9.l.length))).set c3 (some (.cells ([Sl.d 2 Z4.c (some c3_g) a3])))) ?_;refine sHn (storeP1 (TK rfl) rfl rfl hpG rfl (by repeat (first|exact SetAt.zero|apply SetAt.succ))) rfl rfl ?_
  refine hq ((H.set c3_g (some (.tok 2 x9.l.length))).set c3 (some (.cells ([Sl.d 2 Z4.c (some c3_g) x9])))) ?_;refine nil ?_;repeat (first|refine xBlock_normal ?_|refine xThen_exit ?_|refine xBlock_exit ?_)
  obtain rfl:=Option.some.inj hE;refine retQ.normalF ((H.set c3_g (some (.tok 2 x9.l.length))).set c3 (some (.cells ([Sl.d 2 Z4.c (some c3_g) x9])))) (xs:=[]) rfl ⟨rfl,rfl⟩ ?_;exact(fun _ _ h=>h)
 refine AWp.skip ?_;repeat (first|refine xBlock_normal ?_|refine xThen_exit ?_|refine xBlock_exit ?_)
 obtain rfl:=Option.some.inj hE;refine retQ.normalF ((H.set c3_g (some (.tok 2 a3.l.length))).set c3 (some (.cells ([Sl.d 2 Z4.c (some c3_g) a3])))) (xs:=[]) rfl ⟨rfl,rfl⟩ ?_;exact(fun _ _ h=>h)
def Z21_j6  (y7_id3_3:(Sl Z4)):Option (Sl Z4):=some y7_id3_3
def Z21_j17 (s17_12:Nat) (k_next_11:Nat->(Sl Z4)->Option (Sl Z4)) (y18_id3_3:(Sl Z4)):Option (Sl Z4):=k_next_11 (s17_12+1) y18_id3_3
def Z21_l25 (a0:TDoc) (s17_12:Nat) (x20:TDef) (k_next_11:Nat->(Sl Z4)->Option (Sl Z4)):Nat->Nat->(Sl Z4)->Option (Sl Z4)
 | 0,_,_=>none
 | n25+1,s54_26,y27_id3_3=>bif (decide (((s54_26:Nat):Int)<((x20.FInputs.l.length:Nat):Int))) then((x20.FInputs.l[s54_26]?).bind fun x33=>(catC x20.FName ([46]:Bs)).bind fun x34=>(catC x34 x33.FName).bind fun x35=>(Z22 x33 x35 a0 y27_id3_3).bind fun x36=>(Z21_l25 a0 s17_12 x20 k_next_11 n25) (s54_26+1) x36) else(Z21_j17 s17_12 k_next_11 y27_id3_3)
def Z21_j21 (a0:TDoc) (s17_12:Nat) (x20:TDef) (k_next_11:Nat->(Sl Z4)->Option (Sl Z4)) (y22_id3_3:(Sl Z4)):Option (Sl Z4):=Z21_l25 a0 s17_12 x20 k_next_11 (x20.FInputs.l.length+1) 0 y22_id3_3
def Z21_j45 (s24_40:Nat) (k_next_39:Nat->(Sl Z4)->Option (Sl Z4)) (y46_id3_3:(Sl Z4)):Option (Sl Z4):=k_next_39 (s24_40+1) y46_id3_3
def Z21_l51 (a0:TDoc) (x20:TDef) (s24_40:Nat) (x48:Z5) (k_next_39:Nat->(Sl Z4)->Option (Sl Z4)):Nat->Nat->(Sl Z4)->Option (Sl Z4)
 | 0,_,_=>none
 | n51+1,s31_52,y53_id3_3=>bif (decide (((s31_52:Nat):Int)<((x48.FArgs.l.length:Nat):Int))) then((x48.FArgs.l[s31_52]?).bind fun x59=>(catC x20.FName ([46]:Bs)).bind fun x60=>(catC x60 x48.FName).bind fun x61=>(catC x61 ([40]:Bs)).bind fun x62=>(catC x62 x59.FName).bind fun x63=>(catC x63 ([41]:Bs)).bind fun x64=>(Z22 x59 x64 a0 y53_id3_3).bind fun x65=>(Z21_l51 a0 x20 s24_40 x48 k_next_39 n51) (s31_52+1) x65) else(Z21_j45 s24_40 k_next_39 y53_id3_3)
def Z21_l39 (a0:TDoc) (s17_12:Nat) (x20:TDef) (k_next_11:Nat->(Sl Z4)->Option (Sl Z4)):Nat->Nat->(Sl Z4)->Option (Sl Z4)
 | 0,_,_=>none
 | n39+1,s24_40,y41_id3_3=>bif (decide (((s24_40:Nat):Int)<((x20.FFields.l.length:Nat):Int))) then((x20.FFields.l[s24_40]?).bind fun x48=>Z21_l51 a0 x20 s24_40 x48 ((Z21_l39 a0 s17_12 x20 k_next_11 n39)) (x48.FArgs.l.length+1) 0 y41_id3_3) else(Z21_j21 a0 s17_12 x20 k_next_11 y41_id3_3)
def Z21_l11 (a0:TDoc) :Nat->Nat->(Sl Z4)->Option (Sl Z4)
 | 0,_,_=>none
 | n11+1,s17_12,y13_id3_3=>bif (decide (((s17_12:Nat):Int)<((a0.FDefs.l.length:Nat):Int))) then((a0.FDefs.l[s17_12]?).bind fun x20=>Z21_l39 a0 s17_12 x20 ((Z21_l11 a0 n11)) (x20.FFields.l.length+1) 0 y13_id3_3) else(Z21_j6   y13_id3_3)
def Z21 (a0:TDoc):Option (Sl Z4):=Z21_l11 a0 (a0.FDefs.l.length+1) 0 (Sl.nil:Sl Z4)
theorem Z21_walk {a0:TDoc}{oT:Ab.Obj}{gT:Nat}{r:Sl Z4}(hE:Z21 a0=some r) (H:Heap) (hgT:H gT=some oT) (hoT:IsTab Tryz.prog oT):ACalls Tryz.prog 14 [.agg (TDoc.c a0)] H fun v h'=>v=.a (.d (Sl.d 2 Z4.c none r))/\h'=H:=by
 unfold Z21 at hE;refine ACalls.oW 70 [.tmp 2] Tryz.call14 Tryz.func14 ?_;refine seqR (S BX ?_);refine s0 (assignNil (k':=2) rfl) rfl ?_;refine nil ?_;refine seqR ?_;refine AOps.tok 2 fun tk3_4 htk3_4=>?_;have ne_tk3_4_gT:tk3_4≠gT:=fun e_=>by subst e_; simp_all
 refine sE (StepE.allocO (TK rfl) rfl) rfl (fun _ _ _ ⟨id3_3,hid3_3,e1,e2,e3⟩=>?_); subst e1 e2 e3;obtain⟨ne_id3_3_tk3_4,hid3_3⟩:=Heap.set_fresh hid3_3;have ne_id3_3_gT:id3_3≠gT:=fun e_=>by subst e_; simp_all
 refine AOps.recell id3_3 _ hpG (fun j w cs hh hx=>tok_cell 0 2 2 hh (t:=tk3_4) hpG hx rfl) ?_;refine hq ((H.set tk3_4 (some (.tok 2 0))).set id3_3 (some (.cells ([Sl.d 2 Z4.c (some tk3_4) (Sl.nil:Sl Z4)])))) ?_;refine nil ?_;refine seqR ?_;refine s0 (makeFunc rfl) rfl ?_;refine S As (nil ?_);refine seqJH (TA 3 KeepsT.nil) (fun(z:(Sl Z4))=>[]) (fun z=>((H.set tk3_4 (some (.tok 2 z.l.length))).set id3_3 (some (.cells ([Sl.d 2 Z4.c (some tk3_4) z]))))) (fun z=>Z21_j6 z=some r) ?_ ?_
 ·intro K6 hK6;refine seqR (S Fv (S Ld ?_));refine sLen (f:=TDef.c) (s:=a0.FDefs) (TK rfl) rfl rfl rfl rfl fun hL10=>?_;refine S Mv (nil ?_);refine block ?_;refine loopH (TA 3 (TA 4 (TA 15 (TA 16 KeepsT.nil)))) (fun(z:Nat×Nat×(Sl Z4))=>[(17,.a (.d (.int .i64 ((z.2.1:Nat):Int))))]) (fun z=>((H.set tk3_4 (some (.tok 2 z.2.2.l.length))).set id3_3 (some (.cells ([Sl.d 2 Z4.c (some tk3_4) z.2.2]))))) (fun z=>z.1) (fun z=>Z21_l11 a0 z.1 z.2.1 z.2.2=some r) ((a0.FDefs.l.length+1),0,(Sl.nil:Sl Z4)) hE Weak.toA ?_
  rintro ⟨n11,s17_12,y13_id3_3⟩ hE K11 hK11;try dsimp only at hE
  cases n11 with
  | zero=>cases hE
  | succ n11 =>
    rw [Z21_l11] at hE;refine seqR (S BI (nil ?_));refine seqK fun K15 hK15=>?_;refine cE hE (fun hc16 hE=>?_) (fun hc16 hE=>?_)
    ·try dsimp only at hc16
     have hf16:=of_decide_eq_true hc16;refine sk hK15 ?_;clear hK15 K15;refine seqJH (TA 3 (TA 4 (TA 15 (TA 16 (TA 17 KeepsT.nil))))) (fun(z:(Sl Z4))=>[]) (fun z=>((H.set tk3_4 (some (.tok 2 z.l.length))).set id3_3 (some (.cells ([Sl.d 2 Z4.c (some tk3_4) z]))))) (fun z=>Z21_j17 s17_12 ((Z21_l11 a0 n11)) z=some r) ?_ ?_
     ·intro K17 hK17;refine block ?_;refine seqR ?_;obtain⟨x20,gx20,hE⟩:=bO hE;refine S (ix TDef.c s17_12 gx20) (S Ld ?_);refine Sl ?_;refine Sf ?_;refine nil ?_;refine freezeA 6 _ rfl (KA 3 (KA 4 (KA 15 (KA 16 (KA 17 Keeps.nil))))) ?_;refine seqJH (TA 3 (TA 4 (TA 6 (TA 15 (TA 16 (TA 17 KeepsT.nil)))))) (fun(z:(Sl Z4))=>[]) (fun z=>((H.set tk3_4 (some (.tok 2 z.l.length))).set id3_3 (some (.cells ([Sl.d 2 Z4.c (some tk3_4) z]))))) (fun z=>Z21_j21 a0 s17_12 x20 ((Z21_l11 a0 n11)) z=some r) ?_ ?_
      ·intro K21 hK21;refine seqR (S Fv (S Ld ?_));refine sLen (f:=Z5.c) (s:=x20.FFields) (TK rfl) rfl rfl rfl rfl fun hL38=>?_;refine S Mv (nil ?_);refine block ?_;refine loopH (TA 3 (TA 4 (TA 6 (TA 15 (TA 16 (TA 17 (TA 22 (TA 23 KeepsT.nil)))))))) (fun(z:Nat×Nat×(Sl Z4))=>[(24,.a (.d (.int .i64 ((z.2.1:Nat):Int))))]) (fun z=>((H.set tk3_4 (some (.tok 2 z.2.2.l.length))).set id3_3 (some (.cells ([Sl.d 2 Z4.c (some tk3_4) z.2.2]))))) (fun z=>z.1) (fun z=>Z21_l39 a0 s17_12 x20 ((Z21_l11 a0 n11)) z.1 z.2.1 z.2.2=some r) ((x20.FFields.l.length+1),0,y13_id3_3) hE Weak.toA ?_
       rintro ⟨n39,s24_40,y41_id3_3⟩ hE K39 hK39;try dsimp only at hE
       cases n39 with
       | zero=>cases hE
       | succ n39 =>
         rw [Z21_l39] at hE;refine seqR (S BI (nil ?_));refine seqK fun K43 hK43=>?_;refine cE hE (fun hc44 hE=>?_) (fun hc44 hE=>?_)
         ·try dsimp only at hc44
          have hf44:=of_decide_eq_true hc44;refine sk hK43 ?_;clear hK43 K43;refine seqJH (TA 3 (TA 4 (TA 6 (TA 15 (TA 16 (TA 17 (TA 22 (TA 23 (TA 24 KeepsT.nil))))))))) (fun(z:(Sl Z4))=>[]) (fun z=>((H.set tk3_4 (some (.tok 2 z.l.length))).set id3_3 (some (.cells ([Sl.d 2 Z4.c (some tk3_4) z]))))) (fun z=>Z21_j45 s24_40 ((Z21_l39 a0 s17_12 x20 ((Z21_l11 a0 n11)) n39)) z=some r) ?_ ?_
          ·intro K45 hK45;refine block ?_;refine seqR ?_;obtain⟨x48,gx48,hE⟩:=bO hE;refine S (ix Z5.c s24_40 gx48) (S Ld ?_);refine Sl ?_;refine Sf ?_;refine nil ?_;refine freezeA 8 _ rfl (KA 3 (KA 4 (KA 6 (KA 15 (KA 16 (KA 17 (KA 22 (KA 23 (KA 24 Keeps.nil))))))))) ?_;refine seqR (S Fv (S Ld ?_));refine sLen (f:=Z7.c) (s:=x48.FArgs) (TK rfl) rfl rfl rfl rfl fun hL50=>?_;refine S Mv (nil ?_);refine block ?_
           refine loopH (TA 3 (TA 4 (TA 6 (TA 8 (TA 15 (TA 16 (TA 17 (TA 22 (TA 23 (TA 24 (TA 29 (TA 30 KeepsT.nil)))))))))))) (fun(z:Nat×Nat×(Sl Z4))=>[(31,.a (.d (.int .i64 ((z.2.1:Nat):Int))))]) (fun z=>((H.set tk3_4 (some (.tok 2 z.2.2.l.length))).set id3_3 (some (.cells ([Sl.d 2 Z4.c (some tk3_4) z.2.2]))))) (fun z=>z.1) (fun z=>Z21_l51 a0 x20 s24_40 x48 ((Z21_l39 a0 s17_12 x20 ((Z21_l11 a0 n11)) n39)) z.1 z.2.1 z.2.2=some r) ((x48.FArgs.l.length+1),0,y41_id3_3) hE Weak.toA ?_
           rintro ⟨n51,s31_52,y53_id3_3⟩ hE K51 hK51;try dsimp only at hE
           cases n51 with
           | zero=>cases hE
           | succ n51 =>
             rw [Z21_l51] at hE;refine seqR (S BI (nil ?_));refine seqK fun K55 hK55=>?_;refine cE hE (fun hc56 hE=>?_) (fun hc56 hE=>?_)
             ·try dsimp only at hc56
              have hf56:=of_decide_eq_true hc56;refine sk hK55 ?_;clear hK55 K55;refine seqK fun K57 hK57=>?_;refine block ?_;refine seqR ?_;obtain⟨x59,gx59,hE⟩:=bO hE;refine S (ix Z7.c s31_52 gx59) (S Ld ?_);refine Sl ?_;refine Sf ?_;refine nil ?_;refine freezeA 10 _ rfl (KA 3 (KA 4 (KA 6 (KA 8 (KA 15 (KA 16 (KA 17 (KA 22 (KA 23 (KA 24 (KA 29 (KA 30 (KA 31 Keeps.nil))))))))))))) ?_;refine region ?_
              refine S Mv (S Ld (S Fv (S Ld ?_)));obtain⟨x60,gx60,hE⟩:=bO hE;refine s0 (catM rfl rfl gx60) rfl ?_;refine S Fv (S Ld ?_);obtain⟨x61,gx61,hE⟩:=bO hE;refine s0 (catM rfl rfl gx61) rfl ?_;obtain⟨x62,gx62,hE⟩:=bO hE;refine s0 (catM rfl rfl gx62) rfl ?_;refine S Fv (S Ld ?_);obtain⟨x63,gx63,hE⟩:=bO hE;refine s0 (catM rfl rfl gx63) rfl ?_;obtain⟨x64,gx64,hE⟩:=bO hE;refine s0 (catM rfl rfl gx64) rfl ?_
              obtain⟨x65,gx65,hE⟩:=bO hE;refine sH (callH rfl rfl (Z22_walk (gT:=gT) (oT:=oT) gx65 _ hpG hpG hpG (by assumption))) rfl ?_;refine hq ((H.set tk3_4 (some (.tok 2 x65.l.length))).set id3_3 (some (.cells ([Sl.d 2 Z4.c (some tk3_4) x65])))) ?_;refine nil ?_;refine hK57 _ ?_;clear hK57 K57;refine region ?_;refine SI ?_;refine S Mv (nil ?_);exact hK51 _ (n51,(s31_52+1),x65) Weak.toA hE (Nat.lt_succ_self _)
             refine AWp.exit ?_;exact hK45 _ y53_id3_3 Weak.toA hE
          rintro y46_id3_3 hE;try dsimp only at hE
          unfold Z21_j45 at hE;refine region ?_;refine SI ?_;refine S Mv (nil ?_);exact hK39 _ (n39,(s24_40+1),y46_id3_3) Weak.toA hE (Nat.lt_succ_self _)
         refine AWp.exit ?_;exact hK21 _ y41_id3_3 Weak.toA hE
      rintro y22_id3_3 hE;try dsimp only at hE
      unfold Z21_j21 at hE;refine seqR (S Fv (S Ld ?_));refine sLen (f:=Z7.c) (s:=x20.FInputs) (TK rfl) rfl rfl rfl rfl fun hL24=>?_;refine S Mv (nil ?_);refine block ?_;refine loopH (TA 3 (TA 4 (TA 6 (TA 15 (TA 16 (TA 17 (TA 52 (TA 53 KeepsT.nil)))))))) (fun(z:Nat×Nat×(Sl Z4))=>[(54,.a (.d (.int .i64 ((z.2.1:Nat):Int))))]) (fun z=>((H.set tk3_4 (some (.tok 2 z.2.2.l.length))).set id3_3 (some (.cells ([Sl.d 2 Z4.c (some tk3_4) z.2.2]))))) (fun z=>z.1) (fun z=>Z21_l25 a0 s17_12 x20 ((Z21_l11 a0 n11)) z.1 z.2.1 z.2.2=some r) ((x20.FInputs.l.length+1),0,y22_id3_3) hE Weak.toA ?_
      rintro ⟨n25,s54_26,y27_id3_3⟩ hE K25 hK25;try dsimp only at hE
      cases n25 with
      | zero=>cases hE
      | succ n25 =>
        rw [Z21_l25] at hE;refine seqR (S BI (nil ?_));refine seqK fun K29 hK29=>?_;refine cE hE (fun hc30 hE=>?_) (fun hc30 hE=>?_)
        ·try dsimp only at hc30
         have hf30:=of_decide_eq_true hc30;refine sk hK29 ?_;clear hK29 K29;refine seqK fun K31 hK31=>?_;refine block ?_;refine seqR ?_;obtain⟨x33,gx33,hE⟩:=bO hE;refine S (ix Z7.c s54_26 gx33) (S Ld ?_);refine Sl ?_;refine Sf ?_;refine nil ?_;refine freezeA 12 _ rfl (KA 3 (KA 4 (KA 6 (KA 15 (KA 16 (KA 17 (KA 52 (KA 53 (KA 54 Keeps.nil))))))))) ?_;refine region ?_;refine S Mv (S Ld (S Fv (S Ld ?_)))
         obtain⟨x34,gx34,hE⟩:=bO hE;refine s0 (catM rfl rfl gx34) rfl ?_;refine S Fv (S Ld ?_);obtain⟨x35,gx35,hE⟩:=bO hE;refine s0 (catM rfl rfl gx35) rfl ?_;obtain⟨x36,gx36,hE⟩:=bO hE;refine sH (callH rfl rfl (Z22_walk (gT:=gT) (oT:=oT) gx36 _ hpG hpG hpG (by assumption))) rfl ?_;refine hq ((H.set tk3_4 (some (.tok 2 x36.l.length))).set id3_3 (some (.cells ([Sl.d 2 Z4.c (some tk3_4) x36])))) ?_;refine nil ?_
         refine hK31 _ ?_;clear hK31 K31;refine region ?_;refine SI ?_;refine S Mv (nil ?_);exact hK25 _ (n25,(s54_26+1),x36) Weak.toA hE (Nat.lt_succ_self _)
        refine AWp.exit ?_;exact hK17 _ y27_id3_3 Weak.toA hE
     rintro y18_id3_3 hE;try dsimp only at hE
     unfold Z21_j17 at hE;refine region ?_;refine SI ?_;refine S Mv (nil ?_);exact hK11 _ (n11,(s17_12+1),y18_id3_3) Weak.toA hE (Nat.lt_succ_self _)
    refine AWp.exit ?_;exact hK6 _ y13_id3_3 Weak.toA hE
 rintro y7_id3_3 hE;try dsimp only at hE
 unfold Z21_j6 at hE;refine seqR ?_;refine s0 (loadP (TK rfl) rfl rfl hpG rfl) rfl ?_;refine S As (nil ?_);refine AWp.dropTok 2 rfl ?_;refine AWp.ret ?_;repeat (first|refine xBlock_ret ?_|refine xThen_ret ?_)
 obtain rfl:=Option.some.inj hE;refine retQ.retF H rfl ⟨rfl,rfl⟩ ?_;intro id_ o_ he_;have e_tk3_4:id_≠tk3_4:=fun e_=>by subst e_; simp_all [Heap.set]
 have e_id3_3:id_≠id3_3:=fun e_=>by subst e_; simp_all [Heap.set]
 rw [<- he_];simp only [Heap.set] at he_ ⊢
 (repeat' split)<;>simp_all
def Z149 (a0:TDoc):Option (Sl Z4):=(Z112 a0 true).bind fun x4=>bif (decide ((0:Int)<((x4.l.length:Nat):Int))) then(some x4) else((Z11 a0).bind fun x10=>(Z21 a0).bind fun x11=>(appC 24 x10 x11).bind fun x12=>some x12)
theorem Z149_walk {a0:TDoc}{oT:Ab.Obj}{gT:Nat}{r:Sl Z4}(hE:Z149 a0=some r) (H:Heap) (hgT:H gT=some oT) (hoT:IsTab Tryz.prog oT):ACalls Tryz.prog 7 [.agg (TDoc.c a0)] H fun v h'=>v=.a (.d (Sl.d 2 Z4.c none r))/\h'=H:=by
 unfold Z149 at hE;refine ACalls.oW 15 [.tmp 2] Tryz.call7 Tryz.func7 ?_;refine seqR (S BX ?_);refine s0 (assignNil (k':=2) rfl) rfl ?_;refine nil ?_;refine seqK fun K2 hK2=>?_;refine seqR (S Ld ?_);obtain⟨x4,gx4,hE⟩:=bO hE;refine Sc rfl rfl (Z112_walk gx4) ?_;refine S As (nil ?_);refine seqR (S Mv ?_);refine sLen (f:=Z4.c) (s:=x4) (TK rfl) rfl rfl rfl rfl fun hL6=>?_;refine S BI (nil ?_);refine cE hE (fun hc7 hE=>?_) (fun hc7 hE=>?_)
 ·refine seqR (S Mv (S As (nil ?_)));exact rt hE
 refine sk hK2 ?_;clear hK2 K2;refine AWp.tok 2 fun tk1 htk1=>?_;have ne_tk1_gT:tk1≠gT:=fun e_=>by subst e_; simp_all
 refine AWp.seqD (Sd Ld ?_);obtain⟨x10,gx10,hE⟩:=bO hE;refine DOps.sH (callH rfl rfl (Z11_tok gx10 _ hpG)) rfl ?_;refine DOps.Dh (H.set tk1 (some (.tok 2 x10.l.length))) ?_;refine Sd Ld ?_;obtain⟨x11,gx11,hE⟩:=bO hE;refine DOps.s0 (callR rfl rfl (Z21_walk (gT:=gT) (oT:=oT) gx11 _ hpG (by assumption))) rfl ?_;obtain⟨x12,gx12,hE⟩:=bO hE;refine DOps.sH (appM (f:=Z4.c) (TK rfl) rfl (TK rfl) (TK rfl) ⟨_,rfl⟩ rfl rfl (by decide) rfl rfl rfl rfl hpG rfl gx12) rfl ?_
 refine DOps.Dh (H.set tk1 (some (.tok 2 x12.l.length))) ?_;refine Sd As ?_;refine DOps.nil (by decide +kernel) ?_;refine AWp.dropTok 2 rfl ?_;refine AWp.ret ?_;repeat (first|refine xBlock_ret ?_|refine xThen_ret ?_)
 obtain rfl:=Option.some.inj hE;refine retQ.retF H rfl ⟨rfl,rfl⟩ ?_
 first|exact Heap.sub_set htk1|(simp only [Heap.set_set]; exact Heap.sub_set htk1)
def Z118 (a0:Int):Option Bs:=bif (decide (a0=(1:Int))) then(some ([81,117,101,114,121]:Bs)) else(bif (decide (a0=(2:Int))) then(some ([77,117,116,97,116,105,111,110]:Bs)) else(bif (decide (a0=(3:Int))) then(some ([83,117,98,115,99,114,105,112,116,105,111,110]:Bs)) else(some ([]:Bs))))
theorem Z118_walk {a0:Int}{r:Bs}(hE:Z118 a0=some r) (H:Heap) :ACalls Tryz.prog 54 [.d (.int .i64 a0)] H fun v h'=>v=.a (.d (.str r))/\h'=H:=by
 unfold Z118 at hE;refine ACalls.oW 10 [.tmp 2] Tryz.call54 Tryz.func54 ?_;refine seqR (S As (nil ?_));refine seqK fun K2 hK2=>?_;refine seqR (S Mv (nil ?_));refine block ?_;refine seqR (S BI (S As (nil ?_)));refine cE hE (fun hc5 hE=>?_) (fun hc5 hE=>?_)
 ·refine seqR (S As (nil ?_));exact rt hE
 refine seqR (S BI (S As (nil ?_)));refine cE hE (fun hc8 hE=>?_) (fun hc8 hE=>?_)
 ·refine seqR (S As (nil ?_));exact rt hE
 refine seqR (S BI (S As (nil ?_)));refine cE hE (fun hc11 hE=>?_) (fun hc11 hE=>?_)
 ·refine seqR (S As (nil ?_));exact rt hE
 refine sk hK2 ?_;clear hK2 K2;refine seqR (S As (nil ?_));exact rt hE
def Z152_j9  :Option Bool:=some true
def Z152_l14 (x12:TSel) :Nat->Nat->Option Bool
 | 0,_=>none
 | n14+1,s27_15=>bif (decide (((s27_15:Nat):Int)<((x12.FDirs.l.length:Nat):Int))) then((x12.FDirs.l[s27_15]?).bind fun x21=>bif (((x21.FName==([115,107,105,112]:Bs)))||((x21.FName==([105,110,99,108,117,100,101]:Bs)))) then(some false) else((Z152_l14 x12 n14) (s27_15+1))) else(Z152_j9   )
def Z152 (a0:(Sl TSel)):Option Bool:=guardO (!(!decide (((a0.l.length:Nat):Int)=(1:Int)))) (a0.l[0]?) TSel.zero fun x5=>guardO (!((!decide (((a0.l.length:Nat):Int)=(1:Int)))||(!decide (x5.FKind=(1:Int))))) (a0.l[0]?) TSel.zero fun x6=>bif (((!decide (((a0.l.length:Nat):Int)=(1:Int)))||(!decide (x5.FKind=(1:Int))))||((x6.FName==([95,95,116,121,112,101,110,97,109,101]:Bs)))) then(some false) else((a0.l[0]?).bind fun x12=>Z152_l14 x12 (x12.FDirs.l.length+1) 0)
theorem Z152_walk {a0:Sl TSel}{w0:Option Nat}{r:Bool}(hE:Z152 a0=some r) (H:Heap) :ACalls Tryz.prog 99 [.d (Sl.d 7 TSel.c w0 a0)] H fun v h'=>v=.a (.d (.bool r))/\h'=H:=by
 unfold Z152 at hE;refine ACalls.oW 40 [.tmp 2] Tryz.call99 Tryz.func99 ?_;refine seqR (S As (nil ?_));refine seqK fun K2 hK2=>?_;refine seqR (S Mv ?_);refine sLen (f:=TSel.c) (s:=a0) (TK rfl) rfl rfl rfl rfl fun hL4=>?_;refine S BI (S Mv (G0 Mv ?_));obtain⟨x5,gx5,hE⟩:=gO hE;refine gC rfl rfl (fun hC=>ungdA (k:=9) rfl (idxMn (f:=TSel.c) (n:=0) (TK rfl) rfl (TK rfl) rfl rfl rfl (gx5 hC))) rfl ?_;refine G1 10 rfl Fv ?_
 refine G1 11 rfl Ld ?_;refine G1 12 rfl BI ?_;refine S PO (S Mv (G0 Mv ?_));obtain⟨x6,gx6,hE⟩:=gO hE;refine gC rfl rfl (fun hC=>ungdA (k:=16) rfl (idxMn (f:=TSel.c) (n:=0) (TK rfl) rfl (TK rfl) rfl rfl rfl (gx6 hC))) rfl ?_;refine G1 17 rfl Fv ?_;refine G1 18 rfl Ld ?_;refine G1 19 rfl BS ?_;refine S PO (nil ?_);refine cE hE (fun hc7 hE=>?_) (fun hc7 hE=>?_)
 ·refine seqR (S As (nil ?_));exact rt hE
 refine sk hK2 ?_;clear hK2 K2;refine seqJH KeepsT.nil (fun(z:Unit)=>[]) (fun z=>H) (fun z=>Z152_j9 =some r) ?_ ?_
 ·intro K9 hK9;refine seqR (S Mv ?_);obtain⟨x12,gx12,hE⟩:=bO hE;refine S (ix TSel.c 0 gx12) (S Fv (S Ld ?_));refine sLen (f:=TDir.c) (s:=x12.FDirs) (TK rfl) rfl rfl rfl rfl fun hL13=>?_;refine S Mv (nil ?_);refine block ?_;refine loopH (TA 25 (TA 26 KeepsT.nil)) (fun(z:Nat×Nat)=>[(27,.a (.d (.int .i64 ((z.2:Nat):Int))))]) (fun z=>H) (fun z=>z.1) (fun z=>Z152_l14 x12 z.1 z.2=some r) ((x12.FDirs.l.length+1),0) hE Weak.toA ?_
  rintro ⟨n14,s27_15⟩ hE K14 hK14;try dsimp only at hE
  cases n14 with
  | zero=>cases hE
  | succ n14 =>
    rw [Z152_l14] at hE;refine seqR (S BI (nil ?_));refine seqK fun K17 hK17=>?_;refine cE hE (fun hc18 hE=>?_) (fun hc18 hE=>?_)
    ·try dsimp only at hc18
     have hf18:=of_decide_eq_true hc18;refine sk hK17 ?_;clear hK17 K17;refine seqK fun K19 hK19=>?_;refine block ?_;refine seqR ?_;obtain⟨x21,gx21,hE⟩:=bO hE;refine S (ix TDir.c s27_15 gx21) (S Ld ?_);refine Sl ?_;refine Sf ?_;refine nil ?_;refine freezeA 4 _ rfl (KA 25 (KA 26 (KA 27 Keeps.nil))) ?_;refine seqR (S Fv (S Ld (S BS (S Mv (G0 Fv ?_)))));refine G1 35 rfl Ld ?_;refine G1 36 rfl BS ?_;refine S PO (nil ?_)
     refine cE hE (fun hc23 hE=>?_) (fun hc23 hE=>?_)
     ·refine seqR (S As (nil ?_));exact rt hE
     refine sk hK19 ?_;clear hK19 K19;refine region ?_;refine SI ?_;refine S Mv (nil ?_);exact hK14 _ (n14,(s27_15+1)) Weak.toA hE (Nat.lt_succ_self _)
    refine AWp.exit ?_;exact hK9 _ () Weak.toA hE
 rintro _ hE;try dsimp only at hE
 unfold Z152_j9 at hE;refine seqR (S As (nil ?_));exact rt hE
end Go.Proofs

namespace Go.Proofs
open Go Go.Ab
open AOps Cert AWp Keeps KeepsT
variable {lou:Lou}
def Z150_j11  (s7_12:(Sl Z4)):Option (Sl Z4):=some s7_12
def Z150_j9 (x4:TOp)  (s7_10:(Sl Z4)):Option (Sl Z4):=guardO ((decide (x4.FKind=(3:Int)))) (Z152 x4.FSels) false fun x15=>bif ((decide (x4.FKind=(3:Int)))&&(!x15)) then((appC 24 s7_10 (⟨false,[(Z4.mk (30:Int) x4.FName)]⟩:Sl Z4)).bind fun x17=>Z150_j11   x17) else(Z150_j11   s7_10)
def Z150_j7 (a0:TDoc) (x4:TOp)  (s7_8:(Sl Z4)):Option (Sl Z4):=(Z118 x4.FKind).bind fun x19=>(Z114 a0 x19).bind fun x20=>bif (!x20.2) then((appC 24 s7_8 (⟨false,[(Z4.mk (30:Int) x4.FName)]⟩:Sl Z4)).bind fun x23=>Z150_j9 x4  x23) else(Z150_j9 x4  s7_8)
def Z150_j5 (a0:TDoc) (a1:Z9) (x4:TOp)  (s7_6:(Sl Z4)):Option (Sl Z4):=bif (((x4.FName==([]:Bs)))&&(decide ((1:Int)<((a1.FOps.l.length:Nat):Int)))) then((appC 24 s7_6 (⟨false,[(Z4.mk (6:Int) ([]:Bs))]⟩:Sl Z4)).bind fun x26=>Z150_j7 a0 x4  x26) else(Z150_j7 a0 x4  s7_6)
def Z150_l30 (a0:TDoc) (a1:Z9) (x4:TOp) (x28:(Sl TOp)) :Nat->(Sl Z4)->Nat->Option (Sl Z4)
 | 0,_,_=>none
 | n30+1,s7_31,s23_32=>bif (decide (((s23_32:Nat):Int)<((x28.l.length:Nat):Int))) then((x28.l[s23_32]?).bind fun x38=>bif ((!(x4.FName==([]:Bs)))&&((x38.FName==x4.FName))) then((appC 24 s7_31 (⟨false,[(Z4.mk (7:Int) x4.FName)]⟩:Sl Z4)).bind fun x42=>Z150_j5 a0 a1 x4  x42) else((Z150_l30 a0 a1 x4 x28 n30) s7_31 (s23_32+1))) else(Z150_j5 a0 a1 x4  s7_31)
def Z150 (a0:TDoc) (a1:Z9) (a2:Int):Option (Sl Z4):=(idxC a1.FOps.l a2).bind fun x4=>(partC a1.FOps none (some a2)).bind fun x28=>Z150_l30 a0 a1 x4 x28 (x28.l.length+1) (Sl.nil:Sl Z4) 0
theorem Z150_walk {a0:TDoc}{a1:Z9}{a2:Int}{r:Sl Z4}(hE:Z150 a0 a1 a2=some r) (H:Heap) :ACalls Tryz.prog 52 [.agg (TDoc.c a0),.agg (Z9.c a1),.d (.int .i64 a2)] H fun v h'=>v=.a (.d (Sl.d 2 Z4.c none r))/\h'=H:=by
 unfold Z150 at hE;refine ACalls.oW 89 [.tmp 6] Tryz.call52 Tryz.func52 ?_;refine AWp.tok 2 fun tk1 htk1=>?_;refine seqR (S BX (S BX ?_));refine s0 (assignNil (k':=2) rfl) rfl ?_;refine nil ?_;refine seqR (S As (nil ?_));refine AWp.nilTok 7 2 tk1 rfl hpG ?_;refine seqR (S Fv (S Ld (S Mv ?_)));obtain⟨x4,gx4,hE⟩:=bO hE;refine s0 (idxM (f:=TOp.c) (TK rfl) rfl (TK rfl) rfl rfl rfl gx4) rfl ?_;refine S Ld ?_
 refine Sl ?_;refine Sf ?_;refine nil ?_;refine freezeA 8 _ rfl (KA 2 (KA 3 (KA 4 (KA 7 Keeps.nil)))) ?_;refine seqJH (TA 3 (TA 4 (TA 8 KeepsT.nil))) (fun(z:(Sl Z4))=>[(7,.a (.d (Sl.d 2 Z4.c (some tk1) z)))]) (fun z=>(H.set tk1 (some (.tok 2 z.l.length)))) (fun z=>Z150_j5 a0 a1 x4 z=some r) ?_ ?_
 ·intro K5 hK5;refine seqR (S Fv (S Ld (S Mv ?_)));obtain⟨x28,gx28,hE⟩:=bO hE;refine s0 (partM (f:=TOp.c) (l:=none) (r:=(some a2)) (TK rfl) rfl (TK rfl) rfl rfl trivial rfl gx28) rfl ?_;refine sLen (f:=TOp.c) (s:=x28) (TK rfl) rfl rfl rfl rfl fun hL29=>?_;refine S Mv (nil ?_);refine block ?_;refine loopH (TA 3 (TA 4 (TA 8 (TA 21 (TA 22 KeepsT.nil))))) (fun(z:Nat×(Sl Z4)×Nat)=>[(7,.a (.d (Sl.d 2 Z4.c (some tk1) z.2.1))),(23,.a (.d (.int .i64 ((z.2.2:Nat):Int))))]) (fun z=>(H.set tk1 (some (.tok 2 z.2.1.l.length)))) (fun z=>z.1) (fun z=>Z150_l30 a0 a1 x4 x28 z.1 z.2.1 z.2.2=some r) ((x28.l.length+1),(Sl.nil:Sl Z4),0) hE Weak.toA ?_
  rintro ⟨n30,s7_31,s23_32⟩ hE K30 hK30;try dsimp only at hE
  cases n30 with
  | zero=>cases hE
  | succ n30 =>
    rw [Z150_l30] at hE;refine seqR (S BI (nil ?_));refine seqK fun K34 hK34=>?_;refine cE hE (fun hc35 hE=>?_) (fun hc35 hE=>?_)
    ·try dsimp only at hc35
     have hf35:=of_decide_eq_true hc35;refine sk hK34 ?_;clear hK34 K34;refine seqK fun K36 hK36=>?_;refine block ?_;refine seqR ?_;obtain⟨x38,gx38,hE⟩:=bO hE;refine S (ix TOp.c s23_32 gx38) (S Ld ?_);refine Sl ?_;refine Sf ?_;refine nil ?_;refine freezeA 10 _ rfl (KA 3 (KA 4 (KA 7 (KA 8 (KA 21 (KA 22 (KA 23 Keeps.nil))))))) ?_;refine seqR (S Fv (S Ld (S BS (S Mv (G0 Fv ?_)))));refine G1 31 rfl Ld ?_
     refine G0 Fv ?_;refine G1 33 rfl Ld ?_;refine G2 32 34 rfl rfl BS ?_;refine S PA (nil ?_);refine cE hE (fun hc40 hE=>?_) (fun hc40 hE=>?_)
     ·refine seqR (S Mv (S Fv (S Ld (S BU (S BV ?_)))));obtain⟨x42,gx42,hE⟩:=bO hE;refine SH (am Z4.c (TK rfl) rfl (TK rfl) (TK rfl) gx42) ?_;refine hq (H.set tk1 (some (.tok 2 x42.l.length))) ?_;refine S As (nil ?_);refine AWp.exit ?_;exact hK5 _ x42 Weak.toA hE
     refine sk hK36 ?_;clear hK36 K36;refine region ?_;refine SI ?_;refine S Mv (nil ?_);exact hK30 _ (n30,s7_31,(s23_32+1)) Weak.toA hE (Nat.lt_succ_self _)
    refine AWp.exit ?_;exact hK5 _ s7_31 Weak.toA hE
 rintro s7_6 hE;try dsimp only at hE
 unfold Z150_j5 at hE;refine seqJH (TA 3 (TA 8 KeepsT.nil)) (fun(z:(Sl Z4))=>[(7,.a (.d (Sl.d 2 Z4.c (some tk1) z)))]) (fun z=>(H.set tk1 (some (.tok 2 z.l.length)))) (fun z=>Z150_j7 a0 x4 z=some r) ?_ ?_
 ·intro K7 hK7;refine seqR (S Fv (S Ld (S BS (S Mv (G0 Fv ?_)))));refine G1 48 rfl Ld ?_;refine gC rfl rfl (fun hC=>ungdA (k:=49) rfl (lenM' (f:=TOp.c) (s:=a1.FOps) (TK rfl) rfl rfl rfl)) rfl ?_;refine G1 50 rfl BI ?_;refine S PA (nil ?_);refine cE hE (fun hc25 hE=>?_) (fun hc25 hE=>?_)
  ·refine region ?_;refine S Mv (S BU (S BV ?_));obtain⟨x26,gx26,hE⟩:=bO hE;refine SH (am Z4.c (TK rfl) rfl (TK rfl) (TK rfl) gx26) ?_;refine hq (H.set tk1 (some (.tok 2 x26.l.length))) ?_;refine S As (nil ?_);exact hK7 _ x26 Weak.toA hE
  refine AWp.skip ?_;exact hK7 _ s7_6 Weak.toA hE
 rintro s7_8 hE;try dsimp only at hE
 unfold Z150_j7 at hE;refine seqJH (TA 8 KeepsT.nil) (fun(z:(Sl Z4))=>[(7,.a (.d (Sl.d 2 Z4.c (some tk1) z)))]) (fun z=>(H.set tk1 (some (.tok 2 z.l.length)))) (fun z=>Z150_j9 x4 z=some r) ?_ ?_
 ·intro K9 hK9;refine AWp.seqD (Sd Ld (Sd Fv (Sd Ld ?_)));obtain⟨x19,gx19,hE⟩:=bO hE;refine Scd rfl rfl (Z118_walk gx19) ?_;obtain⟨x20,gx20,hE⟩:=bO hE;refine Scd rfl rfl (Z114_walk gx20) ?_;refine Sd Mv (Sd EX (Sd EX ?_));refine DOps.sB (TK rfl) rfl rfl ?_ (by repeat (first|exact Snoc.nil|apply Snoc.cons));refine DOps.sLn (storeLFA (TK rfl) rfl rfl rfl rfl rfl) ?_;refine Sd As ?_;refine DOps.nil (by decide +kernel) ?_
  refine freezeA 11 _ rfl (KA 7 (KA 8 (KA 12 Keeps.nil))) ?_;refine seqR (S Mv (S NB (nil ?_)));refine cE hE (fun hc22 hE=>?_) (fun hc22 hE=>?_)
  ·refine region ?_;refine S Mv (S Fv (S Ld (S BU (S BV ?_))));obtain⟨x23,gx23,hE⟩:=bO hE;refine SH (am Z4.c (TK rfl) rfl (TK rfl) (TK rfl) gx23) ?_;refine hq (H.set tk1 (some (.tok 2 x23.l.length))) ?_;refine S As (nil ?_);exact hK9 _ x23 Weak.toA hE
  refine AWp.skip ?_;exact hK9 _ s7_8 Weak.toA hE
 rintro s7_10 hE;try dsimp only at hE
 unfold Z150_j9 at hE;refine seqJH KeepsT.nil (fun(z:(Sl Z4))=>[(7,.a (.d (Sl.d 2 Z4.c (some tk1) z)))]) (fun z=>(H.set tk1 (some (.tok 2 z.l.length)))) (fun z=>Z150_j11 z=some r) ?_ ?_
 ·intro K11 hK11;refine seqR (S Fv (S Ld (S BI (S Mv (G0 Fv ?_)))));refine G1 77 rfl Ld ?_;obtain⟨x15,gx15,hE⟩:=gO hE;refine Gc1 78 rfl rfl rfl rfl rfl (fun hC=>Z152_walk (gx15 hC)) ?_;refine G1 79 rfl NB ?_;refine S PA (nil ?_);refine cE hE (fun hc16 hE=>?_) (fun hc16 hE=>?_)
  ·refine region ?_;refine S Mv (S Fv (S Ld (S BU (S BV ?_))));obtain⟨x17,gx17,hE⟩:=bO hE;refine SH (am Z4.c (TK rfl) rfl (TK rfl) (TK rfl) gx17) ?_;refine hq (H.set tk1 (some (.tok 2 x17.l.length))) ?_;refine S As (nil ?_);exact hK11 _ x17 Weak.toA hE
  refine AWp.skip ?_;exact hK11 _ s7_10 Weak.toA hE
 rintro s7_12 hE;try dsimp only at hE
 unfold Z150_j11 at hE;refine seqR (S Mv (S As (nil ?_)));refine AWp.dropTok 6 rfl ?_;refine AWp.ret ?_;repeat (first|refine xBlock_ret ?_|refine xThen_ret ?_)
 obtain rfl:=Option.some.inj hE;refine retQ.retF H rfl ⟨rfl,rfl⟩ ?_
 first|exact Heap.sub_set htk1|(simp only [Heap.set_set]; exact Heap.sub_set htk1)
def Z151_j5  (s5_6:(Sl Z4)):Option (Sl Z4):=some s5_6
def Z151_j16 (s27_12:Nat) (k_next_10:(Sl Z4)->Nat->Option (Sl Z4)) (s5_17:(Sl Z4)):Option (Sl Z4):=k_next_10 s5_17 (s27_12+1)
def Z151_l23 (s27_12:Nat) (x19:Z6) (x21:(Sl Z6)) (k_next_10:(Sl Z4)->Nat->Option (Sl Z4)):Nat->(Sl Z4)->Nat->Option (Sl Z4)
 | 0,_,_=>none
 | n23+1,s5_24,s37_25=>bif (decide (((s37_25:Nat):Int)<((x21.l.length:Nat):Int))) then((x21.l[s37_25]?).bind fun x31=>bif ((x31.FName==x19.FName)) then((appC 24 s5_24 (⟨false,[(Z4.mk (7:Int) x19.FName)]⟩:Sl Z4)).bind fun x35=>Z151_j16 s27_12 k_next_10 x35) else((Z151_l23 s27_12 x19 x21 k_next_10 n23) s5_24 (s37_25+1))) else(Z151_j16 s27_12 k_next_10 s5_24)
def Z151_l10 (a1:Z9) :Nat->(Sl Z4)->Nat->Option (Sl Z4)
 | 0,_,_=>none
 | n10+1,s5_11,s27_12=>bif (decide (((s27_12:Nat):Int)<((a1.FFrags.l.length:Nat):Int))) then((a1.FFrags.l[s27_12]?).bind fun x19=>(partC a1.FFrags none (some ((s27_12:Nat):Int))).bind fun x21=>Z151_l23 s27_12 x19 x21 ((Z151_l10 a1 n10)) (x21.l.length+1) s5_11 0) else(Z151_j5   s5_11)
def Z151_j3 (a1:Z9)  (s5_4:(Sl Z4)):Option (Sl Z4):=Z151_l10 a1 (a1.FFrags.l.length+1) s5_4 0
def Z151_l38 (a0:TDoc) (a1:Z9) :Nat->(Sl Z4)->Nat->Option (Sl Z4)
 | 0,_,_=>none
 | n38+1,s5_39,s14_40=>bif (decide (((s14_40:Nat):Int)<((a1.FOps.l.length:Nat):Int))) then((Z150 a0 a1 ((s14_40:Nat):Int)).bind fun x46=>(appC 24 s5_39 x46).bind fun x47=>(Z151_l38 a0 a1 n38) x47 (s14_40+1)) else(Z151_j3 a1  s5_39)
def Z151 (a0:TDoc) (a1:Z9):Option (Sl Z4):=Z151_l38 a0 a1 (a1.FOps.l.length+1) (Sl.nil:Sl Z4) 0
theorem Z151_walk {a0:TDoc}{a1:Z9}{r:Sl Z4}(hE:Z151 a0 a1=some r) (H:Heap) :ACalls Tryz.prog 23 [.agg (TDoc.c a0),.agg (Z9.c a1)] H fun v h'=>v=.a (.d (Sl.d 2 Z4.c none r))/\h'=H:=by
 unfold Z151 at hE;refine ACalls.oW 55 [.tmp 4] Tryz.call23 Tryz.func23 ?_;refine AWp.tok 2 fun tk1 htk1=>?_;refine seqR (S BX (S BX ?_));refine s0 (assignNil (k':=2) rfl) rfl ?_;refine nil ?_;refine seqR (S As (nil ?_));refine AWp.nilTok 5 2 tk1 rfl hpG ?_;refine seqJH (TA 3 KeepsT.nil) (fun(z:(Sl Z4))=>[(5,.a (.d (Sl.d 2 Z4.c (some tk1) z)))]) (fun z=>(H.set tk1 (some (.tok 2 z.l.length)))) (fun z=>Z151_j3 a1 z=some r) ?_ ?_
 ·intro K3 hK3;refine seqR (S Fv (S Ld ?_));refine sLen (f:=TOp.c) (s:=a1.FOps) (TK rfl) rfl rfl rfl rfl fun hL37=>?_;refine S Mv (nil ?_);refine block ?_;refine loopH (TA 2 (TA 3 (TA 13 KeepsT.nil))) (fun(z:Nat×(Sl Z4)×Nat)=>[(5,.a (.d (Sl.d 2 Z4.c (some tk1) z.2.1))),(14,.a (.d (.int .i64 ((z.2.2:Nat):Int))))]) (fun z=>(H.set tk1 (some (.tok 2 z.2.1.l.length)))) (fun z=>z.1) (fun z=>Z151_l38 a0 a1 z.1 z.2.1 z.2.2=some r) ((a1.FOps.l.length+1),(Sl.nil:Sl Z4),0) hE Weak.toA ?_
  rintro ⟨n38,s5_39,s14_40⟩ hE K38 hK38;try dsimp only at hE
  cases n38 with
  | zero=>cases hE
  | succ n38 =>
    rw [Z151_l38] at hE;refine seqR (S BI (nil ?_));refine seqK fun K42 hK42=>?_;refine cE hE (fun hc43 hE=>?_) (fun hc43 hE=>?_)
    ·try dsimp only at hc43
     have hf43:=of_decide_eq_true hc43;refine sk hK42 ?_;clear hK42 K42;refine seqK fun K44 hK44=>?_;refine block ?_;refine seqR (S Mv (S As (nil ?_)));refine region ?_;refine S Mv (S Ld (S Ld (S Mv ?_)));obtain⟨x46,gx46,hE⟩:=bO hE;refine Sc rfl rfl (Z150_walk gx46) ?_;obtain⟨x47,gx47,hE⟩:=bO hE;refine SH (am Z4.c (TK rfl) rfl (TK rfl) (TK rfl) gx47) ?_;refine hq (H.set tk1 (some (.tok 2 x47.l.length))) ?_
     refine S As (nil ?_);refine hK44 _ ?_;clear hK44 K44;refine region ?_;refine SI ?_;refine S Mv (nil ?_);exact hK38 _ (n38,x47,(s14_40+1)) Weak.toA hE (Nat.lt_succ_self _)
    refine AWp.exit ?_;exact hK3 _ s5_39 Weak.toA hE
 rintro s5_4 hE;try dsimp only at hE
 unfold Z151_j3 at hE;refine seqJH KeepsT.nil (fun(z:(Sl Z4))=>[(5,.a (.d (Sl.d 2 Z4.c (some tk1) z)))]) (fun z=>(H.set tk1 (some (.tok 2 z.l.length)))) (fun z=>Z151_j5 z=some r) ?_ ?_
 ·intro K5 hK5;refine seqR (S Fv (S Ld ?_));refine sLen (f:=Z6.c) (s:=a1.FFrags) (TK rfl) rfl rfl rfl rfl fun hL9=>?_;refine S Mv (nil ?_);refine block ?_;refine loopH (TA 3 (TA 25 (TA 26 KeepsT.nil))) (fun(z:Nat×(Sl Z4)×Nat)=>[(5,.a (.d (Sl.d 2 Z4.c (some tk1) z.2.1))),(27,.a (.d (.int .i64 ((z.2.2:Nat):Int))))]) (fun z=>(H.set tk1 (some (.tok 2 z.2.1.l.length)))) (fun z=>z.1) (fun z=>Z151_l10 a1 z.1 z.2.1 z.2.2=some r) ((a1.FFrags.l.length+1),s5_4,0) hE Weak.toA ?_
  rintro ⟨n10,s5_11,s27_12⟩ hE K10 hK10;try dsimp only at hE
  cases n10 with
  | zero=>cases hE
  | succ n10 =>
    rw [Z151_l10] at hE;refine seqR (S BI (nil ?_));refine seqK fun K14 hK14=>?_;refine cE hE (fun hc15 hE=>?_) (fun hc15 hE=>?_)
    ·try dsimp only at hc15
     have hf15:=of_decide_eq_true hc15;refine sk hK14 ?_;clear hK14 K14;refine seqJH (TA 3 (TA 25 (TA 26 (TA 27 KeepsT.nil)))) (fun(z:(Sl Z4))=>[(5,.a (.d (Sl.d 2 Z4.c (some tk1) z)))]) (fun z=>(H.set tk1 (some (.tok 2 z.l.length)))) (fun z=>Z151_j16 s27_12 ((Z151_l10 a1 n10)) z=some r) ?_ ?_
     ·intro K16 hK16;refine block ?_;refine seqR (S Mv ?_);obtain⟨x19,gx19,hE⟩:=bO hE;refine S (ix Z6.c s27_12 gx19) (S Ld ?_);refine Sl ?_;refine S As ?_;refine Sf ?_;refine nil ?_;refine freezeA 8 _ rfl (KA 3 (KA 5 (KA 7 (KA 25 (KA 26 (KA 27 Keeps.nil)))))) ?_;refine seqR (S Fv (S Ld (S Mv ?_)));obtain⟨x21,gx21,hE⟩:=bO hE;refine s0 (partM (f:=Z6.c) (l:=none) (r:=(some ((s27_12:Nat):Int))) (TK rfl) rfl (TK rfl) rfl rfl trivial rfl gx21) rfl ?_
      refine sLen (f:=Z6.c) (s:=x21) (TK rfl) rfl rfl rfl rfl fun hL22=>?_;refine S Mv (nil ?_);refine block ?_;refine loopH (TA 3 (TA 8 (TA 25 (TA 26 (TA 27 (TA 35 (TA 36 KeepsT.nil))))))) (fun(z:Nat×(Sl Z4)×Nat)=>[(5,.a (.d (Sl.d 2 Z4.c (some tk1) z.2.1))),(37,.a (.d (.int .i64 ((z.2.2:Nat):Int))))]) (fun z=>(H.set tk1 (some (.tok 2 z.2.1.l.length)))) (fun z=>z.1) (fun z=>Z151_l23 s27_12 x19 x21 ((Z151_l10 a1 n10)) z.1 z.2.1 z.2.2=some r) ((x21.l.length+1),s5_11,0) hE Weak.toA ?_
      rintro ⟨n23,s5_24,s37_25⟩ hE K23 hK23;try dsimp only at hE
      cases n23 with
      | zero=>cases hE
      | succ n23 =>
        rw [Z151_l23] at hE;refine seqR (S BI (nil ?_));refine seqK fun K27 hK27=>?_;refine cE hE (fun hc28 hE=>?_) (fun hc28 hE=>?_)
        ·try dsimp only at hc28
         have hf28:=of_decide_eq_true hc28;refine sk hK27 ?_;clear hK27 K27;refine seqK fun K29 hK29=>?_;refine block ?_;refine seqR ?_;obtain⟨x31,gx31,hE⟩:=bO hE;refine S (ix Z6.c s37_25 gx31) (S Ld ?_);refine Sl ?_;refine Sf ?_;refine nil ?_;refine freezeA 10 _ rfl (KA 3 (KA 5 (KA 8 (KA 25 (KA 26 (KA 27 (KA 35 (KA 36 (KA 37 Keeps.nil))))))))) ?_;refine seqR (S Fv (S Ld (S Fv (S Ld (S BS (nil ?_))))))
         refine cE hE (fun hc33 hE=>?_) (fun hc33 hE=>?_)
         ·refine seqR (S Mv (S Fv (S Ld (S BU (S BV ?_)))));obtain⟨x35,gx35,hE⟩:=bO hE;refine SH (am Z4.c (TK rfl) rfl (TK rfl) (TK rfl) gx35) ?_;refine hq (H.set tk1 (some (.tok 2 x35.l.length))) ?_;refine S As (nil ?_);refine AWp.exit ?_;exact hK16 _ x35 Weak.toA hE
         refine sk hK29 ?_;clear hK29 K29;refine region ?_;refine SI ?_;refine S Mv (nil ?_);exact hK23 _ (n23,s5_24,(s37_25+1)) Weak.toA hE (Nat.lt_succ_self _)
        refine AWp.exit ?_;exact hK16 _ s5_24 Weak.toA hE
     rintro s5_17 hE;try dsimp only at hE
     unfold Z151_j16 at hE;refine region ?_;refine SI ?_;refine S Mv (nil ?_);exact hK10 _ (n10,s5_17,(s27_12+1)) Weak.toA hE (Nat.lt_succ_self _)
    refine AWp.exit ?_;exact hK5 _ s5_11 Weak.toA hE
 rintro s5_6 hE;try dsimp only at hE
 unfold Z151_j5 at hE;refine seqR (S Mv (S As (nil ?_)));refine AWp.dropTok 4 rfl ?_;refine AWp.ret ?_;repeat (first|refine xBlock_ret ?_|refine xThen_ret ?_)
 obtain rfl:=Option.some.inj hE;refine retQ.retF H rfl ⟨rfl,rfl⟩ ?_
 first|exact Heap.sub_set htk1|(simp only [Heap.set_set]; exact Heap.sub_set htk1)
def Z33 (a0:TDoc) (a1:Z9):Option (Sl Z4):=none
theorem Z33_walk {a0:TDoc}{a1:Z9}{r:Sl Z4}(hE:Z33 a0 a1=some r) (H:Heap) :ACalls Tryz.prog 24 [.agg (TDoc.c a0),.agg (Z9.c a1)] H fun v h'=>v=.a (.d (Sl.d 2 Z4.c none r))/\h'=H:=by cases hE
def Z32 (a0:TDoc) (a1:Z9):Option (Sl Z4):=none
theorem Z32_tok {a0:TDoc}{a1:Z9}{r:Sl Z4}(hE:Z32 a0 a1=some r) (H:Heap){tk0:Nat}(htk0:H tk0=some (.tok 2 0)):ACalls Tryz.prog 25 [.agg (TDoc.c a0),.agg (Z9.c a1)] H fun v h'=>v=.a (.d (Sl.d 2 Z4.c (some tk0) r))/\h'=H.set tk0 (some (.tok 2 r.l.length)):=by cases hE
def Z37 (a0:TDoc) (a1:Z9):Option (Sl Z4):=none
theorem Z37_walk {a0:TDoc}{a1:Z9}{r:Sl Z4}(hE:Z37 a0 a1=some r) (H:Heap) :ACalls Tryz.prog 26 [.agg (TDoc.c a0),.agg (Z9.c a1)] H fun v h'=>v=.a (.d (Sl.d 2 Z4.c none r))/\h'=H:=by cases hE
def Z156 (a0:TDoc) (a1:Z9):Option (Sl Z4):=none
theorem Z156_walk {a0:TDoc}{a1:Z9}{r:Sl Z4}(hE:Z156 a0 a1=some r) (H:Heap) :ACalls Tryz.prog 27 [.agg (TDoc.c a0),.agg (Z9.c a1)] H fun v h'=>v=.a (.d (Sl.d 2 Z4.c none r))/\h'=H:=by cases hE
def Z147 (a0:TDoc) (a1:Z9):Option (Sl Z4):=(Z151 a0 a1).bind fun x4=>bif (decide ((0:Int)<((x4.l.length:Nat):Int))) then(some x4) else((Z33 a0 a1).bind fun x11=>bif (decide ((0:Int)<((x11.l.length:Nat):Int))) then(some x11) else((Z32 a0 a1).bind fun x17=>(Z37 a0 a1).bind fun x19=>(appC 24 x17 x19).bind fun x20=>(Z156 a0 a1).bind fun x22=>(appC 24 x20 x22).bind fun x23=>some x23))
theorem Z147_walk {a0:TDoc}{a1:Z9}{r:Sl Z4}(hE:Z147 a0 a1=some r) (H:Heap) :ACalls Tryz.prog 10 [.agg (TDoc.c a0),.agg (Z9.c a1)] H fun v h'=>v=.a (.d (Sl.d 2 Z4.c none r))/\h'=H:=by
 unfold Z147 at hE;refine ACalls.oW 35 [.tmp 4] Tryz.call10 Tryz.func10 ?_;refine seqR (S BX (S BX ?_));refine s0 (assignNil (k':=2) rfl) rfl ?_;refine nil ?_;refine seqK fun K2 hK2=>?_;refine seqR (S Ld (S Ld ?_));obtain⟨x4,gx4,hE⟩:=bO hE;refine Sc rfl rfl (Z151_walk gx4) ?_;refine S As (nil ?_);refine seqR (S Mv ?_);refine sLen (f:=Z4.c) (s:=x4) (TK rfl) rfl rfl rfl rfl fun hL6=>?_;refine S BI (nil ?_)
 refine cE hE (fun hc7 hE=>?_) (fun hc7 hE=>?_)
 ·refine seqR (S Mv (S As (nil ?_)));exact rt hE
 refine sk hK2 ?_;clear hK2 K2;refine seqK fun K9 hK9=>?_;refine seqR (S Ld (S Ld ?_));obtain⟨x11,gx11,hE⟩:=bO hE;refine Sc rfl rfl (Z33_walk gx11) ?_;refine S As (nil ?_);refine seqR (S Mv ?_);refine sLen (f:=Z4.c) (s:=x11) (TK rfl) rfl rfl rfl rfl fun hL13=>?_;refine S BI (nil ?_);refine cE hE (fun hc14 hE=>?_) (fun hc14 hE=>?_)
 ·refine seqR (S Mv (S As (nil ?_)));exact rt hE
 refine sk hK9 ?_;clear hK9 K9;refine AWp.tok 2 fun tk1 htk1=>?_;refine seqR (S Ld (S Ld ?_));obtain⟨x17,gx17,hE⟩:=bO hE;refine sH (callH rfl rfl (Z32_tok gx17 _ hpG)) rfl ?_;refine hq (H.set tk1 (some (.tok 2 x17.l.length))) ?_;refine S As (nil ?_);refine seqR (S Mv (S Ld (S Ld ?_)));obtain⟨x19,gx19,hE⟩:=bO hE;refine Sc rfl rfl (Z37_walk gx19) ?_;obtain⟨x20,gx20,hE⟩:=bO hE;refine SH (am Z4.c (TK rfl) rfl (TK rfl) (TK rfl) gx20) ?_
 refine hq (H.set tk1 (some (.tok 2 x20.l.length))) ?_;refine S As (nil ?_);refine seqR (S Mv (S Ld (S Ld ?_)));obtain⟨x22,gx22,hE⟩:=bO hE;refine Sc rfl rfl (Z156_walk gx22) ?_;obtain⟨x23,gx23,hE⟩:=bO hE;refine SH (am Z4.c (TK rfl) rfl (TK rfl) (TK rfl) gx23) ?_;refine hq (H.set tk1 (some (.tok 2 x23.l.length))) ?_;refine S As (nil ?_);refine AWp.dropTok 4 rfl ?_;refine AWp.ret ?_;repeat (first|refine xBlock_ret ?_|refine xThen_ret ?_)
 obtain rfl:=Option.some.inj hE;refine retQ.retF H rfl ⟨rfl,rfl⟩ ?_
 first|exact Heap.sub_set htk1|(simp only [Heap.set_set]; exact Heap.sub_set htk1)
def Z148_j11  :Option (Int×Int):=some ((0:Int),(8:Int))
def Z148_l15 (a0:Z9) (a1:Bs) :Nat->Nat->Option (Int×Int)
 | 0,_=>none
 | n15+1,s17_16=>bif (decide (((s17_16:Nat):Int)<((a0.FOps.l.length:Nat):Int))) then((a0.FOps.l[s17_16]?).bind fun x22=>bif ((x22.FName==a1)) then(some (((s17_16:Nat):Int),(0:Int))) else((Z148_l15 a0 a1 n15) (s17_16+1))) else(Z148_j11   )
def Z148 (a0:Z9) (a1:Bs):Option (Int×Int):=bif ((a1==([]:Bs))) then(bif (decide (((a0.FOps.l.length:Nat):Int)=(1:Int))) then(some ((0:Int),(0:Int))) else(some ((0:Int),(8:Int)))) else(Z148_l15 a0 a1 (a0.FOps.l.length+1) 0)
theorem Z148_walk {a0:Z9}{a1:Bs}{r:Int×Int}(hE:Z148 a0 a1=some r) (H:Heap) :ACalls Tryz.prog 11 [.agg (Z9.c a0),.d (.str a1)] H fun v h'=>v=.tup [.d (.int .i64 r.1),.d (.int .i64 r.2)]/\h'=H:=by
 unfold Z148 at hE;refine ACalls.oW 28 [.tmp 4,.tmp 5] Tryz.call11 Tryz.func11 ?_;refine seqR (S BX (S As (S As (nil ?_))));refine seqK fun K2 hK2=>?_;refine seqR (S Mv (S BS (nil ?_)));refine cE hE (fun hc4 hE=>?_) (fun hc4 hE=>?_)
 ·refine seqK fun K5 hK5=>?_;refine seqR (S Fv (S Ld ?_));refine sLen (f:=TOp.c) (s:=a0.FOps) (TK rfl) rfl rfl rfl rfl fun hL7=>?_;refine S BI (nil ?_);refine cE hE (fun hc8 hE=>?_) (fun hc8 hE=>?_)
  ·refine seqR (S As (S As (nil ?_)));exact rt hE
  refine sk hK5 ?_;clear hK5 K5;refine seqR (S As (S As (nil ?_)));exact rt hE
 refine sk hK2 ?_;clear hK2 K2;refine seqJH KeepsT.nil (fun(z:Unit)=>[]) (fun z=>H) (fun z=>Z148_j11 =some r) ?_ ?_
 ·intro K11 hK11;refine seqR (S Fv (S Ld ?_));refine sLen (f:=TOp.c) (s:=a0.FOps) (TK rfl) rfl rfl rfl rfl fun hL14=>?_;refine S Mv (nil ?_);refine block ?_;refine loopH (TA 1 (TA 15 (TA 16 KeepsT.nil))) (fun(z:Nat×Nat)=>[(17,.a (.d (.int .i64 ((z.2:Nat):Int))))]) (fun z=>H) (fun z=>z.1) (fun z=>Z148_l15 a0 a1 z.1 z.2=some r) ((a0.FOps.l.length+1),0) hE Weak.toA ?_;rintro ⟨n15,s17_16⟩ hE K15 hK15;try dsimp only at hE
  cases n15 with
  | zero=>cases hE
  | succ n15 =>
    rw [Z148_l15] at hE;refine seqR (S BI (nil ?_));refine seqK fun K18 hK18=>?_;refine cE hE (fun hc19 hE=>?_) (fun hc19 hE=>?_)
    ·try dsimp only at hc19
     have hf19:=of_decide_eq_true hc19;refine sk hK18 ?_;clear hK18 K18;refine seqK fun K20 hK20=>?_;refine block ?_;refine seqR (S Mv ?_);obtain⟨x22,gx22,hE⟩:=bO hE;refine S (ix TOp.c s17_16 gx22) (S Ld ?_);refine Sl ?_;refine S As ?_;refine Sf ?_;refine nil ?_;refine freezeA 7 _ rfl (KA 1 (KA 6 (KA 15 (KA 16 (KA 17 Keeps.nil))))) ?_;refine seqR (S Fv (S Ld (S Mv (S BS (nil ?_)))));refine cE hE (fun hc24 hE=>?_) (fun hc24 hE=>?_)
     ·refine seqR (S Mv (S As (S As (nil ?_))));exact rt hE
     refine sk hK20 ?_;clear hK20 K20;refine region ?_;refine SI ?_;refine S Mv (nil ?_);exact hK15 _ (n15,(s17_16+1)) Weak.toA hE (Nat.lt_succ_self _)
    refine AWp.exit ?_;exact hK11 _ () Weak.toA hE
 rintro _ hE;try dsimp only at hE
 unfold Z148_j11 at hE;refine seqR (S As (S As (nil ?_)));exact rt hE
def Z36 :Option Bool:=(Z147 (TDoc.mk (⟨false,[(TDef.mk (1:Int) ([81,117,101,114,121]:Bs) (Sl.nil:Sl Bs) (Sl.nil:Sl TDir) (⟨false,[(Z5.mk ([97]:Bs) (Sl.nil:Sl Z7) (TRef.mk ([73,110,116]:Bs) (Sl.nil:Sl Int)) (Sl.nil:Sl TDir)),(Z5.mk ([98]:Bs) (Sl.nil:Sl Z7) (TRef.mk ([73,110,116]:Bs) (Sl.nil:Sl Int)) (Sl.nil:Sl TDir))]⟩:Sl Z5) (Sl.nil:Sl Z8) (Sl.nil:Sl Z7))]⟩:Sl TDef)) (Z9.mk (⟨false,[(TOp.mk (1:Int) ([]:Bs) (Sl.nil:Sl TVar) (⟨false,[(TSel.mk (1:Int) ([]:Bs) ([97]:Bs) ([]:Bs) (Sl.nil:Sl TArg) (Sl.nil:Sl TDir) true ([]))]⟩:Sl TSel)),(TOp.mk (1:Int) ([]:Bs) (Sl.nil:Sl TVar) (⟨false,[(TSel.mk (1:Int) ([]:Bs) ([98]:Bs) ([]:Bs) (Sl.nil:Sl TArg) (Sl.nil:Sl TDir) true ([]))]⟩:Sl TSel))]⟩:Sl TOp) (Sl.nil:Sl Z6))).bind fun x5=>(Z148 (Z9.mk (⟨false,[(TOp.mk (1:Int) ([]:Bs) (Sl.nil:Sl TVar) (⟨false,[(TSel.mk (1:Int) ([]:Bs) ([97]:Bs) ([]:Bs) (Sl.nil:Sl TArg) (Sl.nil:Sl TDir) true ([]))]⟩:Sl TSel)),(TOp.mk (1:Int) ([]:Bs) (Sl.nil:Sl TVar) (⟨false,[(TSel.mk (1:Int) ([]:Bs) ([98]:Bs) ([]:Bs) (Sl.nil:Sl TArg) (Sl.nil:Sl TDir) true ([]))]⟩:Sl TSel))]⟩:Sl TOp) (Sl.nil:Sl Z6)) ([97]:Bs)).bind fun x7=>guardO (((decide (x7.2=(8:Int)))&&(decide (((x5.l.length:Nat):Int)=(2:Int))))) (x5.l[0]?) Z4.zero fun x9=>guardO ((((decide (x7.2=(8:Int)))&&(decide (((x5.l.length:Nat):Int)=(2:Int))))&&(decide (x9.FErr=(6:Int))))) (Z149 (TDoc.mk (⟨false,[(TDef.mk (1:Int) ([81,117,101,114,121]:Bs) (Sl.nil:Sl Bs) (Sl.nil:Sl TDir) (⟨false,[(Z5.mk ([97]:Bs) (Sl.nil:Sl Z7) (TRef.mk ([73,110,116]:Bs) (Sl.nil:Sl Int)) (Sl.nil:Sl TDir)),(Z5.mk ([98]:Bs) (Sl.nil:Sl Z7) (TRef.mk ([73,110,116]:Bs) (Sl.nil:Sl Int)) (Sl.nil:Sl TDir))]⟩:Sl Z5) (Sl.nil:Sl Z8) (Sl.nil:Sl Z7))]⟩:Sl TDef))) (Sl.nil:Sl Z4) fun x10=>some ((((decide (x7.2=(8:Int)))&&(decide (((x5.l.length:Nat):Int)=(2:Int))))&&(decide (x9.FErr=(6:Int))))&&(decide (((x10.l.length:Nat):Int)=(0:Int))))
theorem Z36_walk  {oT:Ab.Obj}{gT:Nat}{r:Bool}(hE:Z36 =some r) (H:Heap) (hgT:H gT=some oT) (hoT:IsTab Tryz.prog oT):ACalls Tryz.prog 5 [] H fun v h'=>v=.a (.d (.bool r))/\h'=H:=by
 unfold Z36 at hE;refine ACalls.oW 50 [.tmp 0] Tryz.call5 Tryz.func5 ?_;refine seqR (S As (nil ?_));refine seqR (S BU (S BU (S BU (S BU (S BV (S BU (S BV (S BU ?_))))))));refine Sl ?_;refine Sf ?_;refine nil ?_;refine freezeA 1 _ rfl Keeps.nil ?_;refine seqR (S BU (S BV (S BU (S BU (S BV (S BU (S BV (S BU ?_))))))));refine Sl ?_;refine Sf ?_;refine nil ?_;refine freezeA 2 _ rfl (KA 1 Keeps.nil) ?_
 refine seqR (S Ld (S Ld ?_));obtain⟨x5,gx5,hE⟩:=bO hE;refine Sc rfl rfl (Z147_walk gx5) ?_;refine S As (nil ?_);refine seqR (S Ld ?_);obtain⟨x7,gx7,hE⟩:=bO hE;refine Sc rfl rfl (Z148_walk gx7) ?_;refine S Mv (S EX (S EX (S As (S As (nil ?_)))));refine seqR (S Mv (S BI (S Mv (G0 Mv ?_))));refine gC rfl rfl (fun hC=>ungdA (k:=33) rfl (lenM' (f:=Z4.c) (s:=x5) (TK rfl) rfl rfl rfl)) rfl ?_;refine G1 34 rfl BI ?_
 refine S PA (S Mv (G0 Mv ?_));obtain⟨x9,gx9,hE⟩:=gO hE;refine gC rfl rfl (fun hC=>ungdA (k:=38) rfl (idxMn (f:=Z4.c) (n:=0) (TK rfl) rfl (TK rfl) rfl rfl rfl (gx9 hC))) rfl ?_;refine G1 39 rfl Fv ?_;refine G1 40 rfl Ld ?_;refine G1 41 rfl BI ?_;refine S PA (S Mv (G0 Ld ?_));obtain⟨x10,gx10,hE⟩:=gO hE;refine gC rfl rfl (fun hC=>ungdA (k:=45) rfl (callR rfl rfl (Z149_walk (gT:=gT) (oT:=oT) (gx10 hC) _ hpG (by assumption)))) rfl ?_
 refine gC rfl rfl (fun hC=>ungdA (k:=46) rfl (lenM' (f:=Z4.c) (s:=x10) (TK rfl) rfl rfl rfl)) rfl ?_;refine G1 47 rfl BI ?_;refine S PA (S As (nil ?_));exact rt hE
end Go.Proofs
