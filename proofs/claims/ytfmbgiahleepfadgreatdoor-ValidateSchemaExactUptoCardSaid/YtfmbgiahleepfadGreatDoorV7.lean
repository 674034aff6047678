import Derived.Test.YtfmbgiahleepfadGreatDoorV6
set_option maxRecDepth 100000
set_option maxHeartbeats 2000000
set_option linter.unusedVariables false
set_option linter.unusedSimpArgs false
namespace Go.Proofs
open Go Go.Ab
open AOps Cert AWp Keeps KeepsT
variable {lou:Lou}
def r12_work_coerce_j22  (y23_c0:Z2):Option (Z10×Z2):=some ((Z10.mk (0:Int) (0:Int) ([]:Bs) true ([]) (Sl.nil:Sl Bs)),y23_c0)
def r12_work_coerce_j9 (a1:TRef) (a3:Int) (k_rec_200:Z2->TRef->Z10->Int->Option (Z10×Z2)) (k_rec_203:Z2->TDef->Z10->Int->Option (Z10×Z2)) (y10_c0:Z2) (y11_l0:Z10) (y12_l1:Z10):Option (Z10×Z2):=(Z105 y10_c0 a3).bind fun x14=>bif (!decide (x14.Ferr=(0:Int))) then(some ((Z10.mk (0:Int) (0:Int) ([]:Bs) true ([]) (Sl.nil:Sl Bs)),x14)) else(bif (decide (y11_l0.FKind=(0:Int))) then((Z54 a1).bind fun x26=>bif x26 then((Z103 x14 (23:Int)).bind fun x28=>r12_work_coerce_j22   x28) else(r12_work_coerce_j22   x14)) else((Z52 a1).bind fun x31=>bif x31.2 then((k_rec_200 x14 x31.1 y11_l0 a3).bind fun x35=>some (x35.1,x35.2)) else((Z74 a1.FName).bind fun x38=>bif x38 then((Z108 x14 a1.FName y11_l0).bind fun x41=>some (x41.1,x41.2)) else((Z70 x14.Fd a1.FName).bind fun x43=>bif (decide (x43.1.FKind=(4:Int))) then((Z102 x14 x43.1 y11_l0).bind fun x48=>some (x48.1,x48.2)) else((k_rec_203 x14 x43.1 y11_l0 a3).bind fun x50=>some (x50.1,x50.2))))))
def r12_work_list_j7  (y8_c0:Z2) (y9_l1:Z10):Option (Z10×Z2):=some (y9_l1,y8_c0)
def r12_work_list_l12 (a1:TRef) (a3:Int) (s9_4:(Sl Z10)) (k_rec_178:Z2->TRef->Z10->Int->Option (Z10×Z2)):Nat->Nat->Z2->Z10->Option (Z10×Z2)
 | 0,_,_,_=>none
 | n12+1,s11_13,y14_c0,y15_l1=>bif ((decide (((s11_13:Nat):Int)<((s9_4.l.length:Nat):Int)))&&(decide (y14_c0.Ferr=(0:Int)))) then((s9_4.l[s11_13]?).bind fun x22=>(addC a3 (1:Int)).bind fun x23=>(k_rec_178 y14_c0 a1 x22 x23).bind fun x24=>(appC 80 y15_l1.FItems (⟨false,[x24.1]⟩:Sl Z10)).bind fun x25=>(r12_work_list_l12 a1 a3 s9_4 k_rec_178 n12) (s11_13+1) x24.2 (Z10.mk y15_l1.FKind y15_l1.FInt y15_l1.FText x25.nl x25.l y15_l1.FKeys)) else(r12_work_list_j7   y14_c0 y15_l1)
def r12_work_list_j3 (a0:Z2) (a1:TRef) (a3:Int) (k_rec_178:Z2->TRef->Z10->Int->Option (Z10×Z2)) (s9_4:(Sl Z10)):Option (Z10×Z2):=r12_work_list_l12 a1 a3 s9_4 k_rec_178 (s9_4.l.length+1) 0 a0 (Z10.mk (5:Int) (0:Int) ([]:Bs) true ([]) (Sl.nil:Sl Bs))
def r12_work_object_j13  (y14_c0:Z2) (y15_l1:Z10):Option (Z10×Z2):=some (y15_l1,y14_c0)
def r12_work_object_j26 (s13_19:Nat) (k_next_18:Nat->Z2->Z10->Option (Z10×Z2)) (y27_c0:Z2) (y28_l1:Z10):Option (Z10×Z2):=k_next_18 (s13_19+1) y27_c0 y28_l1
def r12_work_object_j38 (s13_19:Nat) (y21_l1:Z10) (x30:Z7) (k_next_18:Nat->Z2->Z10->Option (Z10×Z2)) (y39_c0:Z2) (y40_l2:Z10):Option (Z10×Z2):=(appC 16 y21_l1.FKeys (⟨false,[x30.FName]⟩:Sl Bs)).bind fun x42=>(appC 80 y21_l1.FItems (⟨false,[y40_l2]⟩:Sl Z10)).bind fun x43=>r12_work_object_j26 s13_19 k_next_18 y39_c0 (Z10.mk y21_l1.FKind y21_l1.FInt y21_l1.FText x43.nl x43.l x42)
def r12_work_object_l18 (a1:TDef) (a2:Z10) (a3:Int) (k_rec_178:Z2->TRef->Z10->Int->Option (Z10×Z2)) (k_rec_219:Z2->TRef->Z10->Int->Option (Z10×Z2)):Nat->Nat->Z2->Z10->Option (Z10×Z2)
 | 0,_,_,_=>none
 | n18+1,s13_19,y20_c0,y21_l1=>bif ((decide (((s13_19:Nat):Int)<((a1.FInputs.l.length:Nat):Int)))&&(decide (y20_c0.Ferr=(0:Int)))) then((a1.FInputs.l[s13_19]?).bind fun x30=>(Z101 a1.FInputs ((s13_19:Nat):Int)).bind fun x33=>bif x33 then(r12_work_object_j26 s13_19 ((r12_work_object_l18 a1 a2 a3 k_rec_178 k_rec_219 n18)) y20_c0 y21_l1) else((Z45 a2 x30.FName).bind fun x36=>guardO (x36.2) (Z104 y20_c0 x36.1) false fun x45=>bif (x36.2&&(!x45)) then((addC a3 (1:Int)).bind fun x47=>(k_rec_178 y20_c0 x30.FType x36.1 x47).bind fun x48=>r12_work_object_j38 s13_19 y21_l1 x30 ((r12_work_object_l18 a1 a2 a3 k_rec_178 k_rec_219 n18)) x48.2 x48.1) else(bif x30.FHas then((addC a3 (1:Int)).bind fun x51=>(k_rec_219 y20_c0 x30.FType x30.FDefault x51).bind fun x52=>r12_work_object_j38 s13_19 y21_l1 x30 ((r12_work_object_l18 a1 a2 a3 k_rec_178 k_rec_219 n18)) x52.2 x52.1) else((Z54 x30.FType).bind fun x54=>bif x54 then((Z103 y20_c0 (22:Int)).bind fun x56=>r12_work_object_j38 s13_19 y21_l1 x30 ((r12_work_object_l18 a1 a2 a3 k_rec_178 k_rec_219 n18)) x56 Z10.zero) else(r12_work_object_j26 s13_19 ((r12_work_object_l18 a1 a2 a3 k_rec_178 k_rec_219 n18)) y20_c0 y21_l1))))) else(r12_work_object_j13   y20_c0 y21_l1)
def r12_work_object_j8 (a1:TDef) (a2:Z10) (a3:Int) (k_rec_178:Z2->TRef->Z10->Int->Option (Z10×Z2)) (k_rec_219:Z2->TRef->Z10->Int->Option (Z10×Z2)) (y9_c0:Z2):Option (Z10×Z2):=r12_work_object_l18 a1 a2 a3 k_rec_178 k_rec_219 (a1.FInputs.l.length+1) 0 y9_c0 (Z10.mk (6:Int) (0:Int) ([]:Bs) true ([]) (Sl.nil:Sl Bs))
def r12_work_object_j65 (s9_59:Nat) (k_next_58:Nat->Z2->Option (Z10×Z2)) (y66_c0:Z2):Option (Z10×Z2):=k_next_58 (s9_59+1) y66_c0
def r12_work_object_l58 (a1:TDef) (a2:Z10) (a3:Int) (k_rec_178:Z2->TRef->Z10->Int->Option (Z10×Z2)) (k_rec_219:Z2->TRef->Z10->Int->Option (Z10×Z2)):Nat->Nat->Z2->Option (Z10×Z2)
 | 0,_,_=>none
 | n58+1,s9_59,y60_c0=>bif (decide (((s9_59:Nat):Int)<((a2.FKeys.l.length:Nat):Int))) then((a2.FKeys.l[s9_59]?).bind fun x68=>(Z71 a1.FInputs x68).bind fun x69=>bif (!x69.2) then((Z103 y60_c0 (22:Int)).bind fun x72=>r12_work_object_j65 s9_59 ((r12_work_object_l58 a1 a2 a3 k_rec_178 k_rec_219 n58)) x72) else(r12_work_object_j65 s9_59 ((r12_work_object_l58 a1 a2 a3 k_rec_178 k_rec_219 n58)) y60_c0)) else(r12_work_object_j8 a1 a2 a3 k_rec_178 k_rec_219 y60_c0)
mutual
def r12_work_coerce_n:Nat->Z2->TRef->Z10->Int->Option (Z10×Z2)
 | 0,_,_,_,_=>none
 | n+1,a0,a1,a2,a3=>(Z72 a0.Fd a1.FName).bind fun x4=>bif (!x4) then((Z103 a0 (10:Int)).bind fun x7=>some ((Z10.mk (0:Int) (0:Int) ([]:Bs) true ([]) (Sl.nil:Sl Bs)),x7)) else(bif (a0.Flit&&(decide (a2.FKind=(7:Int)))) then((Z45 a0.Fvars a2.FText).bind fun x54=>bif (!decide (x54.1.FKind=(0:Int))) then((Z109 a0 x54.1 a3).bind fun x59=>some (x59.1,x59.2)) else(r12_work_coerce_j9 a1 a3 (r12_work_list_n n) (r12_work_object_n n) a0 (Z10.mk (0:Int) (0:Int) ([]:Bs) true ([]) (Sl.nil:Sl Bs)) Z10.zero)) else(r12_work_coerce_j9 a1 a3 (r12_work_list_n n) (r12_work_object_n n) a0 a2 Z10.zero))
def r12_work_list_n:Nat->Z2->TRef->Z10->Int->Option (Z10×Z2)
 | 0,_,_,_,_=>none
 | n+1,a0,a1,a2,a3=>bif (decide (a2.FKind=(5:Int))) then(r12_work_list_j3 a0 a1 a3 (r12_work_coerce_n n) a2.FItems) else(r12_work_list_j3 a0 a1 a3 (r12_work_coerce_n n) (⟨false,[a2]⟩:Sl Z10))
def r12_work_object_n:Nat->Z2->TDef->Z10->Int->Option (Z10×Z2)
 | 0,_,_,_,_=>none
 | n+1,a0,a1,a2,a3=>bif (!decide (a2.FKind=(6:Int))) then((Z103 a0 (23:Int)).bind fun x6=>some ((Z10.mk (0:Int) (0:Int) ([]:Bs) true ([]) (Sl.nil:Sl Bs)),x6)) else(r12_work_object_l58 a1 a2 a3 (r12_work_coerce_n n) (Z106_n n) (a2.FKeys.l.length+1) 0 a0)
def Z106_n:Nat->Z2->TRef->Z10->Int->Option (Z10×Z2)
 | 0,_,_,_,_=>none
 | n+1,a0,a1,a2,a3=>((r12_work_coerce_n n) (Z2.mk a0.Fd (Z10.mk (0:Int) (0:Int) ([]:Bs) true ([]) (Sl.nil:Sl Bs)) true a0.Fcount a0.Ferr) a1 a2 a3).bind fun x5=>some (x5.1,(Z2.mk x5.2.Fd a0.Fvars a0.Flit x5.2.Fcount x5.2.Ferr))
end
theorem r12_work_coerce_step (n:Nat) (ih_178:∀{a0:Z2}{a1:TRef}{a2:Z10}{a3:Int}{c0:Nat}{r:Z10×Z2},r12_work_coerce_n n a0 a1 a2 a3=some r->∀(H:Heap) (hc0:H c0=some (.cells (Z2.c a0))),ACalls Tryz.prog 178 [.d (.ptr c0 0),.agg (TRef.c a1),.agg (Z10.c a2),.d (.int .i64 a3)] H fun v h'=>v=.a (.agg (Z10.c r.1))/\h'=(H.set c0 (some (.cells (Z2.c r.2))))) (ih_200:∀{a0:Z2}{a1:TRef}{a2:Z10}{a3:Int}{c0:Nat}{r:Z10×Z2},r12_work_list_n n a0 a1 a2 a3=some r->∀(H:Heap) (hc0:H c0=some (.cells (Z2.c a0))),ACalls Tryz.prog 200 [.d (.ptr c0 0),.agg (TRef.c a1),.agg (Z10.c a2),.d (.int .i64 a3)] H fun v h'=>v=.a (.agg (Z10.c r.1))/\h'=(H.set c0 (some (.cells (Z2.c r.2))))) (ih_203:∀{a0:Z2}{a1:TDef}{a2:Z10}{a3:Int}{c0:Nat}{r:Z10×Z2},r12_work_object_n n a0 a1 a2 a3=some r->∀(H:Heap) (hc0:H c0=some (.cells (Z2.c a0))),ACalls Tryz.prog 203 [.d (.ptr c0 0),.agg (TDef.c a1),.agg (Z10.c a2),.d (.int .i64 a3)] H fun v h'=>v=.a (.agg (Z10.c r.1))/\h'=(H.set c0 (some (.cells (Z2.c r.2))))) (ih_219:∀{a0:Z2}{a1:TRef}{a2:Z10}{a3:Int}{c0:Nat}{r:Z10×Z2},Z106_n n a0 a1 a2 a3=some r->∀(H:Heap) (hc0:H c0=some (.cells (Z2.c a0))),ACalls Tryz.prog 219 [.d (.ptr c0 0),.agg (TRef.c a1),.agg (Z10.c a2),.d (.int .i64 a3)] H fun v h'=>v=.a (.agg (Z10.c r.1))/\h'=(H.set c0 (some (.cells (Z2.c r.2))))):∀{a0:Z2}{a1:TRef}{a2:Z10}{a3:Int}{c0:Nat}{r:Z10×Z2},r12_work_coerce_n (n+1) a0 a1 a2 a3=some r->∀(H:Heap) (hc0:H c0=some (.cells (Z2.c a0))),ACalls Tryz.prog 178 [.d (.ptr c0 0),.agg (TRef.c a1),.agg (Z10.c a2),.d (.int .i64 a3)] H fun v h'=>v=.a (.agg (Z10.c r.1))/\h'=(H.set c0 (some (.cells (Z2.c r.2)))):=by
 intro a0 a1 a2 a3  c0 r hE H hc0;rw [r12_work_coerce_n] at hE;refine ACalls.oW 111 [.cell 8 86] Tryz.call178 Tryz.func178 ?_;refine AWp.heqA (h':=(H.set c0 (some (.cells (Z2.c a0))))) (by funext n_; simp only [Heap.set]; (repeat' split)<;>simp_all) ?_;refine seqR (S BX ?_);refine sL (boxL rfl (by repeat (first|exact Snoc.nil|apply Snoc.cons))) rfl ?_;refine Sl ?_;refine nil ?_;refine seqK fun K2 hK2=>?_
 refine AWp.seqD (Sd Mv (Sd NP ?_));refine DOps.s0 (fieldP (TK rfl) rfl rfl (TK rfl) rfl rfl) rfl ?_;refine DOps.s0 (loadP (TK rfl) rfl rfl hpG rfl) rfl ?_;refine Sd Fv (Sd Ld ?_);obtain⟨x4,gx4,hE⟩:=bO hE;refine Scd rfl rfl (Z72_walk gx4) ?_;refine Sd NB ?_;refine DOps.nil (by decide +kernel) ?_;refine cE hE (fun hc5 hE=>?_) (fun hc5 hE=>?_)
 ·refine seqR (S Mv ?_);obtain⟨x7,gx7,hE⟩:=bO hE;refine sH (callH rfl rfl (Z103_walk gx7 _ hpG)) rfl ?_;refine hq (H.set c0 (some (.cells (Z2.c x7)))) ?_;refine nil ?_;refine seqR (S BU ?_);refine Sf ?_;refine nil ?_;exact rt hE
 refine sk hK2 ?_;clear hK2 K2;refine seqJ (TA 0 (TA 3 (TA 5 (TA 6 (TA 8 KeepsT.nil))))) (fun(z:Z2×Z10×Z10)=>[]) (fun z=>[Z10.c z.2.1,Z10.c z.2.2]) (fun z=>(H.set c0 (some (.cells (Z2.c z.1))))) (fun z=>r12_work_coerce_j9 a1 a3 (r12_work_list_n n) (r12_work_object_n n) z.1 z.2.1 z.2.2=some r) ?_ ?_
 ·intro K9 hK9;refine seqR (S Mv (S NP ?_));refine s0 (fieldP (TK rfl) rfl rfl (TK rfl) rfl rfl) rfl ?_;refine s0 (loadP (TK rfl) rfl rfl hpG rfl) rfl ?_;refine S Mv (G0 FL ?_);refine gC rfl rfl (fun hC=>ungdLA (k:=31) rfl (loadL (TK rfl) rfl rfl rfl rfl)) rfl ?_;refine G1 32 rfl BI ?_;refine S PA (nil ?_);refine cE hE (fun hc52 hE=>?_) (fun hc52 hE=>?_)
  ·refine AWp.seqD (Sd Mv (Sd NP ?_));refine DOps.s0 (fieldP (TK rfl) rfl rfl (TK rfl) rfl rfl) rfl ?_;refine DOps.s0 (loadP (TK rfl) rfl rfl hpG rfl) rfl ?_;refine Sd FL (Sd LL ?_);obtain⟨x54,gx54,hE⟩:=bO hE;refine Scd rfl rfl (Z45_walk gx54) ?_;refine Sd Mv (Sd EX (Sd EX ?_));refine DOps.sB (TK rfl) rfl rfl ?_ (by repeat (first|exact Snoc.nil|apply Snoc.cons));refine DOps.sLn (storeLFA (TK rfl) rfl rfl rfl rfl rfl) ?_
   refine Sd As ?_;refine DOps.nil (by decide +kernel) ?_;refine freezeA 9 _ rfl (KA 0 (KA 3 (KA 5 (KA 6 (KA 8 Keeps.nil))))) ?_;refine seqK fun K55 hK55=>?_;refine seqR (S Fv (S Ld (S BI (nil ?_))));refine cE hE (fun hc57 hE=>?_) (fun hc57 hE=>?_)
   ·refine seqR (S Mv (S Ld (S Mv ?_)));obtain⟨x59,gx59,hE⟩:=bO hE;refine sH (callH rfl rfl (Z109_walk gx59 _ hpG)) rfl ?_;refine hq (H.set c0 (some (.cells (Z2.c x59.2)))) ?_;refine Sf ?_;refine nil ?_;exact rt hE
   refine sk hK55 ?_;clear hK55 K55;refine region ?_;refine S BU ?_;refine Sf ?_;refine nil ?_;exact hK9 _ (a0,(Z10.mk (0:Int) (0:Int) ([]:Bs) true ([]) (Sl.nil:Sl Bs)),Z10.zero) Weak.toA hE
  refine AWp.skip ?_;exact hK9 _ (a0,a2,Z10.zero) Weak.toA hE
 rintro ⟨y10_c0,y11_l0,y12_l1⟩ hE;try dsimp only at hE
 unfold r12_work_coerce_j9 at hE;refine seqR (S Mv (S Mv ?_));obtain⟨x14,gx14,hE⟩:=bO hE;refine sH (callH rfl rfl (Z105_walk gx14 _ hpG)) rfl ?_;refine hq (H.set c0 (some (.cells (Z2.c x14)))) ?_;refine nil ?_;refine seqK fun K15 hK15=>?_;refine seqR (S Mv (S NP ?_));refine s0 (fieldP (TK rfl) rfl rfl (TK rfl) rfl rfl) rfl ?_;refine s0 (loadP (TK rfl) rfl rfl hpG rfl) rfl ?_;refine S BI (nil ?_);refine cE hE (fun hc17 hE=>?_) (fun hc17 hE=>?_)
 ·refine seqR (S BU ?_);refine Sf ?_;refine nil ?_;exact rt hE
 refine sk hK15 ?_;clear hK15 K15;refine seqK fun K19 hK19=>?_;refine seqR (S FL (S LL (S BI (nil ?_))));refine cE hE (fun hc21 hE=>?_) (fun hc21 hE=>?_)
 ·refine seqJH (TA 8 KeepsT.nil) (fun(z:Z2)=>[]) (fun z=>(H.set c0 (some (.cells (Z2.c z))))) (fun z=>r12_work_coerce_j22 z=some r) ?_ ?_
  ·intro K22 hK22;refine seqR (S Ld ?_);obtain⟨x26,gx26,hE⟩:=bO hE;refine Sc rfl rfl (Z54_walk gx26) ?_;refine nil ?_;refine cE hE (fun hc27 hE=>?_) (fun hc27 hE=>?_)
   ·refine region ?_;refine S Mv ?_;obtain⟨x28,gx28,hE⟩:=bO hE;refine sH (callH rfl rfl (Z103_walk gx28 _ hpG)) rfl ?_;refine hq (H.set c0 (some (.cells (Z2.c x28)))) ?_;refine nil ?_;exact hK22 _ x28 Weak.toA hE
   refine AWp.skip ?_;exact hK22 _ x14 Weak.toA hE
  rintro y23_c0 hE;try dsimp only at hE
  unfold r12_work_coerce_j22 at hE;refine seqR (S BU ?_);refine Sf ?_;refine nil ?_;exact rt hE
 refine sk hK19 ?_;clear hK19 K19;refine seqK fun K29 hK29=>?_;refine seqR (S Ld ?_);obtain⟨x31,gx31,hE⟩:=bO hE;refine Sc rfl rfl (Z52_walk gx31) ?_;refine S Mv (S EX (S EX ?_));refine Sl ?_;refine Sf ?_;refine S As (nil ?_);refine freezeA 11 _ rfl (KA 0 (KA 3 (KA 5 (KA 6 (KA 8 (KA 12 Keeps.nil)))))) ?_;refine seqR (S Mv (nil ?_));refine cE hE (fun hc33 hE=>?_) (fun hc33 hE=>?_)
 ·refine seqR (S Mv (S Ld (S LL (S Mv ?_))));obtain⟨x35,gx35,hE⟩:=bO hE;refine sH (callH rfl rfl (ih_200 gx35 _ hpG)) rfl ?_;refine hq (H.set c0 (some (.cells (Z2.c x35.2)))) ?_;refine Sf ?_;refine nil ?_;exact rt hE
 refine sk hK29 ?_;clear hK29 K29;refine seqK fun K36 hK36=>?_;refine seqR (S Fv (S Ld ?_));obtain⟨x38,gx38,hE⟩:=bO hE;refine Sc rfl rfl (Z74_walk gx38) ?_;refine nil ?_;refine cE hE (fun hc39 hE=>?_) (fun hc39 hE=>?_)
 ·refine seqR (S Mv (S Fv (S Ld (S LL ?_))));obtain⟨x41,gx41,hE⟩:=bO hE;refine sH (callH rfl rfl (Z108_walk gx41 _ hpG)) rfl ?_;refine hq (H.set c0 (some (.cells (Z2.c x41.2)))) ?_;refine Sf ?_;refine nil ?_;exact rt hE
 refine sk hK36 ?_;clear hK36 K36;refine AWp.seqD (Sd Mv (Sd NP ?_));refine DOps.s0 (fieldP (TK rfl) rfl rfl (TK rfl) rfl rfl) rfl ?_;refine DOps.s0 (loadP (TK rfl) rfl rfl hpG rfl) rfl ?_;refine Sd Fv (Sd Ld ?_);obtain⟨x43,gx43,hE⟩:=bO hE;refine Scd rfl rfl (Z70_walk gx43) ?_;refine Sd Mv (Sd EX (Sd EX ?_));refine DOps.sB (TK rfl) rfl rfl ?_ (by repeat (first|exact Snoc.nil|apply Snoc.cons));refine DOps.sLn (storeLFA (TK rfl) rfl rfl rfl rfl rfl) ?_
 refine Sd As ?_;refine DOps.nil (by decide +kernel) ?_;refine freezeA 13 _ rfl (KA 0 (KA 3 (KA 6 (KA 8 Keeps.nil)))) ?_;refine seqK fun K44 hK44=>?_;refine seqR (S Fv (S Ld (S BI (nil ?_))));refine cE hE (fun hc46 hE=>?_) (fun hc46 hE=>?_)
 ·refine seqR (S Mv (S Ld (S LL ?_)));obtain⟨x48,gx48,hE⟩:=bO hE;refine sH (callH rfl rfl (Z102_walk gx48 _ hpG)) rfl ?_;refine hq (H.set c0 (some (.cells (Z2.c x48.2)))) ?_;refine Sf ?_;refine nil ?_;exact rt hE
 refine sk hK44 ?_;clear hK44 K44;refine seqR (S Mv (S Ld (S LL (S Mv ?_))));obtain⟨x50,gx50,hE⟩:=bO hE;refine sH (callH rfl rfl (ih_203 gx50 _ hpG)) rfl ?_;refine hq (H.set c0 (some (.cells (Z2.c x50.2)))) ?_;refine Sf ?_;refine nil ?_;exact rt hE
theorem r12_work_list_step (n:Nat) (ih_178:∀{a0:Z2}{a1:TRef}{a2:Z10}{a3:Int}{c0:Nat}{r:Z10×Z2},r12_work_coerce_n n a0 a1 a2 a3=some r->∀(H:Heap) (hc0:H c0=some (.cells (Z2.c a0))),ACalls Tryz.prog 178 [.d (.ptr c0 0),.agg (TRef.c a1),.agg (Z10.c a2),.d (.int .i64 a3)] H fun v h'=>v=.a (.agg (Z10.c r.1))/\h'=(H.set c0 (some (.cells (Z2.c r.2))))) (ih_200:∀{a0:Z2}{a1:TRef}{a2:Z10}{a3:Int}{c0:Nat}{r:Z10×Z2},r12_work_list_n n a0 a1 a2 a3=some r->∀(H:Heap) (hc0:H c0=some (.cells (Z2.c a0))),ACalls Tryz.prog 200 [.d (.ptr c0 0),.agg (TRef.c a1),.agg (Z10.c a2),.d (.int .i64 a3)] H fun v h'=>v=.a (.agg (Z10.c r.1))/\h'=(H.set c0 (some (.cells (Z2.c r.2))))) (ih_203:∀{a0:Z2}{a1:TDef}{a2:Z10}{a3:Int}{c0:Nat}{r:Z10×Z2},r12_work_object_n n a0 a1 a2 a3=some r->∀(H:Heap) (hc0:H c0=some (.cells (Z2.c a0))),ACalls Tryz.prog 203 [.d (.ptr c0 0),.agg (TDef.c a1),.agg (Z10.c a2),.d (.int .i64 a3)] H fun v h'=>v=.a (.agg (Z10.c r.1))/\h'=(H.set c0 (some (.cells (Z2.c r.2))))) (ih_219:∀{a0:Z2}{a1:TRef}{a2:Z10}{a3:Int}{c0:Nat}{r:Z10×Z2},Z106_n n a0 a1 a2 a3=some r->∀(H:Heap) (hc0:H c0=some (.cells (Z2.c a0))),ACalls Tryz.prog 219 [.d (.ptr c0 0),.agg (TRef.c a1),.agg (Z10.c a2),.d (.int .i64 a3)] H fun v h'=>v=.a (.agg (Z10.c r.1))/\h'=(H.set c0 (some (.cells (Z2.c r.2))))):∀{a0:Z2}{a1:TRef}{a2:Z10}{a3:Int}{c0:Nat}{r:Z10×Z2},r12_work_list_n (n+1) a0 a1 a2 a3=some r->∀(H:Heap) (hc0:H c0=some (.cells (Z2.c a0))),ACalls Tryz.prog 200 [.d (.ptr c0 0),.agg (TRef.c a1),.agg (Z10.c a2),.d (.int .i64 a3)] H fun v h'=>v=.a (.agg (Z10.c r.1))/\h'=(H.set c0 (some (.cells (Z2.c r.2)))):=by
 intro a0 a1 a2 a3  c0 r hE H hc0;rw [r12_work_list_n] at hE;refine ACalls.oW 50 [.cell 8 86] Tryz.call200 Tryz.func200 ?_;refine AWp.heqA (h':=(H.set c0 (some (.cells (Z2.c a0))))) (by funext n_; simp only [Heap.set]; (repeat' split)<;>simp_all) ?_;refine seqR (S BX (S BX ?_));refine Sl ?_;refine nil ?_;refine seqR (S Ld (S BV (S As (nil ?_))));refine seqJH (TA 0 (TA 3 (TA 5 (TA 8 KeepsT.nil)))) (fun(z:(Sl Z10))=>[(9,.a (.d (Sl.d 5 Z10.c none z)))]) (fun z=>(H.set c0 (some (.cells (Z2.c a0))))) (fun z=>r12_work_list_j3 a0 a1 a3 (r12_work_coerce_n n) z=some r) ?_ ?_
 ·intro K3 hK3;refine seqR (S Fv (S Ld (S BI (nil ?_))));refine cE hE (fun hc27 hE=>?_) (fun hc27 hE=>?_)
  ·refine region ?_;refine S Fv ?_;refine s0 (loadV (TK rfl) rfl rfl (congrArg (fun x=>some (A.d x)) (Z10.FItemsD_eq _))) rfl ?_;refine S As (nil ?_);exact hK3 _ a2.FItems Weak.toA hE
  refine AWp.skip ?_;exact hK3 _ (⟨false,[a2]⟩:Sl Z10) Weak.toA hE
 rintro s9_4 hE;try dsimp only at hE
 unfold r12_work_list_j3 at hE;refine seqR (S BU ?_);refine Sl ?_;refine AOps.tok 5 fun tk10_6 htk10_6=>?_;obtain⟨ne_tk10_6_c0,htk10_6⟩:=Heap.set_fresh htk10_6;refine AOps.relocal 1 _ rfl (fun j w cs hh hx=>tok_cell 3 5 5 hh (t:=tk10_6) hpG hx rfl) ?_;refine Sf ?_;refine AOps.relocal 1 _ rfl (fun j w cs hh hx=>tok_cell 3 5 5 hh (t:=tk10_6) hpG hx rfl) ?_;refine nil ?_;refine seqJ (TA 8 (TA 10 KeepsT.nil)) (fun(z:Z2×Z10)=>[]) (fun z=>[Z10.c Z10.zero,((intE .i64) z.2.FKind++(intE .i64) z.2.FInt++strE z.2.FText++[Sl.d 5 Z10.c (some tk10_6) z.2.FItems]++(fun s=>[Sl.d 1 strE none s]) z.2.FKeys)]) (fun z=>((H.set c0 (some (.cells (Z2.c z.1)))).set tk10_6 (some (.tok 5 z.2.FItems.l.length)))) (fun z=>r12_work_list_j7 z.1 z.2=some r) ?_ ?_
 ·intro K7 hK7;refine seqR (S As (nil ?_));refine block ?_;refine loopO (TA 0 (TA 3 (TA 5 (TA 8 (TA 9 (TA 10 KeepsT.nil)))))) (fun(z:Nat×Nat×Z2×Z10)=>[(11,.a (.d (.int .i64 ((z.2.1:Nat):Int))))]) (fun z=>[Z10.c Z10.zero,((intE .i64) z.2.2.2.FKind++(intE .i64) z.2.2.2.FInt++strE z.2.2.2.FText++[Sl.d 5 Z10.c (some tk10_6) z.2.2.2.FItems]++(fun s=>[Sl.d 1 strE none s]) z.2.2.2.FKeys)]) (fun z=>((H.set c0 (some (.cells (Z2.c z.2.2.1)))).set tk10_6 (some (.tok 5 z.2.2.2.FItems.l.length)))) (fun z=>z.1) (fun z=>r12_work_list_l12 a1 a3 s9_4 (r12_work_coerce_n n) z.1 z.2.1 z.2.2.1 z.2.2.2=some r) ((s9_4.l.length+1),0,a0,(Z10.mk (5:Int) (0:Int) ([]:Bs) true ([]) (Sl.nil:Sl Bs))) hE Weak.toA ?_
  rintro ⟨n12,s11_13,y14_c0,y15_l1⟩ hE K12 hK12;try dsimp only at hE
  cases n12 with
  | zero=>cases hE
  | succ n12 =>
    rw [r12_work_list_l12] at hE;refine seqK fun K16 hK16=>?_;refine seqR (S Mv (S Mv ?_));refine sLen (f:=Z10.c) (s:=s9_4) (TK rfl) rfl rfl rfl rfl fun hL18=>?_;refine S BI (S Mv (G0 Mv ?_));refine G1 26 rfl NP ?_;refine gC rfl rfl (fun hC=>ungdA (k:=27) rfl (fieldP (TK rfl) rfl rfl (TK rfl) rfl rfl)) rfl ?_;refine gC rfl rfl (fun hC=>ungdA (k:=28) rfl (loadP (TK rfl) rfl rfl hpG rfl)) rfl ?_;refine G1 29 rfl BI ?_
    refine S PA (nil ?_);refine cE hE (fun hc19 hE=>?_) (fun hc19 hE=>?_)
    ·try dsimp only at hc19
     have hf19:=of_decide_eq_true (and_left hc19);refine sk hK16 ?_;clear hK16 K16;refine seqK fun K20 hK20=>?_;refine block ?_;refine AWp.seqD (Sd Mv (Sd Ld (Sd Mv (Sd Mv ?_))));obtain⟨x22,gx22,hE⟩:=bO hE;refine Sd (ix Z10.c s11_13 gx22) (Sd Ld (Sd Mv ?_));obtain⟨x23,gx23,hE⟩:=bO hE;refine DOps.s0 (addM rfl rfl gx23) rfl ?_;obtain⟨x24,gx24,hE⟩:=bO hE;refine DOps.sH (callH rfl rfl (ih_178 gx24 _ hpG)) rfl ?_
     refine DOps.Dh ((H.set c0 (some (.cells (Z2.c x24.2)))).set tk10_6 (some (.tok 5 y15_l1.FItems.l.length))) ?_;refine DOps.sB (TK rfl) rfl rfl ?_ (by repeat (first|exact Snoc.nil|apply Snoc.cons));refine DOps.sLn (storeLFA (TK rfl) rfl rfl rfl rfl rfl) ?_;refine DOps.nil (by decide +kernel) ?_;refine freezeA 12 _ rfl (KA 0 (KA 3 (KA 5 (KA 8 (KA 9 (KA 10 (KA 11 Keeps.nil))))))) ?_;refine region ?_
     refine S FL (S LL (S Ld (S BV ?_)));obtain⟨x25,gx25,hE⟩:=bO hE;refine SH (am Z10.c (TK rfl) rfl (TK rfl) (TK rfl) gx25) ?_;refine hq ((H.set c0 (some (.cells (Z2.c x24.2)))).set tk10_6 (some (.tok 5 x25.l.length))) ?_;refine S FL ?_;refine Sf ?_;refine nil ?_;refine hK20 _ ?_;clear hK20 K20;refine region ?_;refine S Mv ?_;refine SI ?_;refine S As (nil ?_);exact hK12 _ (n12,(s11_13+1),x24.2,(Z10.mk y15_l1.FKind y15_l1.FInt y15_l1.FText x25.nl x25.l y15_l1.FKeys)) Weak.toA hE (Nat.lt_succ_self _)
    refine AWp.exit ?_;exact hK7 _ (y14_c0,y15_l1) Weak.toA hE
 rintro ⟨y8_c0,y9_l1⟩ hE;try dsimp only at hE
 unfold r12_work_list_j7 at hE;refine seqK fun K10 hK10=>?_;refine AWp.relocal 1 _ rfl (fun j w cs hh hx=>untok_cell 3 hx rfl) ?_;refine AWp.relocal 1 (Z10.c y9_l1) rfl (fun j w cs hh hx=>by rw [Z10.cu_eq]; exact hx) ?_;refine region ?_;refine S LL ?_;refine Sf ?_;refine nil ?_;refine hK10 _ ?_;clear hK10 K10;refine AWp.ret ?_;repeat (first|refine xBlock_ret ?_|refine xThen_ret ?_)
 obtain rfl:=Option.some.inj hE;refine retQ.retF (H.set c0 (some (.cells (Z2.c y8_c0)))) rfl ⟨rfl,rfl⟩ ?_;intro id_ o_ he_;have e_tk10_6:id_≠tk10_6:=fun e_=>by subst e_; simp_all [Heap.set]
 rw [<- he_];simp only [Heap.set] at he_ ⊢
 (repeat' split)<;>simp_all
theorem r12_work_object_step (n:Nat) (ih_178:∀{a0:Z2}{a1:TRef}{a2:Z10}{a3:Int}{c0:Nat}{r:Z10×Z2},r12_work_coerce_n n a0 a1 a2 a3=some r->∀(H:Heap) (hc0:H c0=some (.cells (Z2.c a0))),ACalls Tryz.prog 178 [.d (.ptr c0 0),.agg (TRef.c a1),.agg (Z10.c a2),.d (.int .i64 a3)] H fun v h'=>v=.a (.agg (Z10.c r.1))/\h'=(H.set c0 (some (.cells (Z2.c r.2))))) (ih_200:∀{a0:Z2}{a1:TRef}{a2:Z10}{a3:Int}{c0:Nat}{r:Z10×Z2},r12_work_list_n n a0 a1 a2 a3=some r->∀(H:Heap) (hc0:H c0=some (.cells (Z2.c a0))),ACalls Tryz.prog 200 [.d (.ptr c0 0),.agg (TRef.c a1),.agg (Z10.c a2),.d (.int .i64 a3)] H fun v h'=>v=.a (.agg (Z10.c r.1))/\h'=(H.set c0 (some (.cells (Z2.c r.2))))) (ih_203:∀{a0:Z2}{a1:TDef}{a2:Z10}{a3:Int}{c0:Nat}{r:Z10×Z2},r12_work_object_n n a0 a1 a2 a3=some r->∀(H:Heap) (hc0:H c0=some (.cells (Z2.c a0))),ACalls Tryz.prog 203 [.d (.ptr c0 0),.agg (TDef.c a1),.agg (Z10.c a2),.d (.int .i64 a3)] H fun v h'=>v=.a (.agg (Z10.c r.1))/\h'=(H.set c0 (some (.cells (Z2.c r.2))))) (ih_219:∀{a0:Z2}{a1:TRef}{a2:Z10}{a3:Int}{c0:Nat}{r:Z10×Z2},Z106_n n a0 a1 a2 a3=some r->∀(H:Heap) (hc0:H c0=some (.cells (Z2.c a0))),ACalls Tryz.prog 219 [.d (.ptr c0 0),.agg (TRef.c a1),.agg (Z10.c a2),.d (.int .i64 a3)] H fun v h'=>v=.a (.agg (Z10.c r.1))/\h'=(H.set c0 (some (.cells (Z2.c r.2))))):∀{a0:Z2}{a1:TDef}{a2:Z10}{a3:Int}{c0:Nat}{r:Z10×Z2},r12_work_object_n (n+1) a0 a1 a2 a3=some r->∀(H:Heap) (hc0:H c0=some (.cells (Z2.c a0))),ACalls Tryz.prog 203 [.d (.ptr c0 0),.agg (TDef.c a1),.agg (Z10.c a2),.d (.int .i64 a3)] H fun v h'=>v=.a (.agg (Z10.c r.1))/\h'=(H.set c0 (some (.cells (Z2.c r.2)))):=by
 intro a0 a1 a2 a3  c0 r hE H hc0;rw [r12_work_object_n] at hE;refine ACalls.oW 123 [.cell 8 86] Tryz.call203 Tryz.func203 ?_;refine AWp.heqA (h':=(H.set c0 (some (.cells (Z2.c a0))))) (by funext n_; simp only [Heap.set]; (repeat' split)<;>simp_all) ?_;refine seqR (S BX (S BX ?_));refine Sl ?_;refine nil ?_;refine seqK fun K2 hK2=>?_;refine seqR (S Fv (S Ld (S BI (nil ?_))));refine cE hE (fun hc4 hE=>?_) (fun hc4 hE=>?_)
 ·refine seqR (S Mv ?_);obtain⟨x6,gx6,hE⟩:=bO hE;refine sH (callH rfl rfl (Z103_walk gx6 _ hpG)) rfl ?_;refine hq (H.set c0 (some (.cells (Z2.c x6)))) ?_;refine nil ?_;refine seqR (S BU ?_);refine Sf ?_;refine nil ?_;exact rt hE
 refine sk hK2 ?_;clear hK2 K2;refine seqJH (TA 0 (TA 3 (TA 5 (TA 6 (TA 8 KeepsT.nil))))) (fun(z:Z2)=>[]) (fun z=>(H.set c0 (some (.cells (Z2.c z))))) (fun z=>r12_work_object_j8 a1 a2 a3 (r12_work_coerce_n n) (Z106_n n) z=some r) ?_ ?_
 ·intro K8 hK8;refine seqR (S As (nil ?_));refine block ?_;refine loopH (TA 0 (TA 3 (TA 5 (TA 6 (TA 8 KeepsT.nil))))) (fun(z:Nat×Nat×Z2)=>[(9,.a (.d (.int .i64 ((z.2.1:Nat):Int))))]) (fun z=>(H.set c0 (some (.cells (Z2.c z.2.2))))) (fun z=>z.1) (fun z=>r12_work_object_l58 a1 a2 a3 (r12_work_coerce_n n) (Z106_n n) z.1 z.2.1 z.2.2=some r) ((a2.FKeys.l.length+1),0,a0) hE Weak.toA ?_;rintro ⟨n58,s9_59,y60_c0⟩ hE K58 hK58
  try dsimp only at hE
  cases n58 with
  | zero=>cases hE
  | succ n58 =>
    rw [r12_work_object_l58] at hE;refine seqK fun K61 hK61=>?_;refine seqR (S Mv (S Fv (S Ld ?_)));refine sLen (f:=strE) (s:=a2.FKeys) (TK rfl) rfl rfl rfl rfl fun hL63=>?_;refine S BI (nil ?_);refine cE hE (fun hc64 hE=>?_) (fun hc64 hE=>?_)
    ·try dsimp only at hc64
     have hf64:=of_decide_eq_true hc64;refine sk hK61 ?_;clear hK61 K61;refine seqJH (TA 0 (TA 3 (TA 5 (TA 6 (TA 8 (TA 9 KeepsT.nil)))))) (fun(z:Z2)=>[]) (fun z=>(H.set c0 (some (.cells (Z2.c z))))) (fun z=>r12_work_object_j65 s9_59 ((r12_work_object_l58 a1 a2 a3 (r12_work_coerce_n n) (Z106_n n) n58)) z=some r) ?_ ?_
     ·intro K65 hK65;refine block ?_;refine AWp.seqD (Sd Fv (Sd Ld (Sd Fv (Sd Ld (Sd Mv ?_)))));obtain⟨x68,gx68,hE⟩:=bO hE;refine Sd (ix strE s9_59 gx68) (Sd Ld ?_);obtain⟨x69,gx69,hE⟩:=bO hE;refine Scd rfl rfl (Z71_walk gx69) ?_;refine Sd Mv (Sd EX (Sd EX ?_));refine DOps.sB (TK rfl) rfl rfl ?_ (by repeat (first|exact Snoc.nil|apply Snoc.cons));refine DOps.sLn (storeLFA (TK rfl) rfl rfl rfl rfl rfl) ?_
      refine Sd As ?_;refine DOps.nil (by decide +kernel) ?_;refine freezeA 10 _ rfl (KA 0 (KA 3 (KA 5 (KA 6 (KA 8 (KA 9 (KA 11 Keeps.nil))))))) ?_;refine seqR (S Mv (S NB (nil ?_)));refine cE hE (fun hc71 hE=>?_) (fun hc71 hE=>?_)
      ·refine region ?_;refine S Mv ?_;obtain⟨x72,gx72,hE⟩:=bO hE;refine sH (callH rfl rfl (Z103_walk gx72 _ hpG)) rfl ?_;refine hq (H.set c0 (some (.cells (Z2.c x72)))) ?_;refine nil ?_;exact hK65 _ x72 Weak.toA hE
      refine AWp.skip ?_;exact hK65 _ y60_c0 Weak.toA hE
     rintro y66_c0 hE;try dsimp only at hE
     unfold r12_work_object_j65 at hE;refine region ?_;refine S Mv ?_;refine SI ?_;refine S As (nil ?_);exact hK58 _ (n58,(s9_59+1),y66_c0) Weak.toA hE (Nat.lt_succ_self _)
    refine AWp.exit ?_;exact hK8 _ y60_c0 Weak.toA hE
 rintro y9_c0 hE;try dsimp only at hE
 unfold r12_work_object_j8 at hE;refine seqR (S BU ?_);refine Sl ?_;refine AOps.tok 5 fun tk12_11 htk12_11=>?_;obtain⟨ne_tk12_11_c0,htk12_11⟩:=Heap.set_fresh htk12_11;refine AOps.relocal 1 _ rfl (fun j w cs hh hx=>tok_cell 3 5 5 hh (t:=tk12_11) hpG hx rfl) ?_;refine AOps.tok 1 fun tk12_12 htk12_12=>?_;obtain⟨ne_tk12_12_tk12_11,htk12_12⟩:=Heap.set_fresh htk12_12;obtain⟨ne_tk12_12_c0,htk12_12⟩:=Heap.set_fresh htk12_12
 refine AOps.relocal 1 _ rfl (fun j w cs hh hx=>tok_cell 4 1 1 hh (t:=tk12_12) hpG hx rfl) ?_;refine Sf ?_;refine AOps.relocal 1 _ rfl (fun j w cs hh hx=>tok_cell 3 5 5 hh (t:=tk12_11) hpG hx rfl) ?_;refine AOps.relocal 1 _ rfl (fun j w cs hh hx=>tok_cell 4 1 1 hh (t:=tk12_12) hpG hx rfl) ?_;refine nil ?_;refine seqJ (TA 8 (TA 12 KeepsT.nil)) (fun(z:Z2×Z10)=>[]) (fun z=>[Z10.c Z10.zero,((intE .i64) z.2.FKind++(intE .i64) z.2.FInt++strE z.2.FText++[Sl.d 5 Z10.c (some tk12_11) z.2.FItems]++[Sl.d 1 strE (some tk12_12) z.2.FKeys])]) (fun z=>(((H.set c0 (some (.cells (Z2.c z.1)))).set tk12_11 (some (.tok 5 z.2.FItems.l.length))).set tk12_12 (some (.tok 1 z.2.FKeys.l.length)))) (fun z=>r12_work_object_j13 z.1 z.2=some r) ?_ ?_
 ·intro K13 hK13;refine seqR (S As (nil ?_));refine block ?_;refine loopO (TA 0 (TA 3 (TA 5 (TA 6 (TA 8 (TA 12 KeepsT.nil)))))) (fun(z:Nat×Nat×Z2×Z10)=>[(13,.a (.d (.int .i64 ((z.2.1:Nat):Int))))]) (fun z=>[Z10.c Z10.zero,((intE .i64) z.2.2.2.FKind++(intE .i64) z.2.2.2.FInt++strE z.2.2.2.FText++[Sl.d 5 Z10.c (some tk12_11) z.2.2.2.FItems]++[Sl.d 1 strE (some tk12_12) z.2.2.2.FKeys])]) (fun z=>(((H.set c0 (some (.cells (Z2.c z.2.2.1)))).set tk12_11 (some (.tok 5 z.2.2.2.FItems.l.length))).set tk12_12 (some (.tok 1 z.2.2.2.FKeys.l.length)))) (fun z=>z.1) (fun z=>r12_work_object_l18 a1 a2 a3 (r12_work_coerce_n n) (Z106_n n) z.1 z.2.1 z.2.2.1 z.2.2.2=some r) ((a1.FInputs.l.length+1),0,y9_c0,(Z10.mk (6:Int) (0:Int) ([]:Bs) true ([]) (Sl.nil:Sl Bs))) hE Weak.toA ?_
  rintro ⟨n18,s13_19,y20_c0,y21_l1⟩ hE K18 hK18;try dsimp only at hE
  cases n18 with
  | zero=>cases hE
  | succ n18 =>
    rw [r12_work_object_l18] at hE;refine seqK fun K22 hK22=>?_;refine seqR (S Mv (S Fv (S Ld ?_)));refine sLen (f:=Z7.c) (s:=a1.FInputs) (TK rfl) rfl rfl rfl rfl fun hL24=>?_;refine S BI (S Mv (G0 Mv ?_));refine G1 53 rfl NP ?_;refine gC rfl rfl (fun hC=>ungdA (k:=54) rfl (fieldP (TK rfl) rfl rfl (TK rfl) rfl rfl)) rfl ?_;refine gC rfl rfl (fun hC=>ungdA (k:=55) rfl (loadP (TK rfl) rfl rfl hpG rfl)) rfl ?_
    refine G1 56 rfl BI ?_;refine S PA (nil ?_);refine cE hE (fun hc25 hE=>?_) (fun hc25 hE=>?_)
    ·try dsimp only at hc25
     have hf25:=of_decide_eq_true (and_left hc25);refine sk hK22 ?_;clear hK22 K22;refine seqJ (TA 0 (TA 3 (TA 5 (TA 6 (TA 8 (TA 12 (TA 13 KeepsT.nil))))))) (fun(z:Z2×Z10)=>[]) (fun z=>[Z10.c Z10.zero,((intE .i64) z.2.FKind++(intE .i64) z.2.FInt++strE z.2.FText++[Sl.d 5 Z10.c (some tk12_11) z.2.FItems]++[Sl.d 1 strE (some tk12_12) z.2.FKeys])]) (fun z=>(((H.set c0 (some (.cells (Z2.c z.1)))).set tk12_11 (some (.tok 5 z.2.FItems.l.length))).set tk12_12 (some (.tok 1 z.2.FKeys.l.length)))) (fun z=>r12_work_object_j26 s13_19 ((r12_work_object_l18 a1 a2 a3 (r12_work_coerce_n n) (Z106_n n) n18)) z.1 z.2=some r) ?_ ?_
     ·intro K26 hK26;refine block ?_;refine seqR (S Fv (S Ld (S Mv ?_)));obtain⟨x30,gx30,hE⟩:=bO hE;refine S (ix Z7.c s13_19 gx30) (S Ld ?_);refine Sl ?_;refine Sf ?_;refine nil ?_;refine freezeA 14 _ rfl (KA 0 (KA 3 (KA 5 (KA 6 (KA 8 (KA 12 (KA 13 Keeps.nil))))))) ?_;refine seqK fun K31 hK31=>?_;refine seqR (S Fv (S Ld (S Mv ?_)));obtain⟨x33,gx33,hE⟩:=bO hE;refine Sc rfl rfl (Z101_walk gx33) ?_;refine nil ?_
      refine cE hE (fun hc34 hE=>?_) (fun hc34 hE=>?_)
      ·refine AWp.exit ?_;exact hK26 _ (y20_c0,y21_l1) Weak.toA hE
      refine sk hK31 ?_;clear hK31 K31;refine seqR (S Ld (S Fv (S Ld ?_)));obtain⟨x36,gx36,hE⟩:=bO hE;refine Sc rfl rfl (Z45_walk gx36) ?_;refine S Mv (S EX (S EX ?_));refine Sl ?_;refine Sf ?_;refine S As (nil ?_);refine freezeA 15 _ rfl (KA 0 (KA 3 (KA 5 (KA 6 (KA 8 (KA 12 (KA 13 (KA 14 (KA 16 Keeps.nil))))))))) ?_;refine seqR ?_;refine Sl ?_;refine nil ?_;refine seqJ (TA 0 (TA 3 (TA 5 (TA 6 (TA 8 (TA 12 (TA 13 (TA 14 (TA 17 KeepsT.nil))))))))) (fun(z:Z2×Z10)=>[]) (fun z=>[Z10.c Z10.zero,((intE .i64) y21_l1.FKind++(intE .i64) y21_l1.FInt++strE y21_l1.FText++[Sl.d 5 Z10.c (some tk12_11) y21_l1.FItems]++[Sl.d 1 strE (some tk12_12) y21_l1.FKeys]),Z10.c z.2]) (fun z=>(((H.set c0 (some (.cells (Z2.c z.1)))).set tk12_11 (some (.tok 5 y21_l1.FItems.l.length))).set tk12_12 (some (.tok 1 y21_l1.FKeys.l.length)))) (fun z=>r12_work_object_j38 s13_19 y21_l1 x30 ((r12_work_object_l18 a1 a2 a3 (r12_work_coerce_n n) (Z106_n n) n18)) z.1 z.2=some r) ?_ ?_
      ·intro K38 hK38;refine block ?_;refine seqR (S Mv (S Mv (G0 Mv (G0 Ld ?_))));obtain⟨x45,gx45,hE⟩:=gO hE;refine gC rfl rfl (fun hC=>ungdA (k:=80) rfl (ungdA (k:=81) rfl (callR rfl rfl (Z104_walk (gx45 hC) _ hpG)))) rfl ?_;refine G1 82 rfl NB ?_;refine S PA (S As (nil ?_));refine cE hE (fun hc46 hE=>?_) (fun hc46 hE=>?_)
       ·refine region ?_;refine S Mv (S Fv (S Ld (S Ld (S Mv ?_))));obtain⟨x47,gx47,hE⟩:=bO hE;refine s0 (addM rfl rfl gx47) rfl ?_;obtain⟨x48,gx48,hE⟩:=bO hE;refine sH (callH rfl rfl (ih_178 gx48 _ hpG)) rfl ?_;refine hq (((H.set c0 (some (.cells (Z2.c x48.2)))).set tk12_11 (some (.tok 5 y21_l1.FItems.l.length))).set tk12_12 (some (.tok 1 y21_l1.FKeys.l.length))) ?_;refine Sf ?_;refine nil ?_;exact hK38 _ (x48.2,x48.1) Weak.toA hE
       refine seqR (S Fv (S Ld (S As (nil ?_))));refine cE hE (fun hc50 hE=>?_) (fun hc50 hE=>?_)
       ·refine region ?_;refine S Mv (S Fv (S Ld (S Fv (S Ld (S Mv ?_)))));obtain⟨x51,gx51,hE⟩:=bO hE;refine s0 (addM rfl rfl gx51) rfl ?_;obtain⟨x52,gx52,hE⟩:=bO hE;refine sH (callH rfl rfl (ih_219 gx52 _ hpG)) rfl ?_;refine hq (((H.set c0 (some (.cells (Z2.c x52.2)))).set tk12_11 (some (.tok 5 y21_l1.FItems.l.length))).set tk12_12 (some (.tok 1 y21_l1.FKeys.l.length))) ?_;refine Sf ?_;refine nil ?_
        exact hK38 _ (x52.2,x52.1) Weak.toA hE
       refine seqR (S Fv (S Ld ?_));obtain⟨x54,gx54,hE⟩:=bO hE;refine Sc rfl rfl (Z54_walk gx54) ?_;refine S As (nil ?_);refine cE hE (fun hc55 hE=>?_) (fun hc55 hE=>?_)
       ·refine region ?_;refine S Mv ?_;obtain⟨x56,gx56,hE⟩:=bO hE;refine sH (callH rfl rfl (Z103_walk gx56 _ hpG)) rfl ?_;refine hq (((H.set c0 (some (.cells (Z2.c x56)))).set tk12_11 (some (.tok 5 y21_l1.FItems.l.length))).set tk12_12 (some (.tok 1 y21_l1.FKeys.l.length))) ?_;refine nil ?_;exact hK38 _ (x56,Z10.zero) Weak.toA hE
       refine AWp.exit ?_;exact hK26 _ (y20_c0,y21_l1) Weak.toA hE
      rintro ⟨y39_c0,y40_l2⟩ hE;try dsimp only at hE
      unfold r12_work_object_j38 at hE;refine seqR (S FL (S LL (S Fv (S Ld (S BV ?_)))));obtain⟨x42,gx42,hE⟩:=bO hE;refine SH (am strE (TK rfl) rfl (TK rfl) (TK rfl) gx42) ?_;refine hq (((H.set c0 (some (.cells (Z2.c y39_c0)))).set tk12_11 (some (.tok 5 y21_l1.FItems.l.length))).set tk12_12 (some (.tok 1 x42.l.length))) ?_;refine S FL ?_;refine Sf ?_;refine nil ?_;refine region ?_;refine S FL (S LL (S LL (S BV ?_)))
      obtain⟨x43,gx43,hE⟩:=bO hE;refine SH (am Z10.c (TK rfl) rfl (TK rfl) (TK rfl) gx43) ?_;refine hq (((H.set c0 (some (.cells (Z2.c y39_c0)))).set tk12_11 (some (.tok 5 x43.l.length))).set tk12_12 (some (.tok 1 x42.l.length))) ?_;refine S FL ?_;refine Sf ?_;refine nil ?_;exact hK26 _ (y39_c0,(Z10.mk y21_l1.FKind y21_l1.FInt y21_l1.FText x43.nl x43.l x42)) Weak.toA hE
     rintro ⟨y27_c0,y28_l1⟩ hE;try dsimp only at hE
     unfold r12_work_object_j26 at hE;refine region ?_;refine S Mv ?_;refine SI ?_;refine S As (nil ?_);exact hK18 _ (n18,(s13_19+1),y27_c0,y28_l1) Weak.toA hE (Nat.lt_succ_self _)
    refine AWp.exit ?_;exact hK13 _ (y20_c0,y21_l1) Weak.toA hE
 rintro ⟨y14_c0,y15_l1⟩ hE;try dsimp only at hE
 unfold r12_work_object_j13 at hE;refine seqK fun K16 hK16=>?_;refine AWp.relocal 1 _ rfl (fun j w cs hh hx=>untok_cell 3 hx rfl) ?_;refine AWp.relocal 1 _ rfl (fun j w cs hh hx=>untok_cell 4 hx rfl) ?_;refine AWp.relocal 1 (Z10.c y15_l1) rfl (fun j w cs hh hx=>by rw [Z10.cu_eq]; exact hx) ?_;refine region ?_;refine S LL ?_;refine Sf ?_;refine nil ?_;refine hK16 _ ?_;clear hK16 K16;refine AWp.ret ?_
 repeat (first|refine xBlock_ret ?_|refine xThen_ret ?_)
 obtain rfl:=Option.some.inj hE;refine retQ.retF (H.set c0 (some (.cells (Z2.c y14_c0)))) rfl ⟨rfl,rfl⟩ ?_;intro id_ o_ he_;have e_tk12_11:id_≠tk12_11:=fun e_=>by subst e_; simp_all [Heap.set]
 have e_tk12_12:id_≠tk12_12:=fun e_=>by subst e_; simp_all [Heap.set]
 rw [<- he_];simp only [Heap.set] at he_ ⊢
 (repeat' split)<;>simp_all
theorem Z106_step (n:Nat) (ih_178:∀{a0:Z2}{a1:TRef}{a2:Z10}{a3:Int}{c0:Nat}{r:Z10×Z2},r12_work_coerce_n n a0 a1 a2 a3=some r->∀(H:Heap) (hc0:H c0=some (.cells (Z2.c a0))),ACalls Tryz.prog 178 [.d (.ptr c0 0),.agg (TRef.c a1),.agg (Z10.c a2),.d (.int .i64 a3)] H fun v h'=>v=.a (.agg (Z10.c r.1))/\h'=(H.set c0 (some (.cells (Z2.c r.2))))) (ih_200:∀{a0:Z2}{a1:TRef}{a2:Z10}{a3:Int}{c0:Nat}{r:Z10×Z2},r12_work_list_n n a0 a1 a2 a3=some r->∀(H:Heap) (hc0:H c0=some (.cells (Z2.c a0))),ACalls Tryz.prog 200 [.d (.ptr c0 0),.agg (TRef.c a1),.agg (Z10.c a2),.d (.int .i64 a3)] H fun v h'=>v=.a (.agg (Z10.c r.1))/\h'=(H.set c0 (some (.cells (Z2.c r.2))))) (ih_203:∀{a0:Z2}{a1:TDef}{a2:Z10}{a3:Int}{c0:Nat}{r:Z10×Z2},r12_work_object_n n a0 a1 a2 a3=some r->∀(H:Heap) (hc0:H c0=some (.cells (Z2.c a0))),ACalls Tryz.prog 203 [.d (.ptr c0 0),.agg (TDef.c a1),.agg (Z10.c a2),.d (.int .i64 a3)] H fun v h'=>v=.a (.agg (Z10.c r.1))/\h'=(H.set c0 (some (.cells (Z2.c r.2))))) (ih_219:∀{a0:Z2}{a1:TRef}{a2:Z10}{a3:Int}{c0:Nat}{r:Z10×Z2},Z106_n n a0 a1 a2 a3=some r->∀(H:Heap) (hc0:H c0=some (.cells (Z2.c a0))),ACalls Tryz.prog 219 [.d (.ptr c0 0),.agg (TRef.c a1),.agg (Z10.c a2),.d (.int .i64 a3)] H fun v h'=>v=.a (.agg (Z10.c r.1))/\h'=(H.set c0 (some (.cells (Z2.c r.2))))):∀{a0:Z2}{a1:TRef}{a2:Z10}{a3:Int}{c0:Nat}{r:Z10×Z2},Z106_n (n+1) a0 a1 a2 a3=some r->∀(H:Heap) (hc0:H c0=some (.cells (Z2.c a0))),ACalls Tryz.prog 219 [.d (.ptr c0 0),.agg (TRef.c a1),.agg (Z10.c a2),.d (.int .i64 a3)] H fun v h'=>v=.a (.agg (Z10.c r.1))/\h'=(H.set c0 (some (.cells (Z2.c r.2)))):=by
 intro a0 a1 a2 a3  c0 r hE H hc0;rw [Z106_n] at hE;refine ACalls.oW 41 [.cell 8 86] Tryz.call219 Tryz.func219 ?_;refine AWp.heqA (h':=(H.set c0 (some (.cells (Z2.c a0))))) (by funext n_; simp only [Heap.set]; (repeat' split)<;>simp_all) ?_;refine seqR (S BX (S BX ?_));refine Sl ?_;refine nil ?_;refine AWp.seqD (Sd Mv (Sd NP ?_));refine DOps.s0 (fieldP (TK rfl) rfl rfl (TK rfl) rfl rfl) rfl ?_;refine DOps.s0 (loadP (TK rfl) rfl rfl hpG rfl) rfl ?_
 refine Sd Mv (Sd NP ?_);refine DOps.s0 (fieldP (TK rfl) rfl rfl (TK rfl) rfl rfl) rfl ?_;refine DOps.s0 (loadP (TK rfl) rfl rfl hpG rfl) rfl ?_;refine DOps.sB (TK rfl) rfl rfl ?_ (by repeat (first|exact Snoc.nil|apply Snoc.cons));refine DOps.sLn (storeLFA (TK rfl) rfl rfl rfl rfl rfl) ?_;refine Sd As ?_;refine DOps.nil (by decide +kernel) ?_;refine freezeA 9 _ rfl (KA 0 (KA 3 (KA 5 (KA 6 (KA 8 (KA 10 Keeps.nil)))))) ?_
 refine seqR (S Mv (S Mv (S BU (S NP ?_))));refine s0 (fieldP (TK rfl) rfl rfl (TK rfl) rfl rfl) rfl ?_;refine sHn (storeP' (TK rfl) rfl rfl hpG rfl (Nat.le_of_ble_eq_true rfl) rfl rfl) rfl rfl ?_;refine hq (H.set c0 (some (.cells (Z2.c (Z2.mk a0.Fd (Z10.mk (0:Int) (0:Int) ([]:Bs) true ([]) (Sl.nil:Sl Bs)) a0.Flit a0.Fcount a0.Ferr))))) ?_;refine S NP ?_;refine s0 (fieldP (TK rfl) rfl rfl (TK rfl) rfl rfl) rfl ?_
 refine sHn (storeP1 (TK rfl) rfl rfl hpG rfl (by repeat (first|exact SetAt.zero|apply SetAt.succ))) rfl rfl ?_;refine hq (H.set c0 (some (.cells (Z2.c (Z2.mk a0.Fd (Z10.mk (0:Int) (0:Int) ([]:Bs) true ([]) (Sl.nil:Sl Bs)) true a0.Fcount a0.Ferr))))) ?_;refine nil ?_;refine seqR (S Mv (S Ld (S Ld (S Mv ?_))));obtain⟨x5,gx5,hE⟩:=bO hE;refine sH (callH rfl rfl (ih_178 gx5 _ hpG)) rfl ?_;refine hq (H.set c0 (some (.cells (Z2.c x5.2)))) ?_
 refine Sl ?_;refine Sf ?_;refine nil ?_;refine freezeA 11 _ rfl (KA 0 (KA 8 (KA 9 (KA 10 Keeps.nil)))) ?_;refine seqR (S Mv (S Mv (S Ld (S Mv (S NP ?_)))));refine s0 (fieldP (TK rfl) rfl rfl (TK rfl) rfl rfl) rfl ?_;refine sHn (storeP' (TK rfl) rfl rfl hpG rfl (Nat.le_of_ble_eq_true rfl) rfl rfl) rfl rfl ?_;refine hq (H.set c0 (some (.cells (Z2.c (Z2.mk x5.2.Fd a0.Fvars x5.2.Flit x5.2.Fcount x5.2.Ferr))))) ?_
 refine S NP ?_;refine s0 (fieldP (TK rfl) rfl rfl (TK rfl) rfl rfl) rfl ?_;refine sHn (storeP1 (TK rfl) rfl rfl hpG rfl (by repeat (first|exact SetAt.zero|apply SetAt.succ))) rfl rfl ?_;refine hq (H.set c0 (some (.cells (Z2.c (Z2.mk x5.2.Fd a0.Fvars a0.Flit x5.2.Fcount x5.2.Ferr))))) ?_;refine nil ?_;refine seqR (S Ld ?_);refine Sf ?_;refine nil ?_;exact rt hE
theorem r12_work_coerce_all:∀(n:Nat),(∀{a0:Z2}{a1:TRef}{a2:Z10}{a3:Int}{c0:Nat}{r:Z10×Z2},r12_work_coerce_n n a0 a1 a2 a3=some r->∀(H:Heap) (hc0:H c0=some (.cells (Z2.c a0))),ACalls Tryz.prog 178 [.d (.ptr c0 0),.agg (TRef.c a1),.agg (Z10.c a2),.d (.int .i64 a3)] H fun v h'=>v=.a (.agg (Z10.c r.1))/\h'=(H.set c0 (some (.cells (Z2.c r.2)))))/\(∀{a0:Z2}{a1:TRef}{a2:Z10}{a3:Int}{c0:Nat}{r:Z10×Z2},r12_work_list_n n a0 a1 a2 a3=some r->∀(H:Heap) (hc0:H c0=some (.cells (Z2.c a0))),ACalls Tryz.prog 200 [.d (.ptr c0 0),.agg (TRef.c a1),.agg (Z10.c a2),.d (.int .i64 a3)] H fun v h'=>v=.a (.agg (Z10.c r.1))/\h'=(H.set c0 (some (.cells (Z2.c r.2)))))/\(∀{a0:Z2}{a1:TDef}{a2:Z10}{a3:Int}{c0:Nat}{r:Z10×Z2},r12_work_object_n n a0 a1 a2 a3=some r->∀(H:Heap) (hc0:H c0=some (.cells (Z2.c a0))),ACalls Tryz.prog 203 [.d (.ptr c0 0),.agg (TDef.c a1),.agg (Z10.c a2),.d (.int .i64 a3)] H fun v h'=>v=.a (.agg (Z10.c r.1))/\h'=(H.set c0 (some (.cells (Z2.c r.2)))))/\(∀{a0:Z2}{a1:TRef}{a2:Z10}{a3:Int}{c0:Nat}{r:Z10×Z2},Z106_n n a0 a1 a2 a3=some r->∀(H:Heap) (hc0:H c0=some (.cells (Z2.c a0))),ACalls Tryz.prog 219 [.d (.ptr c0 0),.agg (TRef.c a1),.agg (Z10.c a2),.d (.int .i64 a3)] H fun v h'=>v=.a (.agg (Z10.c r.1))/\h'=(H.set c0 (some (.cells (Z2.c r.2)))))
 | 0=>⟨fun hE=>by first|cases hE|(rw [r12_work_coerce_n] at hE; cases hE),fun hE=>by first|cases hE|(rw [r12_work_list_n] at hE; cases hE),fun hE=>by first|cases hE|(rw [r12_work_object_n] at hE; cases hE),fun hE=>by first|cases hE|(rw [Z106_n] at hE; cases hE)⟩
 | n+1=>⟨r12_work_coerce_step n (r12_work_coerce_all n).1 (r12_work_coerce_all n).2.1 (r12_work_coerce_all n).2.2.1 (r12_work_coerce_all n).2.2.2,r12_work_list_step n (r12_work_coerce_all n).1 (r12_work_coerce_all n).2.1 (r12_work_coerce_all n).2.2.1 (r12_work_coerce_all n).2.2.2,r12_work_object_step n (r12_work_coerce_all n).1 (r12_work_coerce_all n).2.1 (r12_work_coerce_all n).2.2.1 (r12_work_coerce_all n).2.2.2,Z106_step n (r12_work_coerce_all n).1 (r12_work_coerce_all n).2.1 (r12_work_coerce_all n).2.2.1 (r12_work_coerce_all n).2.2.2⟩
def r12_work_coerce (a0:Z2) (a1:TRef) (a2:Z10) (a3:Int):Option (Z10×Z2):=r12_work_coerce_n F0 a0 a1 a2 a3
theorem r12_work_coerce_walk {a0:Z2}{a1:TRef}{a2:Z10}{a3:Int}{c0:Nat}{r:Z10×Z2}(hE:r12_work_coerce a0 a1 a2 a3=some r) (H:Heap) (hc0:H c0=some (.cells (Z2.c a0))):ACalls Tryz.prog 178 [.d (.ptr c0 0),.agg (TRef.c a1),.agg (Z10.c a2),.d (.int .i64 a3)] H fun v h'=>v=.a (.agg (Z10.c r.1))/\h'=(H.set c0 (some (.cells (Z2.c r.2)))):=(r12_work_coerce_all F0).1 hE H hc0
end Go.Proofs

namespace Go.Proofs
open Go Go.Ab
open AOps Cert AWp Keeps KeepsT
variable {lou:Lou}
def Z107 (a0:Z2) (a1:TRef) (a2:Z10):Option (Z10×Int×Z2):=(r12_work_coerce a0 a1 a2 (1:Int)).bind fun x3=>bif (!decide (x3.2.Ferr=(0:Int))) then(some ((Z10.mk (0:Int) (0:Int) ([]:Bs) true ([]) (Sl.nil:Sl Bs)),x3.2.Ferr,x3.2)) else(some (x3.1,(0:Int),x3.2))
theorem Z107_walk {a0:Z2}{a1:TRef}{a2:Z10}{c0:Nat}{r:Z10×Int×Z2}(hE:Z107 a0 a1 a2=some r) (H:Heap) (hc0:H c0=some (.cells (Z2.c a0))):ACalls Tryz.prog 143 [.d (.ptr c0 0),.agg (TRef.c a1),.agg (Z10.c a2)] H fun v h'=>v=.tup [.agg (Z10.c r.1),.d (.int .i64 r.2.1)]/\h'=(H.set c0 (some (.cells (Z2.c r.2.2)))):=by
 unfold Z107 at hE;refine ACalls.oW 24 [.cell 6 86,.tmp 7] Tryz.call143 Tryz.func143 ?_;refine AWp.heqA (h':=(H.set c0 (some (.cells (Z2.c a0))))) (by funext n_; simp only [Heap.set]; (repeat' split)<;>simp_all) ?_;refine seqR (S BX (S BX ?_));refine Sl ?_;refine S As (nil ?_);refine seqR (S Mv (S Ld (S Ld ?_)));obtain⟨x3,gx3,hE⟩:=bO hE;refine sH (callH rfl rfl (r12_work_coerce_walk gx3 _ hpG)) rfl ?_
 refine hq (H.set c0 (some (.cells (Z2.c x3.2)))) ?_;refine Sl ?_;refine Sf ?_;refine nil ?_;refine freezeA 8 _ rfl (KA 0 (KA 6 Keeps.nil)) ?_;refine seqK fun K4 hK4=>?_;refine seqR (S Mv (S NP ?_));refine s0 (fieldP (TK rfl) rfl rfl (TK rfl) rfl rfl) rfl ?_;refine s0 (loadP (TK rfl) rfl rfl hpG rfl) rfl ?_;refine S BI (nil ?_);refine cE hE (fun hc6 hE=>?_) (fun hc6 hE=>?_)
 ·refine AWp.seqD (Sd BU (Sd Mv (Sd NP ?_)));refine DOps.s0 (fieldP (TK rfl) rfl rfl (TK rfl) rfl rfl) rfl ?_;refine DOps.s0 (loadP (TK rfl) rfl rfl hpG rfl) rfl ?_;refine DOps.sLn (storeLFA (TK rfl) rfl rfl rfl rfl rfl) ?_;refine Sd As ?_;refine DOps.nil (by decide +kernel) ?_;exact rt hE
 refine sk hK4 ?_;clear hK4 K4;refine seqR (S Ld ?_);refine Sf ?_;refine S As (nil ?_);exact rt hE
def Z99 (a0:TDoc) (a1:TRef) (a2:Z10) (a3:Z10):Option (Z10×Int):=(Z72 a0 a1.FName).bind fun x6=>guardO (x6) (Z104 (Z2.mk a0 a3 true (0:Int) (0:Int)) a2) false fun x7=>bif (x6&&x7) then(some ((Z10.mk (0:Int) (0:Int) ([]:Bs) true ([]) (Sl.nil:Sl Bs)),(8:Int))) else((Z107 (Z2.mk a0 a3 true (0:Int) (0:Int)) a1 a2).bind fun x11=>some (x11.1,x11.2.1))
theorem Z99_walk {a0:TDoc}{a1:TRef}{a2 a3:Z10}{r:Z10×Int}(hE:Z99 a0 a1 a2 a3=some r) (H:Heap) :ACalls Tryz.prog 95 [.agg (TDoc.c a0),.agg (TRef.c a1),.agg (Z10.c a2),.agg (Z10.c a3)] H fun v h'=>v=.tup [.agg (Z10.c r.1),.d (.int .i64 r.2)]/\h'=H:=by
 unfold Z99 at hE;refine ACalls.oW 31 [.cell 8 86,.tmp 9] Tryz.call95 Tryz.func95 ?_;refine seqR (S BX (S BX (S BX (S BX ?_))));refine Sl ?_;refine S As (nil ?_);refine seqR (S Ld (S Ld (S BU ?_)));refine sE (StepE.boxO rfl) rfl (fun _ _ _ ⟨id14_3,hid14_3,e1,e2,e3⟩=>?_); subst e1 e2 e3;refine hq (H.set id14_3 (some (.cells (Z2.c (Z2.mk a0 a3 true (0:Int) (0:Int)))))) ?_;refine S As (nil ?_);refine seqK fun K4 hK4=>?_
 refine seqR (S Ld (S Fv (S Ld ?_)));obtain⟨x6,gx6,hE⟩:=bO hE;refine Sc rfl rfl (Z72_walk gx6) ?_;refine S Mv (G0 Mv (G0 Ld ?_));obtain⟨x7,gx7,hE⟩:=gO hE;refine gC rfl rfl (fun hC=>ungdA (k:=20) rfl (ungdA (k:=21) rfl (callR rfl rfl (Z104_walk (gx7 hC) _ hpG)))) rfl ?_;refine S PA (nil ?_);refine cE hE (fun hc8 hE=>?_) (fun hc8 hE=>?_)
 ·refine seqR (S BU ?_);refine Sf ?_;refine S As (nil ?_);refine AWp.ret ?_;repeat (first|refine xBlock_ret ?_|refine xThen_ret ?_)
  obtain rfl:=Option.some.inj hE;refine retQ.retF H rfl ⟨rfl,rfl⟩ ?_
  first|exact Heap.sub_set hid14_3|(simp only [Heap.set_set]; exact Heap.sub_set hid14_3)
 refine sk hK4 ?_;clear hK4 K4;refine seqR (S Mv (S Ld (S Ld ?_)));obtain⟨x11,gx11,hE⟩:=bO hE;refine sH (callH rfl rfl (Z107_walk gx11 _ hpG)) rfl ?_;refine hq (H.set id14_3 (some (.cells (Z2.c x11.2.2)))) ?_;refine S EX (S EX ?_);refine Sf ?_;refine S As (nil ?_);refine AWp.ret ?_;repeat (first|refine xBlock_ret ?_|refine xThen_ret ?_)
 obtain rfl:=Option.some.inj hE;refine retQ.retF H rfl ⟨rfl,rfl⟩ ?_
 first|exact Heap.sub_set hid14_3|(simp only [Heap.set_set]; exact Heap.sub_set hid14_3)
def Z100_j3  (s11_4:(Sl Z4)):Option (Sl Z4):=some s11_4
def Z100_j14 (s12_9:Nat) (k_next_7:(Sl Z4)->Nat->Option (Sl Z4)) (s11_15:(Sl Z4)):Option (Sl Z4):=k_next_7 s11_15 (s12_9+1)
def Z100_l7 (a0:TDoc) (a1:(Sl Z7)) (a2:Bs) (a3:Bs) (a4:Bs) :Nat->(Sl Z4)->Nat->Option (Sl Z4)
 | 0,_,_=>none
 | n7+1,s11_8,s12_9=>bif (decide (((s12_9:Nat):Int)<((a1.l.length:Nat):Int))) then((a1.l[s12_9]?).bind fun x18=>bif (!x18.FHas) then(Z100_j14 s12_9 ((Z100_l7 a0 a1 a2 a3 a4 n7)) s11_8) else((a1.l[s12_9]?).bind fun x21=>(a1.l[s12_9]?).bind fun x22=>(Z99 a0 x21.FType x22.FDefault (Z10.mk (0:Int) (0:Int) ([]:Bs) true ([]) (Sl.nil:Sl Bs))).bind fun x23=>bif (!decide (x23.2=(0:Int))) then((catC a2 a3).bind fun x26=>(a1.l[s12_9]?).bind fun x27=>(catC x26 x27.FName).bind fun x28=>(catC x28 a4).bind fun x29=>(appC 24 s11_8 (⟨false,[(Z4.mk (23:Int) x29)]⟩:Sl Z4)).bind fun x30=>Z100_j14 s12_9 ((Z100_l7 a0 a1 a2 a3 a4 n7)) x30) else(Z100_j14 s12_9 ((Z100_l7 a0 a1 a2 a3 a4 n7)) s11_8))) else(Z100_j3   s11_8)
def Z100 (a0:TDoc) (a1:(Sl Z7)) (a2:Bs) (a3:Bs) (a4:Bs):Option (Sl Z4):=Z100_l7 a0 a1 a2 a3 a4 (a1.l.length+1) (Sl.nil:Sl Z4) 0
theorem Z100_walk {a0:TDoc}{a1:Sl Z7}{a2 a3 a4:Bs}{w1:Option Nat}{r:Sl Z4}(hE:Z100 a0 a1 a2 a3 a4=some r) (H:Heap) :ACalls Tryz.prog 45 [.agg (TDoc.c a0),.d (Sl.d 10 Z7.c w1 a1),.d (.str a2),.d (.str a3),.d (.str a4)] H fun v h'=>v=.a (.d (Sl.d 2 Z4.c none r))/\h'=H:=by
 unfold Z100 at hE;refine ACalls.oW 61 [.tmp 10] Tryz.call45 Tryz.func45 ?_;refine AWp.tok 2 fun tk1 htk1=>?_;refine seqR (S BX ?_);refine s0 (assignNil (k':=2) rfl) rfl ?_;refine nil ?_;refine seqR (S As (nil ?_));refine AWp.nilTok 11 2 tk1 rfl hpG ?_;refine seqJH KeepsT.nil (fun(z:(Sl Z4))=>[(11,.a (.d (Sl.d 2 Z4.c (some tk1) z)))]) (fun z=>(H.set tk1 (some (.tok 2 z.l.length)))) (fun z=>Z100_j3 z=some r) ?_ ?_
 ·intro K3 hK3;refine seqR (S As (nil ?_));refine block ?_;refine loopH (TA 1 (TA 2 (TA 3 (TA 4 (TA 5 KeepsT.nil))))) (fun(z:Nat×(Sl Z4)×Nat)=>[(11,.a (.d (Sl.d 2 Z4.c (some tk1) z.2.1))),(12,.a (.d (.int .i64 ((z.2.2:Nat):Int))))]) (fun z=>(H.set tk1 (some (.tok 2 z.2.1.l.length)))) (fun z=>z.1) (fun z=>Z100_l7 a0 a1 a2 a3 a4 z.1 z.2.1 z.2.2=some r) ((a1.l.length+1),(Sl.nil:Sl Z4),0) hE Weak.toA ?_
  rintro ⟨n7,s11_8,s12_9⟩ hE K7 hK7;try dsimp only at hE
  cases n7 with
  | zero=>cases hE
  | succ n7 =>
    rw [Z100_l7] at hE;refine seqK fun K10 hK10=>?_;refine seqR (S Mv (S Mv ?_));refine sLen (f:=Z7.c) (s:=a1) (TK rfl) rfl rfl rfl rfl fun hL12=>?_;refine S BI (nil ?_);refine cE hE (fun hc13 hE=>?_) (fun hc13 hE=>?_)
    ·try dsimp only at hc13
     have hf13:=of_decide_eq_true hc13;refine sk hK10 ?_;clear hK10 K10;refine seqJH (TA 1 (TA 2 (TA 3 (TA 4 (TA 5 (TA 12 KeepsT.nil)))))) (fun(z:(Sl Z4))=>[(11,.a (.d (Sl.d 2 Z4.c (some tk1) z)))]) (fun z=>(H.set tk1 (some (.tok 2 z.l.length)))) (fun z=>Z100_j14 s12_9 ((Z100_l7 a0 a1 a2 a3 a4 n7)) z=some r) ?_ ?_
     ·intro K14 hK14;refine block ?_;refine seqK fun K16 hK16=>?_;refine seqR (S Mv (S Mv ?_));obtain⟨x18,gx18,hE⟩:=bO hE;refine S (ix Z7.c s12_9 gx18) (S Fv (S Ld (S NB (nil ?_))));refine cE hE (fun hc19 hE=>?_) (fun hc19 hE=>?_)
      ·refine AWp.exit ?_;exact hK14 _ s11_8 Weak.toA hE
      refine sk hK16 ?_;clear hK16 K16;refine AWp.seqD (Sd Ld (Sd Mv (Sd Mv ?_)));obtain⟨x21,gx21,hE⟩:=bO hE;refine Sd (ix Z7.c s12_9 gx21) (Sd Fv (Sd Ld (Sd Mv (Sd Mv ?_))));obtain⟨x22,gx22,hE⟩:=bO hE;refine Sd (ix Z7.c s12_9 gx22) (Sd Fv (Sd Ld (Sd BU ?_)));obtain⟨x23,gx23,hE⟩:=bO hE;refine Scd rfl rfl (Z99_walk gx23) ?_;refine Sd Mv (Sd EX (Sd EX ?_));refine DOps.sB (TK rfl) rfl rfl ?_ (by repeat (first|exact Snoc.nil|apply Snoc.cons))
      refine DOps.sLn (storeLFA (TK rfl) rfl rfl rfl rfl rfl) ?_;refine Sd As ?_;refine DOps.nil (by decide +kernel) ?_;refine freezeA 13 _ rfl (KA 1 (KA 2 (KA 3 (KA 4 (KA 5 (KA 11 (KA 12 (KA 14 Keeps.nil)))))))) ?_;refine seqR (S Mv (S BI (nil ?_)));refine cE hE (fun hc25 hE=>?_) (fun hc25 hE=>?_)
      ·refine region ?_;refine S Mv (S Mv (S Mv ?_));obtain⟨x26,gx26,hE⟩:=bO hE;refine s0 (catM rfl rfl gx26) rfl ?_;refine S Mv (S Mv ?_);obtain⟨x27,gx27,hE⟩:=bO hE;refine S (ix Z7.c s12_9 gx27) (S Fv (S Ld ?_));obtain⟨x28,gx28,hE⟩:=bO hE;refine s0 (catM rfl rfl gx28) rfl ?_;refine S Mv ?_;obtain⟨x29,gx29,hE⟩:=bO hE;refine s0 (catM rfl rfl gx29) rfl ?_;refine S BU (S BV ?_);obtain⟨x30,gx30,hE⟩:=bO hE
       refine SH (am Z4.c (TK rfl) rfl (TK rfl) (TK rfl) gx30) ?_;refine hq (H.set tk1 (some (.tok 2 x30.l.length))) ?_;refine S As (nil ?_);exact hK14 _ x30 Weak.toA hE
      refine AWp.skip ?_;exact hK14 _ s11_8 Weak.toA hE
     rintro s11_15 hE;try dsimp only at hE
     unfold Z100_j14 at hE;refine region ?_;refine S Mv ?_;refine SI ?_;refine S As (nil ?_);exact hK7 _ (n7,s11_15,(s12_9+1)) Weak.toA hE (Nat.lt_succ_self _)
    refine AWp.exit ?_;exact hK3 _ s11_8 Weak.toA hE
 rintro s11_4 hE;try dsimp only at hE
 unfold Z100_j3 at hE;refine seqR (S Mv (S As (nil ?_)));refine AWp.dropTok 10 rfl ?_;refine AWp.ret ?_;repeat (first|refine xBlock_ret ?_|refine xThen_ret ?_)
 obtain rfl:=Option.some.inj hE;refine retQ.retF H rfl ⟨rfl,rfl⟩ ?_
 first|exact Heap.sub_set htk1|(simp only [Heap.set_set]; exact Heap.sub_set htk1)
def Z98_j3  (s3_4:(Sl Z4)):Option (Sl Z4):=some s3_4
def Z98_j14 (s4_9:Nat) (k_next_7:(Sl Z4)->Nat->Option (Sl Z4)) (s3_15:(Sl Z4)):Option (Sl Z4):=k_next_7 s3_15 (s4_9+1)
def Z98_j18 (a0:TDoc) (s4_9:Nat) (x17:TDef) (k_next_7:(Sl Z4)->Nat->Option (Sl Z4)) (s3_19:(Sl Z4)):Option (Sl Z4):=(Z100 a0 x17.FInputs x17.FName ([46]:Bs) ([]:Bs)).bind fun x20=>(appC 24 s3_19 x20).bind fun x21=>Z98_j14 s4_9 k_next_7 x21
def Z98_l23 (a0:TDoc) (s4_9:Nat) (x17:TDef) (k_next_7:(Sl Z4)->Nat->Option (Sl Z4)):Nat->(Sl Z4)->Nat->Option (Sl Z4)
 | 0,_,_=>none
 | n23+1,s3_24,s6_25=>bif (decide (((s6_25:Nat):Int)<((x17.FFields.l.length:Nat):Int))) then((x17.FFields.l[s6_25]?).bind fun x31=>(catC x17.FName ([46]:Bs)).bind fun x32=>(x17.FFields.l[s6_25]?).bind fun x33=>(catC x32 x33.FName).bind fun x34=>(Z100 a0 x31.FArgs x34 ([40]:Bs) ([41]:Bs)).bind fun x35=>(appC 24 s3_24 x35).bind fun x36=>(Z98_l23 a0 s4_9 x17 k_next_7 n23) x36 (s6_25+1)) else(Z98_j18 a0 s4_9 x17 k_next_7 s3_24)
def Z98_l7 (a0:TDoc) :Nat->(Sl Z4)->Nat->Option (Sl Z4)
 | 0,_,_=>none
 | n7+1,s3_8,s4_9=>bif (decide (((s4_9:Nat):Int)<((a0.FDefs.l.length:Nat):Int))) then((a0.FDefs.l[s4_9]?).bind fun x17=>Z98_l23 a0 s4_9 x17 ((Z98_l7 a0 n7)) (x17.FFields.l.length+1) s3_8 0) else(Z98_j3   s3_8)
def Z98 (a0:TDoc):Option (Sl Z4):=Z98_l7 a0 (a0.FDefs.l.length+1) (Sl.nil:Sl Z4) 0
theorem Z98_walk {a0:TDoc}{r:Sl Z4}(hE:Z98 a0=some r) (H:Heap) :ACalls Tryz.prog 17 [.agg (TDoc.c a0)] H fun v h'=>v=.a (.d (Sl.d 2 Z4.c none r))/\h'=H:=by
 unfold Z98 at hE;refine ACalls.oW 55 [.tmp 2] Tryz.call17 Tryz.func17 ?_;refine AWp.tok 2 fun tk1 htk1=>?_;refine seqR (S BX ?_);refine s0 (assignNil (k':=2) rfl) rfl ?_;refine nil ?_;refine seqR (S As (nil ?_));refine AWp.nilTok 3 2 tk1 rfl hpG ?_;refine seqJH KeepsT.nil (fun(z:(Sl Z4))=>[(3,.a (.d (Sl.d 2 Z4.c (some tk1) z)))]) (fun z=>(H.set tk1 (some (.tok 2 z.l.length)))) (fun z=>Z98_j3 z=some r) ?_ ?_
 ·intro K3 hK3;refine seqR (S As (nil ?_));refine block ?_;refine loopH (TA 1 KeepsT.nil) (fun(z:Nat×(Sl Z4)×Nat)=>[(3,.a (.d (Sl.d 2 Z4.c (some tk1) z.2.1))),(4,.a (.d (.int .i64 ((z.2.2:Nat):Int))))]) (fun z=>(H.set tk1 (some (.tok 2 z.2.1.l.length)))) (fun z=>z.1) (fun z=>Z98_l7 a0 z.1 z.2.1 z.2.2=some r) ((a0.FDefs.l.length+1),(Sl.nil:Sl Z4),0) hE Weak.toA ?_;rintro ⟨n7,s3_8,s4_9⟩ hE K7 hK7;try dsimp only at hE
  cases n7 with
  | zero=>cases hE
  | succ n7 =>
    rw [Z98_l7] at hE;refine seqK fun K10 hK10=>?_;refine seqR (S Mv (S Fv (S Ld ?_)));refine sLen (f:=TDef.c) (s:=a0.FDefs) (TK rfl) rfl rfl rfl rfl fun hL12=>?_;refine S BI (nil ?_);refine cE hE (fun hc13 hE=>?_) (fun hc13 hE=>?_)
    ·try dsimp only at hc13
     have hf13:=of_decide_eq_true hc13;refine sk hK10 ?_;clear hK10 K10;refine seqJH (TA 1 (TA 4 KeepsT.nil)) (fun(z:(Sl Z4))=>[(3,.a (.d (Sl.d 2 Z4.c (some tk1) z)))]) (fun z=>(H.set tk1 (some (.tok 2 z.l.length)))) (fun z=>Z98_j14 s4_9 ((Z98_l7 a0 n7)) z=some r) ?_ ?_
     ·intro K14 hK14;refine block ?_;refine seqR (S Fv (S Ld (S Mv ?_)));obtain⟨x17,gx17,hE⟩:=bO hE;refine S (ix TDef.c s4_9 gx17) (S Ld ?_);refine Sl ?_;refine Sf ?_;refine nil ?_;refine freezeA 5 _ rfl (KA 1 (KA 3 (KA 4 Keeps.nil))) ?_;refine seqJH (TA 1 (TA 4 (TA 5 KeepsT.nil))) (fun(z:(Sl Z4))=>[(3,.a (.d (Sl.d 2 Z4.c (some tk1) z)))]) (fun z=>(H.set tk1 (some (.tok 2 z.l.length)))) (fun z=>Z98_j18 a0 s4_9 x17 ((Z98_l7 a0 n7)) z=some r) ?_ ?_
      ·intro K18 hK18;refine seqR (S As (nil ?_));refine block ?_;refine loopH (TA 1 (TA 4 (TA 5 KeepsT.nil))) (fun(z:Nat×(Sl Z4)×Nat)=>[(3,.a (.d (Sl.d 2 Z4.c (some tk1) z.2.1))),(6,.a (.d (.int .i64 ((z.2.2:Nat):Int))))]) (fun z=>(H.set tk1 (some (.tok 2 z.2.1.l.length)))) (fun z=>z.1) (fun z=>Z98_l23 a0 s4_9 x17 ((Z98_l7 a0 n7)) z.1 z.2.1 z.2.2=some r) ((x17.FFields.l.length+1),s3_8,0) hE Weak.toA ?_
       rintro ⟨n23,s3_24,s6_25⟩ hE K23 hK23;try dsimp only at hE
       cases n23 with
       | zero=>cases hE
       | succ n23 =>
         rw [Z98_l23] at hE;refine seqK fun K26 hK26=>?_;refine seqR (S Mv (S Fv (S Ld ?_)));refine sLen (f:=Z5.c) (s:=x17.FFields) (TK rfl) rfl rfl rfl rfl fun hL28=>?_;refine S BI (nil ?_);refine cE hE (fun hc29 hE=>?_) (fun hc29 hE=>?_)
         ·try dsimp only at hc29
          have hf29:=of_decide_eq_true hc29;refine sk hK26 ?_;clear hK26 K26;refine seqK fun K30 hK30=>?_;refine block ?_;refine AWp.draw rfl ?_;refine Sd Mv (Sd Ld (Sd Fv (Sd Ld (Sd Mv ?_))));obtain⟨x31,gx31,hE⟩:=bO hE;refine Sd (ix Z5.c s6_25 gx31) (Sd Fv (Sd Ld (Sd Fv (Sd Ld ?_))));obtain⟨x32,gx32,hE⟩:=bO hE;refine DOps.s0 (catM rfl rfl gx32) rfl ?_;refine Sd Fv (Sd Ld (Sd Mv ?_));obtain⟨x33,gx33,hE⟩:=bO hE
          refine Sd (ix Z5.c s6_25 gx33) (Sd Fv (Sd Ld ?_));obtain⟨x34,gx34,hE⟩:=bO hE;refine DOps.s0 (catM rfl rfl gx34) rfl ?_;obtain⟨x35,gx35,hE⟩:=bO hE;refine Scd rfl rfl (Z100_walk gx35) ?_;obtain⟨x36,gx36,hE⟩:=bO hE;refine DOps.sH (appM (f:=Z4.c) (TK rfl) rfl (TK rfl) (TK rfl) ⟨_,rfl⟩ rfl rfl (by decide) rfl rfl rfl rfl hpG rfl gx36) rfl ?_;refine DOps.Dh (H.set tk1 (some (.tok 2 x36.l.length))) ?_
          refine Sd As ?_;refine DOps.nil (by decide +kernel) ?_;refine hK30 _ ?_;clear hK30 K30;refine region ?_;refine S Mv ?_;refine SI ?_;refine S As (nil ?_);exact hK23 _ (n23,x36,(s6_25+1)) Weak.toA hE (Nat.lt_succ_self _)
         refine AWp.exit ?_;exact hK18 _ s3_24 Weak.toA hE
      rintro s3_19 hE;try dsimp only at hE
      unfold Z98_j18 at hE;refine region ?_;refine S Mv (S Ld (S Fv (S Ld (S Fv (S Ld ?_)))));obtain⟨x20,gx20,hE⟩:=bO hE;refine Sc rfl rfl (Z100_walk gx20) ?_;obtain⟨x21,gx21,hE⟩:=bO hE;refine SH (am Z4.c (TK rfl) rfl (TK rfl) (TK rfl) gx21) ?_;refine hq (H.set tk1 (some (.tok 2 x21.l.length))) ?_;refine S As (nil ?_);exact hK14 _ x21 Weak.toA hE
     rintro s3_15 hE;try dsimp only at hE
     unfold Z98_j14 at hE;refine region ?_;refine S Mv ?_;refine SI ?_;refine S As (nil ?_);exact hK7 _ (n7,s3_15,(s4_9+1)) Weak.toA hE (Nat.lt_succ_self _)
    refine AWp.exit ?_;exact hK3 _ s3_8 Weak.toA hE
 rintro s3_4 hE;try dsimp only at hE
 unfold Z98_j3 at hE;refine seqR (S Mv (S As (nil ?_)));refine AWp.dropTok 2 rfl ?_;refine AWp.ret ?_;repeat (first|refine xBlock_ret ?_|refine xThen_ret ?_)
 obtain rfl:=Option.some.inj hE;refine retQ.retF H rfl ⟨rfl,rfl⟩ ?_
 first|exact Heap.sub_set htk1|(simp only [Heap.set_set]; exact Heap.sub_set htk1)
def Z111 (a0:TDoc):Option (Sl Z4):=(Z68 a0 true).bind fun x3=>bif (decide ((0:Int)<((x3.l.length:Nat):Int))) then(some x3) else((Z87 a0).bind fun x10=>(appC 24 x3 x10).bind fun x11=>(Z98 a0).bind fun x13=>(appC 24 x11 x13).bind fun x14=>some x14)
theorem Z111_walk {a0:TDoc}{r:Sl Z4}(hE:Z111 a0=some r) (H:Heap) :ACalls Tryz.prog 8 [.agg (TDoc.c a0)] H fun v h'=>v=.a (.d (Sl.d 2 Z4.c none r))/\h'=H:=by
 unfold Z111 at hE;refine ACalls.oW 18 [.tmp 2] Tryz.call8 Tryz.func8 ?_;refine seqR (S BX ?_);refine s0 (assignNil (k':=2) rfl) rfl ?_;refine nil ?_;refine AWp.tok 2 fun tk1 htk1=>?_;refine seqR (S Ld ?_);obtain⟨x3,gx3,hE⟩:=bO hE;refine sH (callH rfl rfl (Z68_tok gx3 _ hpG)) rfl ?_;refine hq (H.set tk1 (some (.tok 2 x3.l.length))) ?_;refine S As (nil ?_);refine seqK fun K4 hK4=>?_;refine seqR (S Mv ?_)
 refine sLen (f:=Z4.c) (s:=x3) (TK rfl) rfl rfl rfl rfl fun hL6=>?_;refine S BI (nil ?_);refine cE hE (fun hc7 hE=>?_) (fun hc7 hE=>?_)
 ·refine seqR (S Mv (S As (nil ?_)));refine AWp.dropTok 2 rfl ?_;refine AWp.ret ?_;repeat (first|refine xBlock_ret ?_|refine xThen_ret ?_)
  obtain rfl:=Option.some.inj hE;refine retQ.retF H rfl ⟨rfl,rfl⟩ ?_
  first|exact Heap.sub_set htk1|(simp only [Heap.set_set]; exact Heap.sub_set htk1)
 refine sk hK4 ?_;clear hK4 K4;refine seqR (S Mv (S Ld ?_));obtain⟨x10,gx10,hE⟩:=bO hE;refine Sc rfl rfl (Z87_walk gx10) ?_;obtain⟨x11,gx11,hE⟩:=bO hE;refine SH (am Z4.c (TK rfl) rfl (TK rfl) (TK rfl) gx11) ?_;refine hq (H.set tk1 (some (.tok 2 x11.l.length))) ?_;refine S As (nil ?_);refine seqR (S Mv (S Ld ?_));obtain⟨x13,gx13,hE⟩:=bO hE;refine Sc rfl rfl (Z98_walk gx13) ?_;obtain⟨x14,gx14,hE⟩:=bO hE
 refine SH (am Z4.c (TK rfl) rfl (TK rfl) (TK rfl) gx14) ?_;refine hq (H.set tk1 (some (.tok 2 x14.l.length))) ?_;refine S As (nil ?_);refine AWp.dropTok 2 rfl ?_;refine AWp.ret ?_;repeat (first|refine xBlock_ret ?_|refine xThen_ret ?_)
 obtain rfl:=Option.some.inj hE;refine retQ.retF H rfl ⟨rfl,rfl⟩ ?_
 first|exact Heap.sub_set htk1|(simp only [Heap.set_set]; exact Heap.sub_set htk1)
def Z35 (a0:TDoc):Option Bool:=(Z60 a0).bind fun x4=>bif (!x4) then((Z36 ).bind fun x7=>some x7) else((Z149 a0).bind fun x9=>(Z111 a0).bind fun x10=>(Z110 x9 x10).bind fun x11=>guardO (x11) (Z36 ) false fun x12=>some (x11&&x12))
theorem Z35_walk {a0:TDoc}{oT:Ab.Obj}{gT:Nat}{r:Bool}(hE:Z35 a0=some r) (H:Heap) (hgT:H gT=some oT) (hoT:IsTab Tryz.prog oT):ACalls Tryz.prog 3 [.agg (TDoc.c a0)] H fun v h'=>v=.a (.d (.bool r))/\h'=H:=by
 unfold Z35 at hE;refine ACalls.oW 15 [.tmp 2] Tryz.call3 Tryz.func3 ?_;refine seqR (S BX (S As (nil ?_)));refine seqK fun K2 hK2=>?_;refine seqR (S Ld ?_);obtain⟨x4,gx4,hE⟩:=bO hE;refine Sc rfl rfl (Z60_walk gx4) ?_;refine S NB (nil ?_);refine cE hE (fun hc5 hE=>?_) (fun hc5 hE=>?_)
 ·refine seqR ?_;obtain⟨x7,gx7,hE⟩:=bO hE;refine s0 (callR rfl rfl (Z36_walk (gT:=gT) (oT:=oT) gx7 _ hpG (by assumption))) rfl ?_;refine S As (nil ?_);exact rt hE
 refine sk hK2 ?_;clear hK2 K2;refine AWp.seqD (Sd Ld ?_);obtain⟨x9,gx9,hE⟩:=bO hE;refine DOps.s0 (callR rfl rfl (Z149_walk (gT:=gT) (oT:=oT) gx9 _ hpG (by assumption))) rfl ?_;refine Sd Ld ?_;obtain⟨x10,gx10,hE⟩:=bO hE;refine Scd rfl rfl (Z111_walk gx10) ?_;obtain⟨x11,gx11,hE⟩:=bO hE;refine Scd rfl rfl (Z110_walk gx11) ?_;refine Sd Mv ?_;obtain⟨x12,gx12,hE⟩:=gO hE;refine DOps.gC rfl rfl (fun hC=>callR rfl rfl (Z36_walk (gT:=gT) (oT:=oT) (gx12 hC) _ hpG (by assumption))) rfl ?_
 refine Sd PA (Sd As ?_);refine DOps.nil (by decide +kernel) ?_;exact rt hE
end Go.Proofs

namespace Go.Proofs
open Go Go.Ab
def Z43_q (a0:Int):Bool:=((((decide ((65:Int)<=a0))&&(decide (a0<=(90:Int))))||((decide ((97:Int)<=a0))&&(decide (a0<=(122:Int)))))||(decide (a0=(95:Int))))
theorem Z43_eq (a0:Int):Z43 a0=some (Z43_q a0):=by
 unfold Z43 Z43_q;all_goals rfl
def Z41_q (a0:Int):Bool:=((decide ((48:Int)<=a0))&&(decide (a0<=(57:Int))))
theorem Z41_eq (a0:Int):Z41 a0=some (Z41_q a0):=by
 unfold Z41 Z41_q;all_goals rfl
def Z39_q10 :List UInt8->Nat->Unit ⊕ Bool
 | [],s3_11=>Sum.inl ()
 | h10::r10,s3_11=>on (h10) fun x18=>on (Z43_q ((x18.toNat:Nat):Int)) fun x19=>on (bif ((!x19)&&!(decide (((s3_11:Nat):Int)=(0:Int)))) then h10 else(0:UInt8)) fun x20=>on (bif ((!x19)&&!(decide (((s3_11:Nat):Int)=(0:Int)))) then Z41_q ((x20.toNat:Nat):Int) else false) fun x21=>bif ((!x19)&&((decide (((s3_11:Nat):Int)=(0:Int)))||(!x21))) then(Sum.inr false) else(Z39_q10  (r10) (s3_11+1) )
theorem Z39_l10_qe {a0:Bs}  (Kb10:(Unit ⊕ Bool)->Option Bool) (hend:∀(n10:Nat) (s3_11:Nat),Z39_j7   =Kb10 (Sum.inl ())) (hret:∀e:Bool,some e=Kb10 (Sum.inr e)):∀(n10:Nat) (s3_11:Nat),(0<n10/\a0.length<s3_11+n10)->Z39_l10 a0 n10 s3_11=Kb10 (Z39_q10  (a0.drop s3_11) s3_11 ):=by
 intro n10;induction n10 with
 | zero=>intro s3_11 hn; exact absurd hn.1 (by omega)
 | succ n10 ih10 =>
  intro s3_11 hn;rw [Z39_l10];by_cases hlt:s3_11<a0.length
  ·obtain⟨h10,hh10⟩:=Qa hlt;rw [Q.drop_of hh10,Z39_q10];refine QT hlt ?_;refine Q.bindP hh10 fun x18 hx_x18=>?_;refine Q.bindP (Z43_eq _) fun x19 hx_x19=>?_;refine Q.guardP hh10 fun x20 hx_x20=>?_;refine Q.guardP (Z41_eq _) fun x21 hx_x21=>?_;refine Q.condP ?_ ?_
   ·all_goals exact hret _
   all_goals exact ih10 _ ⟨by omega,by omega⟩
  rw [dL (by omega),Z39_q10];refine QF hlt ?_;exact hend n10 s3_11
def Z39_q (a0:Bs):Bool:=bif ((decide (((a0.length:Nat):Int)<(1:Int)))||(decide ((64:Int)<((a0.length:Nat):Int)))) then(false) else(on (Z39_q10  a0 0 ) fun o10=>match o10 with|Sum.inl _=>(on (()) fun _=>true)|Sum.inr e10=>(e10))
theorem Z39_eq (a0:Bs):Z39 a0=some (Z39_q a0):=by
 unfold Z39 Z39_q;refine Q.condP ?_ ?_
 ·all_goals rfl
 refine Q.wrapPP fun Kb10 hKb10=>?_;refine Z39_l10_qe  Kb10 ?_ ?_ _ _ ⟨Nat.succ_pos _,by omega⟩
 ·intro n10 s3_11;refine Qe (hKb10 _) ?_;try dsimp only
  refine Q.wrapPP fun Kj7 hKj7=>?_;have hj7:Z39_j7  =Kj7 ():=by
   refine Qe (hKj7 _) ?_;unfold Z39_j7;all_goals rfl
  all_goals exact hj7
 intro e10;refine Qe (hKb10 _) ?_;try dsimp only
 all_goals rfl
def Z47_q7 (k_rec_96:Z10->Option Int):List Z10->Int->Option (Int)
 | [],s3_8=>some s3_8
 | h7::r7,s3_8=>on (h7) fun x15=>(k_rec_96 x15).bind fun x16=>(addC s3_8 x16).bind fun x17=>Z47_q7 k_rec_96 (r7) x17
theorem Z47_l7_qe {a0:Z10}{k_rec_96:Z10->Option Int}  (Kb7:(Int)->Option Int) (hend:∀(n7:Nat) (s3_8:Int) (s4_9:Nat),Z47_j3   s3_8=Kb7 s3_8):∀(n7:Nat) (s3_8:Int) (s4_9:Nat),(0<n7/\a0.FItems.l.length<s4_9+n7)->Z47_l7 a0 k_rec_96 n7 s3_8 s4_9=Option.bind (Z47_q7 k_rec_96 (a0.FItems.l.drop s4_9) s3_8) Kb7:=by
 intro n7;induction n7 with
 | zero=>intro s3_8 s4_9 hn; exact absurd hn.1 (by omega)
 | succ n7 ih7 =>
  intro s3_8 s4_9 hn;rw [Z47_l7];by_cases hlt:s4_9<a0.FItems.l.length
  ·obtain⟨h7,hh7⟩:=Qa hlt;rw [Q.drop_of hh7,Z47_q7];refine QT hlt ?_;refine Q.bindPO hh7 fun x15 hx_x15=>?_;refine Q.bindO rfl fun x16=>?_;refine Q.bindO rfl fun x17=>?_;all_goals exact ih7 _ _ ⟨by omega,by omega⟩
  rw [dL (by omega),Z47_q7];refine QF hlt ?_;exact hend n7 s3_8 s4_9
def Z47_qn:Nat->Z10->Option Int
 | 0,_=>none
 | n+1,a0=>Option.bind (Z47_q7 (Z47_qn n) a0.FItems.l (1:Int)) fun s3_8=>on (s3_8) fun s3_4=>some s3_4
theorem Z47_qall:∀n:Nat,Z47_n n=Z47_qn n:=by
 intro n;induction n with
 | zero=>exact(by funext a0; first|rfl|(rw [Z47_n,Z47_qn]))
 | succ n ih =>
  funext a0
  refine Qs ?_;rw [Z47_n,Z47_qn];try rw [ih]
  refine Q.wrapOO fun Kb7 hKb7=>?_;refine Z47_l7_qe  Kb7 ?_ _ _ _ ⟨Nat.succ_pos _,by omega⟩;intro n7 s3_8 s4_9;refine Qe (hKb7 _) ?_;refine Q.wrapPO fun Kj3 hKj3=>?_;have hj3:∀(s3_4:Int),Z47_j3  s3_4=Kj3 s3_4:=by
   intro s3_4;refine Qe (hKj3 _) ?_;unfold Z47_j3;all_goals rfl
  all_goals exact hj3 _
def Z47_q (a0:Z10):Option Int:=Z47_qn F0 a0
theorem Z47_eq (a0:Z10):Z47 a0=Z47_q a0:=by
 unfold Z47 Z47_q; rw [(Z47_qall F0)]
def Z44_q8 (k_rec_97:Z10->Option Int):List Z10->Int->Option (Int)
 | [],s3_9=>some s3_9
 | h8::r8,s3_9=>on (h8) fun x16=>(k_rec_97 x16).bind fun x17=>Z44_q8 k_rec_97 (r8) (if x17>s3_9 then x17 else s3_9)
theorem Z44_l8_qe {a0:Z10}{k_rec_97:Z10->Option Int}  (Kb8:(Int)->Option Int) (hend:∀(n8:Nat) (s3_9:Int) (s4_10:Nat),Z44_j3   s3_9=Kb8 s3_9):∀(n8:Nat) (s3_9:Int) (s4_10:Nat),(0<n8/\a0.FItems.l.length<s4_10+n8)->Z44_l8 a0 k_rec_97 n8 s3_9 s4_10=Option.bind (Z44_q8 k_rec_97 (a0.FItems.l.drop s4_10) s3_9) Kb8:=by
 intro n8;induction n8 with
 | zero=>intro s3_9 s4_10 hn; exact absurd hn.1 (by omega)
 | succ n8 ih8 =>
  intro s3_9 s4_10 hn;rw [Z44_l8];by_cases hlt:s4_10<a0.FItems.l.length
  ·obtain⟨h8,hh8⟩:=Qa hlt;rw [Q.drop_of hh8,Z44_q8];refine QT hlt ?_;refine Q.bindPO hh8 fun x16 hx_x16=>?_;refine Q.bindO rfl fun x17=>?_;all_goals exact ih8 _ _ ⟨by omega,by omega⟩
  rw [dL (by omega),Z44_q8];refine QF hlt ?_;exact hend n8 s3_9 s4_10
def Z44_qn:Nat->Z10->Option Int
 | 0,_=>none
 | n+1,a0=>Option.bind (Z44_q8 (Z44_qn n) a0.FItems.l (0:Int)) fun s3_9=>on (s3_9) fun s3_4=>(addC s3_4 (1:Int)).bind fun x6=>some x6
theorem Z44_qall:∀n:Nat,Z44_n n=Z44_qn n:=by
 intro n;induction n with
 | zero=>exact(by funext a0; first|rfl|(rw [Z44_n,Z44_qn]))
 | succ n ih =>
  funext a0
  refine Qs ?_;rw [Z44_n,Z44_qn];try rw [ih]
  refine Q.wrapOO fun Kb8 hKb8=>?_;refine Z44_l8_qe  Kb8 ?_ _ _ _ ⟨Nat.succ_pos _,by omega⟩;intro n8 s3_9 s4_10;refine Qe (hKb8 _) ?_;refine Q.wrapPO fun Kj3 hKj3=>?_;have hj3:∀(s3_4:Int),Z44_j3  s3_4=Kj3 s3_4:=by
   intro s3_4;refine Qe (hKj3 _) ?_;unfold Z44_j3;refine Q.bindO rfl fun x6=>?_;all_goals rfl
  all_goals exact hj3 _
def Z44_q (a0:Z10):Option Int:=Z44_qn F0 a0
theorem Z44_eq (a0:Z10):Z44 a0=Z44_q a0:=by
 unfold Z44 Z44_q; rw [(Z44_qall F0)]
def Z50_q13 (a0:(Sl Bs)) (h5:Bs):Nat->Nat->Option (Unit ⊕ Bool)
 | 0,s4_14=>some (Sum.inl ())
 | r13+1,s4_14=>on (h5) fun x20=>(a0.l[s4_14]?).bind fun x21=>bif ((x20==x21)) then(some (Sum.inr true)) else(Z50_q13 a0 h5 (r13) (s4_14+1) )
theorem Z50_l13_qe {a0:(Sl Bs)}{s3_6:Nat}{k_next_5:Nat->Option Bool}{h5:Bs}(hh5:a0.l[s3_6]?=some h5) (Kb13:(Unit ⊕ Bool)->Option Bool) (hend:∀(n13:Nat) (s4_14:Nat),Z50_j11 s3_6 k_next_5 =Kb13 (Sum.inl ())) (hret:∀e:Bool,some e=Kb13 (Sum.inr e)):∀(n13:Nat) (s4_14:Nat),(0<n13/\s3_6<s4_14+n13)->Z50_l13 a0 s3_6 k_next_5 n13 s4_14=Option.bind (Z50_q13 a0 h5 (s3_6-s4_14) s4_14 ) Kb13:=by
 intro n13;induction n13 with
 | zero=>intro s4_14 hn; exact absurd hn.1 (by omega)
 | succ n13 ih13 =>
  intro s4_14 hn;rw [Z50_l13];by_cases hlt:s4_14<s3_6
  ·rw [show s3_6-s4_14=(s3_6-(s4_14+1))+1 by omega,Z50_q13];refine QT hlt ?_;refine Q.bindPO hh5 fun x20 hx_x20=>?_;refine Q.bindO rfl fun x21=>?_;refine Q.condO ?_ ?_
   ·all_goals exact hret _
   all_goals exact ih13 _ ⟨by omega,by omega⟩
  rw [show s3_6-s4_14=0 by omega,Z50_q13];refine QF hlt ?_;exact hend n13 s4_14
def Z50_q5 (a0:(Sl Bs)):List Bs->Nat->Option (Unit ⊕ Bool)
 | [],s3_6=>some (Sum.inl ())
 | h5::r5,s3_6=>Option.bind (Z50_q13 a0 h5 s3_6 0 ) fun o13=>match o13 with|Sum.inl _=>(on (()) fun _=>Z50_q5 a0 (r5) (s3_6+1) )|Sum.inr e13=>(some (Sum.inr e13))
theorem Z50_l5_qe {a0:(Sl Bs)}  (Kb5:(Unit ⊕ Bool)->Option Bool) (hend:∀(n5:Nat) (s3_6:Nat),Z50_j2   =Kb5 (Sum.inl ())) (hret:∀e:Bool,some e=Kb5 (Sum.inr e)):∀(n5:Nat) (s3_6:Nat),(0<n5/\a0.l.length<s3_6+n5)->Z50_l5 a0 n5 s3_6=Option.bind (Z50_q5 a0 (a0.l.drop s3_6) s3_6 ) Kb5:=by
 intro n5;induction n5 with
 | zero=>intro s3_6 hn; exact absurd hn.1 (by omega)
 | succ n5 ih5 =>
  intro s3_6 hn;rw [Z50_l5];by_cases hlt:s3_6<a0.l.length
  ·obtain⟨h5,hh5⟩:=Qa hlt;rw [Q.drop_of hh5,Z50_q5];refine QT hlt ?_;refine Q.wrapOO fun Kb13 hKb13=>?_;refine Z50_l13_qe hh5 Kb13 ?_ ?_ _ _ ⟨Nat.succ_pos _,by omega⟩
   ·intro n13 s4_14;refine Qe (hKb13 _) ?_;try dsimp only
    refine Q.wrapPO fun Kj11 hKj11=>?_;have hj11:Z50_j11 s3_6 (Z50_l5 a0 n5) =Kj11 ():=by
     refine Qe (hKj11 _) ?_;unfold Z50_j11;all_goals exact ih5 _ ⟨by omega,by omega⟩
    all_goals exact hj11
   intro e13;refine Qe (hKb13 _) ?_;try dsimp only
   all_goals exact hret _
  rw [dL (by omega),Z50_q5];refine QF hlt ?_;exact hend n5 s3_6
def Z50_q (a0:(Sl Bs)):Option Bool:=Option.bind (Z50_q5 a0 a0.l 0 ) fun o5=>match o5 with|Sum.inl _=>(on (()) fun _=>some false)|Sum.inr e5=>(some e5)
theorem Z50_eq (a0:(Sl Bs)):Z50 a0=Z50_q a0:=by
 unfold Z50 Z50_q;refine Qs ?_;refine Q.wrapOO fun Kb5 hKb5=>?_;refine Z50_l5_qe  Kb5 ?_ ?_ _ _ ⟨Nat.succ_pos _,by omega⟩
 ·intro n5 s3_6;refine Qe (hKb5 _) ?_;try dsimp only
  refine Q.wrapPO fun Kj2 hKj2=>?_;have hj2:Z50_j2  =Kj2 ():=by
   refine Qe (hKj2 _) ?_;unfold Z50_j2;all_goals rfl
  all_goals exact hj2
 intro e5;refine Qe (hKb5 _) ?_;try dsimp only
 all_goals rfl
def Z49_q (a0:Z10) (a1:Bool):Option Bool:=bif (decide (a0.FKind=(0:Int))) then(some ((((decide (a0.FInt=(0:Int)))&&((a0.FText==([]:Bs))))&&(decide (((a0.FItems.l.length:Nat):Int)=(0:Int))))&&(decide (((a0.FKeys.l.length:Nat):Int)=(0:Int))))) else(bif (decide (a0.FKind=(1:Int))) then(some (((((decide (a0.FInt=(0:Int)))||(decide (a0.FInt=(1:Int))))&&((a0.FText==([]:Bs))))&&(decide (((a0.FItems.l.length:Nat):Int)=(0:Int))))&&(decide (((a0.FKeys.l.length:Nat):Int)=(0:Int))))) else(bif (decide (a0.FKind=(2:Int))) then(some ((((a0.FText==([]:Bs)))&&(decide (((a0.FItems.l.length:Nat):Int)=(0:Int))))&&(decide (((a0.FKeys.l.length:Nat):Int)=(0:Int))))) else(bif (decide (a0.FKind=(3:Int))) then(some (((decide (a0.FInt=(0:Int)))&&(decide (((a0.FItems.l.length:Nat):Int)=(0:Int))))&&(decide (((a0.FKeys.l.length:Nat):Int)=(0:Int))))) else(bif (decide (a0.FKind=(4:Int))) then(on (bif (((decide (a0.FInt=(0:Int)))&&(decide (((a0.FItems.l.length:Nat):Int)=(0:Int))))&&(decide (((a0.FKeys.l.length:Nat):Int)=(0:Int)))) then Z39_q a0.FText else false) fun x19=>some (((((((decide (a0.FInt=(0:Int)))&&(decide (((a0.FItems.l.length:Nat):Int)=(0:Int))))&&(decide (((a0.FKeys.l.length:Nat):Int)=(0:Int))))&&x19)&&(!(a0.FText==([116,114,117,101]:Bs))))&&(!(a0.FText==([102,97,108,115,101]:Bs))))&&(!(a0.FText==([110,117,108,108]:Bs))))) else(bif (decide (a0.FKind=(5:Int))) then(some (((decide (a0.FInt=(0:Int)))&&((a0.FText==([]:Bs))))&&(decide (((a0.FKeys.l.length:Nat):Int)=(0:Int))))) else(bif (decide (a0.FKind=(6:Int))) then(guardO ((((decide (a0.FInt=(0:Int)))&&((a0.FText==([]:Bs))))&&(decide (((a0.FKeys.l.length:Nat):Int)=((a0.FItems.l.length:Nat):Int))))) (Z50_q a0.FKeys) false fun x26=>some ((((decide (a0.FInt=(0:Int)))&&((a0.FText==([]:Bs))))&&(decide (((a0.FKeys.l.length:Nat):Int)=((a0.FItems.l.length:Nat):Int))))&&(!x26))) else(bif (decide (a0.FKind=(7:Int))) then(on (bif (((a1&&(decide (a0.FInt=(0:Int))))&&(decide (((a0.FItems.l.length:Nat):Int)=(0:Int))))&&(decide (((a0.FKeys.l.length:Nat):Int)=(0:Int)))) then Z39_q a0.FText else false) fun x30=>some ((((a1&&(decide (a0.FInt=(0:Int))))&&(decide (((a0.FItems.l.length:Nat):Int)=(0:Int))))&&(decide (((a0.FKeys.l.length:Nat):Int)=(0:Int))))&&x30)) else(some false))))))))
theorem Z49_eq (a0:Z10) (a1:Bool):Z49 a0 a1=Z49_q a0 a1:=by
 unfold Z49 Z49_q;refine Qs ?_;refine Q.condO ?_ ?_
 ·all_goals rfl
 refine Q.condO ?_ ?_
 ·all_goals rfl
 refine Q.condO ?_ ?_
 ·all_goals rfl
 refine Q.condO ?_ ?_
 ·all_goals rfl
 refine Q.condO ?_ ?_
 ·refine Q.guardPO (Z39_eq _) fun x19 hx_x19=>?_;all_goals rfl
 refine Q.condO ?_ ?_
 ·all_goals rfl
 refine Q.condO ?_ ?_
 ·refine Q.guardOO (Z50_eq _) fun x26=>?_;all_goals rfl
 refine Q.condO ?_ ?_
 ·refine Q.guardPO (Z39_eq _) fun x30 hx_x30=>?_;all_goals rfl
 all_goals rfl
def Z51_q24 (a1:Bool):List Bs->Unit ⊕ Bool
 | []=>Sum.inl ()
 | h24::r24=>on (bif a1 then h24 else([]:Bs)) fun x32=>on (bif a1 then Z39_q x32 else false) fun x33=>bif (a1&&(!x33)) then(Sum.inr false) else(Z51_q24 a1 (r24) )
theorem Z51_l24_qe {a0:Z10}{a1:Bool}{k_rec_98:Z10->Bool->Option Bool}  (Kb24:(Unit ⊕ Bool)->Option Bool) (hend:∀(n24:Nat) (s5_25:Nat),Z51_j7 a0 a1 k_rec_98 =Kb24 (Sum.inl ())) (hret:∀e:Bool,some e=Kb24 (Sum.inr e)):∀(n24:Nat) (s5_25:Nat),(0<n24/\a0.FKeys.l.length<s5_25+n24)->Z51_l24 a0 a1 k_rec_98 n24 s5_25=Kb24 (Z51_q24 a1 (a0.FKeys.l.drop s5_25) ):=by
 intro n24;induction n24 with
 | zero=>intro s5_25 hn; exact absurd hn.1 (by omega)
 | succ n24 ih24 =>
  intro s5_25 hn;rw [Z51_l24];by_cases hlt:s5_25<a0.FKeys.l.length
  ·obtain⟨h24,hh24⟩:=Qa hlt;rw [Q.drop_of hh24,Z51_q24];refine QT hlt ?_;refine Q.guardP hh24 fun x32 hx_x32=>?_;refine Q.guardP (Z39_eq _) fun x33 hx_x33=>?_;refine Q.condP ?_ ?_
   ·all_goals exact hret _
   all_goals exact ih24 _ ⟨by omega,by omega⟩
  rw [dL (by omega),Z51_q24];refine QF hlt ?_;exact hend n24 s5_25
def Z51_q11 (a1:Bool) (k_rec_98:Z10->Bool->Option Bool):List Z10->Option (Unit ⊕ Bool)
 | []=>some (Sum.inl ())
 | h11::r11=>on (h11) fun x19=>(k_rec_98 x19 a1).bind fun x20=>bif (!x20) then(some (Sum.inr false)) else(Z51_q11 a1 k_rec_98 (r11) )
theorem Z51_l11_qe {a0:Z10}{a1:Bool}{k_rec_98:Z10->Bool->Option Bool}  (Kb11:(Unit ⊕ Bool)->Option Bool) (hend:∀(n11:Nat) (s6_12:Nat),Z51_j8   =Kb11 (Sum.inl ())) (hret:∀e:Bool,some e=Kb11 (Sum.inr e)):∀(n11:Nat) (s6_12:Nat),(0<n11/\a0.FItems.l.length<s6_12+n11)->Z51_l11 a0 a1 k_rec_98 n11 s6_12=Option.bind (Z51_q11 a1 k_rec_98 (a0.FItems.l.drop s6_12) ) Kb11:=by
 intro n11;induction n11 with
 | zero=>intro s6_12 hn; exact absurd hn.1 (by omega)
 | succ n11 ih11 =>
  intro s6_12 hn;rw [Z51_l11];by_cases hlt:s6_12<a0.FItems.l.length
  ·obtain⟨h11,hh11⟩:=Qa hlt;rw [Q.drop_of hh11,Z51_q11];refine QT hlt ?_;refine Q.bindPO hh11 fun x19 hx_x19=>?_;refine Q.bindO rfl fun x20=>?_;refine Q.condO ?_ ?_
   ·all_goals exact hret _
   all_goals exact ih11 _ ⟨by omega,by omega⟩
  rw [dL (by omega),Z51_q11];refine QF hlt ?_;exact hend n11 s6_12
def Z51_qn:Nat->Z10->Bool->Option Bool
 | 0,_,_=>none
 | n+1,a0,a1=>(Z49_q a0 a1).bind fun x4=>bif (!x4) then(some false) else(on (Z51_q24 a1 a0.FKeys.l ) fun o24=>match o24 with|Sum.inl _=>(on (()) fun _=>Option.bind (Z51_q11 a1 (Z51_qn n) a0.FItems.l ) fun o11=>match o11 with|Sum.inl _=>(on (()) fun _=>some true)|Sum.inr e11=>(some e11))|Sum.inr e24=>(some e24))
theorem Z51_qall:∀n:Nat,Z51_n n=Z51_qn n:=by
 intro n;induction n with
 | zero=>exact(by funext a0 a1; first|rfl|(rw [Z51_n,Z51_qn]))
 | succ n ih =>
  funext a0 a1
  refine Qs ?_;rw [Z51_n,Z51_qn];try rw [ih]
  refine Q.bindO (Z49_eq _ _) fun x4=>?_;refine Q.condO ?_ ?_
  ·all_goals rfl
  refine Q.wrapPO fun Kb24 hKb24=>?_;refine Z51_l24_qe  Kb24 ?_ ?_ _ _ ⟨Nat.succ_pos _,by omega⟩
  ·intro n24 s5_25;refine Qe (hKb24 _) ?_;try dsimp only
   refine Q.wrapPO fun Kj7 hKj7=>?_;have hj7:Z51_j7 a0 a1 (Z51_qn n) =Kj7 ():=by
    refine Qe (hKj7 _) ?_;unfold Z51_j7;refine Q.wrapOO fun Kb11 hKb11=>?_;refine Z51_l11_qe  Kb11 ?_ ?_ _ _ ⟨Nat.succ_pos _,by omega⟩
    ·intro n11 s6_12;refine Qe (hKb11 _) ?_;try dsimp only
     refine Q.wrapPO fun Kj8 hKj8=>?_;have hj8:Z51_j8  =Kj8 ():=by
      refine Qe (hKj8 _) ?_;unfold Z51_j8;all_goals rfl
     all_goals exact hj8
    intro e11;refine Qe (hKb11 _) ?_;try dsimp only
    all_goals rfl
   all_goals exact hj7
  intro e24;refine Qe (hKb24 _) ?_;try dsimp only
  all_goals rfl
def Z51_q (a0:Z10) (a1:Bool):Option Bool:=Z51_qn F0 a0 a1
theorem Z51_eq (a0:Z10) (a1:Bool):Z51 a0 a1=Z51_q a0 a1:=by
 unfold Z51 Z51_q; rw [(Z51_qall F0)]
def Z46_q (a0:Z10):Option Bool:=(Z47_q a0).bind fun x3=>guardO ((decide (x3<=(4096:Int)))) (Z44_q a0) (0:Int) fun x4=>guardO (((decide (x3<=(4096:Int)))&&(decide (x4<=(24:Int))))) (Z51_q a0 true) false fun x5=>some (((decide (x3<=(4096:Int)))&&(decide (x4<=(24:Int))))&&x5)
theorem Z46_eq (a0:Z10):Z46 a0=Z46_q a0:=by
 unfold Z46 Z46_q;refine Qs ?_;refine Q.bindO (Z47_eq _) fun x3=>?_;refine Q.guardOO (Z44_eq _) fun x4=>?_;refine Q.guardOO (Z51_eq _ _) fun x5=>?_;all_goals rfl
def Z61_q5 (k_rec_49:Z10->Option Bool):List Z10->Option (Unit ⊕ Bool)
 | []=>some (Sum.inl ())
 | h5::r5=>on (h5) fun x13=>(k_rec_49 x13).bind fun x14=>bif (!x14) then(some (Sum.inr false)) else(Z61_q5 k_rec_49 (r5) )
theorem Z61_l5_qe {a0:Z10}{k_rec_49:Z10->Option Bool}  (Kb5:(Unit ⊕ Bool)->Option Bool) (hend:∀(n5:Nat) (s3_6:Nat),Z61_j2 a0  =Kb5 (Sum.inl ())) (hret:∀e:Bool,some e=Kb5 (Sum.inr e)):∀(n5:Nat) (s3_6:Nat),(0<n5/\a0.FItems.l.length<s3_6+n5)->Z61_l5 a0 k_rec_49 n5 s3_6=Option.bind (Z61_q5 k_rec_49 (a0.FItems.l.drop s3_6) ) Kb5:=by
 intro n5;induction n5 with
 | zero=>intro s3_6 hn; exact absurd hn.1 (by omega)
 | succ n5 ih5 =>
  intro s3_6 hn;rw [Z61_l5];by_cases hlt:s3_6<a0.FItems.l.length
  ·obtain⟨h5,hh5⟩:=Qa hlt;rw [Q.drop_of hh5,Z61_q5];refine QT hlt ?_;refine Q.bindPO hh5 fun x13 hx_x13=>?_;refine Q.bindO rfl fun x14=>?_;refine Q.condO ?_ ?_
   ·all_goals exact hret _
   all_goals exact ih5 _ ⟨by omega,by omega⟩
  rw [dL (by omega),Z61_q5];refine QF hlt ?_;exact hend n5 s3_6
def Z61_qn:Nat->Z10->Option Bool
 | 0,_=>none
 | n+1,a0=>Option.bind (Z61_q5 (Z61_qn n) a0.FItems.l ) fun o5=>match o5 with|Sum.inl _=>(on (()) fun _=>some (!decide (a0.FKind=(7:Int))))|Sum.inr e5=>(some e5)
theorem Z61_qall:∀n:Nat,Z61_n n=Z61_qn n:=by
 intro n;induction n with
 | zero=>exact(by funext a0; first|rfl|(rw [Z61_n,Z61_qn]))
 | succ n ih =>
  funext a0
  refine Qs ?_;rw [Z61_n,Z61_qn];try rw [ih]
  refine Q.wrapOO fun Kb5 hKb5=>?_;refine Z61_l5_qe  Kb5 ?_ ?_ _ _ ⟨Nat.succ_pos _,by omega⟩
  ·intro n5 s3_6;refine Qe (hKb5 _) ?_;try dsimp only
   refine Q.wrapPO fun Kj2 hKj2=>?_;have hj2:Z61_j2 a0 =Kj2 ():=by
    refine Qe (hKj2 _) ?_;unfold Z61_j2;all_goals rfl
   all_goals exact hj2
  intro e5;refine Qe (hKb5 _) ?_;try dsimp only
  all_goals rfl
def Z61_q (a0:Z10):Option Bool:=Z61_qn F0 a0
theorem Z61_eq (a0:Z10):Z61 a0=Z61_q a0:=by
 unfold Z61 Z61_q; rw [(Z61_qall F0)]
def Z63_q25 (h10:TDir):List TArg->Option (Unit ⊕ Bool)
 | []=>some (Sum.inl ())
 | h25::r25=>on (h10) fun x34=>on (h25) fun x35=>on (Z39_q x35.FName) fun x37=>guardO (!(!x37)) (Z46_q x35.FValue) false fun x38=>guardO (!((!x37)||(!x38))) (Z61_q x35.FValue) false fun x39=>bif (((!x37)||(!x38))||(!x39)) then(some (Sum.inr false)) else(Z63_q25 h10 (r25) )
theorem Z63_l25_qe {a0:(Sl TDir)}{s3_11:Nat}{k_next_10:Nat->Option Bool}{h10:TDir}(hh10:a0.l[s3_11]?=some h10) (Kb25:(Unit ⊕ Bool)->Option Bool) (hend:∀(n25:Nat) (s4_26:Nat),Z63_j16 s3_11 k_next_10 =Kb25 (Sum.inl ())) (hret:∀e:Bool,some e=Kb25 (Sum.inr e)):∀(n25:Nat) (s4_26:Nat),(0<n25/\h10.FArgs.l.length<s4_26+n25)->Z63_l25 a0 s3_11 k_next_10 n25 s4_26=Option.bind (Z63_q25 h10 (h10.FArgs.l.drop s4_26) ) Kb25:=by
 intro n25;induction n25 with
 | zero=>intro s4_26 hn; exact absurd hn.1 (by omega)
 | succ n25 ih25 =>
  intro s4_26 hn;rw [Z63_l25];refine Q.preB hh10 fun x29 hx_x29=>?_;subst hx_x29;by_cases hlt:s4_26<x29.FArgs.l.length
  ·obtain⟨h25,hh25⟩:=Qa hlt;rw [Q.drop_of hh25,Z63_q25];refine QT hlt ?_;refine Q.bindPO hh10 fun x34 hx_x34=>?_;refine Q.bindPO (by first|exact hh25|(simp only [hx_x34]; exact hh25)|(simp only [hx_x34] at hh25 ⊢; exact hh25)) fun x35 hx_x35=>?_;refine Q.bindPO (Z39_eq _) fun x37 hx_x37=>?_;refine Q.guardOO (Z46_eq _) fun x38=>?_;refine Q.guardOO (Z61_eq _) fun x39=>?_;refine Q.condO ?_ ?_
   ·all_goals exact hret _
   all_goals exact ih25 _ ⟨by omega,by omega⟩
  rw [dL (by omega),Z63_q25];refine QF hlt ?_;exact hend n25 s4_26
def Z63_q10 :List TDir->Option (Unit ⊕ Bool)
 | []=>some (Sum.inl ())
 | h10::r10=>on (h10) fun x19=>on (Z39_q x19.FName) fun x20=>on (bif !(!x20) then h10 else TDir.zero) fun x21=>bif ((!x20)||(decide ((16:Int)<((x21.FArgs.l.length:Nat):Int)))) then(some (Sum.inr false)) else(Option.bind (Z63_q25 h10 h10.FArgs.l ) fun o25=>match o25 with|Sum.inl _=>(on (()) fun _=>Z63_q10  (r10) )|Sum.inr e25=>(some (Sum.inr e25)))
theorem Z63_l10_qe {a0:(Sl TDir)}  (Kb10:(Unit ⊕ Bool)->Option Bool) (hend:∀(n10:Nat) (s3_11:Nat),Z63_j7   =Kb10 (Sum.inl ())) (hret:∀e:Bool,some e=Kb10 (Sum.inr e)):∀(n10:Nat) (s3_11:Nat),(0<n10/\a0.l.length<s3_11+n10)->Z63_l10 a0 n10 s3_11=Option.bind (Z63_q10  (a0.l.drop s3_11) ) Kb10:=by
 intro n10;induction n10 with
 | zero=>intro s3_11 hn; exact absurd hn.1 (by omega)
 | succ n10 ih10 =>
  intro s3_11 hn;rw [Z63_l10];by_cases hlt:s3_11<a0.l.length
  ·obtain⟨h10,hh10⟩:=Qa hlt;rw [Q.drop_of hh10,Z63_q10];refine QT hlt ?_;refine Q.bindPO hh10 fun x19 hx_x19=>?_;refine Q.bindPO (Z39_eq _) fun x20 hx_x20=>?_;refine Q.guardPO hh10 fun x21 hx_x21=>?_;refine Q.condO ?_ ?_
   ·all_goals exact hret _
   refine Q.wrapOO fun Kb25 hKb25=>?_;refine Z63_l25_qe hh10 Kb25 ?_ ?_ _ _ ⟨by rw [hh10]; exact Nat.succ_pos _,by rw [hh10]; simp only [Option.elim]; omega⟩
   ·intro n25 s4_26;refine Qe (hKb25 _) ?_;try dsimp only
    refine Q.wrapPO fun Kj16 hKj16=>?_;have hj16:Z63_j16 s3_11 (Z63_l10 a0 n10) =Kj16 ():=by
     refine Qe (hKj16 _) ?_;unfold Z63_j16;all_goals exact ih10 _ ⟨by omega,by omega⟩
    all_goals exact hj16
   intro e25;refine Qe (hKb25 _) ?_;try dsimp only
   all_goals exact hret _
  rw [dL (by omega),Z63_q10];refine QF hlt ?_;exact hend n10 s3_11
def Z63_q (a0:(Sl TDir)):Option Bool:=bif (decide ((16:Int)<((a0.l.length:Nat):Int))) then(some false) else(Option.bind (Z63_q10  a0.l ) fun o10=>match o10 with|Sum.inl _=>(on (()) fun _=>some true)|Sum.inr e10=>(some e10))
theorem Z63_eq (a0:(Sl TDir)):Z63 a0=Z63_q a0:=by
 unfold Z63 Z63_q;refine Qs ?_;refine Q.condO ?_ ?_
 ·all_goals rfl
 refine Q.wrapOO fun Kb10 hKb10=>?_;refine Z63_l10_qe  Kb10 ?_ ?_ _ _ ⟨Nat.succ_pos _,by omega⟩
 ·intro n10 s3_11;refine Qe (hKb10 _) ?_;try dsimp only
  refine Q.wrapPO fun Kj7 hKj7=>?_;have hj7:Z63_j7  =Kj7 ():=by
   refine Qe (hKj7 _) ?_;unfold Z63_j7;all_goals rfl
  all_goals exact hj7
 intro e10;refine Qe (hKb10 _) ?_;try dsimp only
 all_goals rfl
def Z56_q10 (a0:TRef):List Int->Nat->Option (Unit ⊕ Bool)
 | [],s3_11=>some (Sum.inl ())
 | h10::r10,s3_11=>on (h10) fun x19=>on (bif (!decide (x19=(1:Int))) then h10 else(0:Int)) fun x20=>bif ((!decide (x19=(1:Int)))&&(!decide (x20=(2:Int)))) then(some (Sum.inr false)) else(on (bif (decide ((0:Int)<((s3_11:Nat):Int))) then h10 else(0:Int)) fun x24=>guardO (((decide ((0:Int)<((s3_11:Nat):Int)))&&(decide (x24=(1:Int))))) (subC ((s3_11:Nat):Int) (1:Int)) (0:Int) fun x25=>guardO (((decide ((0:Int)<((s3_11:Nat):Int)))&&(decide (x24=(1:Int))))) (idxC a0.FWraps.l x25) (0:Int) fun x26=>bif (((decide ((0:Int)<((s3_11:Nat):Int)))&&(decide (x24=(1:Int))))&&(decide (x26=(1:Int)))) then(some (Sum.inr false)) else(Z56_q10 a0 (r10) (s3_11+1) ))
theorem Z56_l10_qe {a0:TRef}  (Kb10:(Unit ⊕ Bool)->Option Bool) (hend:∀(n10:Nat) (s3_11:Nat),Z56_j7   =Kb10 (Sum.inl ())) (hret:∀e:Bool,some e=Kb10 (Sum.inr e)):∀(n10:Nat) (s3_11:Nat),(0<n10/\a0.FWraps.l.length<s3_11+n10)->Z56_l10 a0 n10 s3_11=Option.bind (Z56_q10 a0 (a0.FWraps.l.drop s3_11) s3_11 ) Kb10:=by
 intro n10;induction n10 with
 | zero=>intro s3_11 hn; exact absurd hn.1 (by omega)
 | succ n10 ih10 =>
  intro s3_11 hn;rw [Z56_l10];by_cases hlt:s3_11<a0.FWraps.l.length
  ·obtain⟨h10,hh10⟩:=Qa hlt;rw [Q.drop_of hh10,Z56_q10];refine QT hlt ?_;refine Q.bindPO hh10 fun x19 hx_x19=>?_;refine Q.guardPO hh10 fun x20 hx_x20=>?_;refine Q.condO ?_ ?_
   ·all_goals exact hret _
   refine Q.guardPO hh10 fun x24 hx_x24=>?_;refine Q.guardOO rfl fun x25=>?_;refine Q.guardOO rfl fun x26=>?_;refine Q.condO ?_ ?_
   ·all_goals exact hret _
   all_goals exact ih10 _ ⟨by omega,by omega⟩
  rw [dL (by omega),Z56_q10];refine QF hlt ?_;exact hend n10 s3_11
def Z56_q (a0:TRef):Option Bool:=on (Z39_q a0.FName) fun x4=>bif ((!x4)||(decide ((24:Int)<((a0.FWraps.l.length:Nat):Int)))) then(some false) else(Option.bind (Z56_q10 a0 a0.FWraps.l 0 ) fun o10=>match o10 with|Sum.inl _=>(on (()) fun _=>some true)|Sum.inr e10=>(some e10))
theorem Z56_eq (a0:TRef):Z56 a0=Z56_q a0:=by
 unfold Z56 Z56_q;refine Qs ?_;refine Q.bindPO (Z39_eq _) fun x4 hx_x4=>?_;refine Q.condO ?_ ?_
 ·all_goals rfl
 refine Q.wrapOO fun Kb10 hKb10=>?_;refine Z56_l10_qe  Kb10 ?_ ?_ _ _ ⟨Nat.succ_pos _,by omega⟩
 ·intro n10 s3_11;refine Qe (hKb10 _) ?_;try dsimp only
  refine Q.wrapPO fun Kj7 hKj7=>?_;have hj7:Z56_j7  =Kj7 ():=by
   refine Qe (hKj7 _) ?_;unfold Z56_j7;all_goals rfl
  all_goals exact hj7
 intro e10;refine Qe (hKb10 _) ?_;try dsimp only
 all_goals rfl
def Z67_q (a0:Z10):Bool:=(((((decide (a0.FKind=(0:Int)))&&(decide (a0.FInt=(0:Int))))&&((a0.FText==([]:Bs))))&&(decide (((a0.FItems.l.length:Nat):Int)=(0:Int))))&&(decide (((a0.FKeys.l.length:Nat):Int)=(0:Int))))
theorem Z67_eq (a0:Z10):Z67 a0=some (Z67_q a0):=by
 unfold Z67 Z67_q;all_goals rfl
def Z65_q10 :List Z7->Option (Unit ⊕ Bool)
 | []=>some (Sum.inl ())
 | h10::r10=>on (h10) fun x18=>on (Z39_q x18.FName) fun x21=>guardO (!(!x21)) (Z56_q x18.FType) false fun x22=>guardO (!((!x21)||(!x22))) (Z63_q x18.FDirs) false fun x23=>bif (((!x21)||(!x22))||(!x23)) then(some (Sum.inr false)) else(guardO (x18.FHas) (Z46_q x18.FDefault) false fun x27=>guardO ((x18.FHas&&!(!x27))) (Z61_q x18.FDefault) false fun x28=>on (bif (!(x18.FHas&&((!x27)||(!x28)))&&(!x18.FHas)) then Z67_q x18.FDefault else false) fun x29=>bif ((x18.FHas&&((!x27)||(!x28)))||((!x18.FHas)&&(!x29))) then(some (Sum.inr false)) else(Z65_q10  (r10) ))
theorem Z65_l10_qe {a0:(Sl Z7)}  (Kb10:(Unit ⊕ Bool)->Option Bool) (hend:∀(n10:Nat) (s3_11:Nat),Z65_j7   =Kb10 (Sum.inl ())) (hret:∀e:Bool,some e=Kb10 (Sum.inr e)):∀(n10:Nat) (s3_11:Nat),(0<n10/\a0.l.length<s3_11+n10)->Z65_l10 a0 n10 s3_11=Option.bind (Z65_q10  (a0.l.drop s3_11) ) Kb10:=by
 intro n10;induction n10 with
 | zero=>intro s3_11 hn; exact absurd hn.1 (by omega)
 | succ n10 ih10 =>
  intro s3_11 hn;rw [Z65_l10];by_cases hlt:s3_11<a0.l.length
  ·obtain⟨h10,hh10⟩:=Qa hlt;rw [Q.drop_of hh10,Z65_q10];refine QT hlt ?_;refine Q.bindPO hh10 fun x18 hx_x18=>?_;refine Q.bindPO (Z39_eq _) fun x21 hx_x21=>?_;refine Q.guardOO (Z56_eq _) fun x22=>?_;refine Q.guardOO (Z63_eq _) fun x23=>?_;refine Q.condO ?_ ?_
   ·all_goals exact hret _
   refine Q.guardOO (Z46_eq _) fun x27=>?_;refine Q.guardOO (Z61_eq _) fun x28=>?_;refine Q.guardPO (Z67_eq _) fun x29 hx_x29=>?_;refine Q.condO ?_ ?_
   ·all_goals exact hret _
   all_goals exact ih10 _ ⟨by omega,by omega⟩
  rw [dL (by omega),Z65_q10];refine QF hlt ?_;exact hend n10 s3_11
def Z65_q (a0:(Sl Z7)):Option Bool:=bif (decide ((16:Int)<((a0.l.length:Nat):Int))) then(some false) else(Option.bind (Z65_q10  a0.l ) fun o10=>match o10 with|Sum.inl _=>(on (()) fun _=>some true)|Sum.inr e10=>(some e10))
theorem Z65_eq (a0:(Sl Z7)):Z65 a0=Z65_q a0:=by
 unfold Z65 Z65_q;refine Qs ?_;refine Q.condO ?_ ?_
 ·all_goals rfl
 refine Q.wrapOO fun Kb10 hKb10=>?_;refine Z65_l10_qe  Kb10 ?_ ?_ _ _ ⟨Nat.succ_pos _,by omega⟩
 ·intro n10 s3_11;refine Qe (hKb10 _) ?_;try dsimp only
  refine Q.wrapPO fun Kj7 hKj7=>?_;have hj7:Z65_j7  =Kj7 ():=by
   refine Qe (hKj7 _) ?_;unfold Z65_j7;all_goals rfl
  all_goals exact hj7
 intro e10;refine Qe (hKb10 _) ?_;try dsimp only
 all_goals rfl
def Z64_q10 :List Z5->Option (Unit ⊕ Bool)
 | []=>some (Sum.inl ())
 | h10::r10=>on (h10) fun x18=>on (Z39_q x18.FName) fun x19=>on (bif !(!x19) then h10 else Z5.zero) fun x20=>guardO (!(!x19)) (Z65_q x20.FArgs) false fun x21=>on (bif !((!x19)||(!x21)) then h10 else Z5.zero) fun x22=>guardO (!((!x19)||(!x21))) (Z56_q x22.FType) false fun x23=>on (bif !(((!x19)||(!x21))||(!x23)) then h10 else Z5.zero) fun x24=>guardO (!(((!x19)||(!x21))||(!x23))) (Z63_q x24.FDirs) false fun x25=>bif ((((!x19)||(!x21))||(!x23))||(!x25)) then(some (Sum.inr false)) else(Z64_q10  (r10) )
theorem Z64_l10_qe {a0:(Sl Z5)}  (Kb10:(Unit ⊕ Bool)->Option Bool) (hend:∀(n10:Nat) (s3_11:Nat),Z64_j7   =Kb10 (Sum.inl ())) (hret:∀e:Bool,some e=Kb10 (Sum.inr e)):∀(n10:Nat) (s3_11:Nat),(0<n10/\a0.l.length<s3_11+n10)->Z64_l10 a0 n10 s3_11=Option.bind (Z64_q10  (a0.l.drop s3_11) ) Kb10:=by
 intro n10;induction n10 with
 | zero=>intro s3_11 hn; exact absurd hn.1 (by omega)
 | succ n10 ih10 =>
  intro s3_11 hn;rw [Z64_l10];by_cases hlt:s3_11<a0.l.length
  ·obtain⟨h10,hh10⟩:=Qa hlt;rw [Q.drop_of hh10,Z64_q10];refine QT hlt ?_;refine Q.bindPO hh10 fun x18 hx_x18=>?_;refine Q.bindPO (Z39_eq _) fun x19 hx_x19=>?_;refine Q.guardPO hh10 fun x20 hx_x20=>?_;refine Q.guardOO (Z65_eq _) fun x21=>?_;refine Q.guardPO hh10 fun x22 hx_x22=>?_;refine Q.guardOO (Z56_eq _) fun x23=>?_;refine Q.guardPO hh10 fun x24 hx_x24=>?_;refine Q.guardOO (Z63_eq _) fun x25=>?_
   refine Q.condO ?_ ?_
   ·all_goals exact hret _
   all_goals exact ih10 _ ⟨by omega,by omega⟩
  rw [dL (by omega),Z64_q10];refine QF hlt ?_;exact hend n10 s3_11
def Z64_q (a0:(Sl Z5)):Option Bool:=bif ((decide (((a0.l.length:Nat):Int)<(1:Int)))||(decide ((64:Int)<((a0.l.length:Nat):Int)))) then(some false) else(Option.bind (Z64_q10  a0.l ) fun o10=>match o10 with|Sum.inl _=>(on (()) fun _=>some true)|Sum.inr e10=>(some e10))
theorem Z64_eq (a0:(Sl Z5)):Z64 a0=Z64_q a0:=by
 unfold Z64 Z64_q;refine Qs ?_;refine Q.condO ?_ ?_
 ·all_goals rfl
 refine Q.wrapOO fun Kb10 hKb10=>?_;refine Z64_l10_qe  Kb10 ?_ ?_ _ _ ⟨Nat.succ_pos _,by omega⟩
 ·intro n10 s3_11;refine Qe (hKb10 _) ?_;try dsimp only
  refine Q.wrapPO fun Kj7 hKj7=>?_;have hj7:Z64_j7  =Kj7 ():=by
   refine Qe (hKj7 _) ?_;unfold Z64_j7;all_goals rfl
  all_goals exact hj7
 intro e10;refine Qe (hKb10 _) ?_;try dsimp only
 all_goals rfl
def Z66_q10 (a1:Bool):List Z8->Option (Unit ⊕ Bool)
 | []=>some (Sum.inl ())
 | h10::r10=>on (h10) fun x18=>on (Z39_q x18.FName) fun x19=>on (bif !(!x19) then h10 else Z8.zero) fun x20=>guardO (!(!x19)) (Z63_q x20.FDirs) false fun x21=>on (bif (!((!x19)||(!x21))&&a1) then h10 else Z8.zero) fun x22=>bif (((!x19)||(!x21))||(a1&&(decide ((0:Int)<((x22.FDirs.l.length:Nat):Int))))) then(some (Sum.inr false)) else(Z66_q10 a1 (r10) )
theorem Z66_l10_qe {a0:(Sl Z8)}{a1:Bool}  (Kb10:(Unit ⊕ Bool)->Option Bool) (hend:∀(n10:Nat) (s5_11:Nat),Z66_j7   =Kb10 (Sum.inl ())) (hret:∀e:Bool,some e=Kb10 (Sum.inr e)):∀(n10:Nat) (s5_11:Nat),(0<n10/\a0.l.length<s5_11+n10)->Z66_l10 a0 a1 n10 s5_11=Option.bind (Z66_q10 a1 (a0.l.drop s5_11) ) Kb10:=by
 intro n10;induction n10 with
 | zero=>intro s5_11 hn; exact absurd hn.1 (by omega)
 | succ n10 ih10 =>
  intro s5_11 hn;rw [Z66_l10];by_cases hlt:s5_11<a0.l.length
  ·obtain⟨h10,hh10⟩:=Qa hlt;rw [Q.drop_of hh10,Z66_q10];refine QT hlt ?_;refine Q.bindPO hh10 fun x18 hx_x18=>?_;refine Q.bindPO (Z39_eq _) fun x19 hx_x19=>?_;refine Q.guardPO hh10 fun x20 hx_x20=>?_;refine Q.guardOO (Z63_eq _) fun x21=>?_;refine Q.guardPO hh10 fun x22 hx_x22=>?_;refine Q.condO ?_ ?_
   ·all_goals exact hret _
   all_goals exact ih10 _ ⟨by omega,by omega⟩
  rw [dL (by omega),Z66_q10];refine QF hlt ?_;exact hend n10 s5_11
def Z66_q (a0:(Sl Z8)) (a1:Bool):Option Bool:=bif ((decide (((a0.l.length:Nat):Int)<(1:Int)))||(decide ((64:Int)<((a0.l.length:Nat):Int)))) then(some false) else(Option.bind (Z66_q10 a1 a0.l ) fun o10=>match o10 with|Sum.inl _=>(on (()) fun _=>some true)|Sum.inr e10=>(some e10))
theorem Z66_eq (a0:(Sl Z8)) (a1:Bool):Z66 a0 a1=Z66_q a0 a1:=by
 unfold Z66 Z66_q;refine Qs ?_;refine Q.condO ?_ ?_
 ·all_goals rfl
 refine Q.wrapOO fun Kb10 hKb10=>?_;refine Z66_l10_qe  Kb10 ?_ ?_ _ _ ⟨Nat.succ_pos _,by omega⟩
 ·intro n10 s5_11;refine Qe (hKb10 _) ?_;try dsimp only
  refine Q.wrapPO fun Kj7 hKj7=>?_;have hj7:Z66_j7  =Kj7 ():=by
   refine Qe (hKj7 _) ?_;unfold Z66_j7;all_goals rfl
  all_goals exact hj7
 intro e10;refine Qe (hKb10 _) ?_;try dsimp only
 all_goals rfl
def Z62_q34 :List Bs->Unit ⊕ Bool
 | []=>Sum.inl ()
 | h34::r34=>on (h34) fun x42=>on (Z39_q x42) fun x43=>bif (!x43) then(Sum.inr false) else(Z62_q34  (r34) )
theorem Z62_l34_qe {a0:TDef}  (Kb34:(Unit ⊕ Bool)->Option Bool) (hend:∀(n34:Nat) (s3_35:Nat),Z62_j8 a0  =Kb34 (Sum.inl ())) (hret:∀e:Bool,some e=Kb34 (Sum.inr e)):∀(n34:Nat) (s3_35:Nat),(0<n34/\a0.FImplements.l.length<s3_35+n34)->Z62_l34 a0 n34 s3_35=Kb34 (Z62_q34  (a0.FImplements.l.drop s3_35) ):=by
 intro n34;induction n34 with
 | zero=>intro s3_35 hn; exact absurd hn.1 (by omega)
 | succ n34 ih34 =>
  intro s3_35 hn;rw [Z62_l34];by_cases hlt:s3_35<a0.FImplements.l.length
  ·obtain⟨h34,hh34⟩:=Qa hlt;rw [Q.drop_of hh34,Z62_q34];refine QT hlt ?_;refine Q.bindP hh34 fun x42 hx_x42=>?_;refine Q.bindP (Z39_eq _) fun x43 hx_x43=>?_;refine Q.condP ?_ ?_
   ·all_goals exact hret _
   all_goals exact ih34 _ ⟨by omega,by omega⟩
  rw [dL (by omega),Z62_q34];refine QF hlt ?_;exact hend n34 s3_35
def Z62_q (a0:TDef):Option Bool:=on (Z39_q a0.FName) fun x4=>guardO (!(!x4)) (Z63_q a0.FDirs) false fun x5=>bif (((!x4)||(!x5))||(decide ((64:Int)<((a0.FImplements.l.length:Nat):Int)))) then(some false) else(on (Z62_q34  a0.FImplements.l ) fun o34=>match o34 with|Sum.inl _=>(on (()) fun _=>bif (decide (a0.FKind=(1:Int))) then((Z64_q a0.FFields).bind fun x15=>some ((x15&&(decide (((a0.FMembers.l.length:Nat):Int)=(0:Int))))&&(decide (((a0.FInputs.l.length:Nat):Int)=(0:Int))))) else(bif (decide (a0.FKind=(2:Int))) then(guardO ((decide (((a0.FImplements.l.length:Nat):Int)=(0:Int)))) (Z64_q a0.FFields) false fun x19=>some ((((decide (((a0.FImplements.l.length:Nat):Int)=(0:Int)))&&x19)&&(decide (((a0.FMembers.l.length:Nat):Int)=(0:Int))))&&(decide (((a0.FInputs.l.length:Nat):Int)=(0:Int))))) else(bif (decide (a0.FKind=(3:Int))) then(guardO (((decide (((a0.FImplements.l.length:Nat):Int)=(0:Int)))&&(decide (((a0.FFields.l.length:Nat):Int)=(0:Int))))) (Z66_q a0.FMembers true) false fun x23=>some ((((decide (((a0.FImplements.l.length:Nat):Int)=(0:Int)))&&(decide (((a0.FFields.l.length:Nat):Int)=(0:Int))))&&x23)&&(decide (((a0.FInputs.l.length:Nat):Int)=(0:Int))))) else(bif (decide (a0.FKind=(4:Int))) then(guardO (((decide (((a0.FImplements.l.length:Nat):Int)=(0:Int)))&&(decide (((a0.FFields.l.length:Nat):Int)=(0:Int))))) (Z66_q a0.FMembers false) false fun x27=>some ((((decide (((a0.FImplements.l.length:Nat):Int)=(0:Int)))&&(decide (((a0.FFields.l.length:Nat):Int)=(0:Int))))&&x27)&&(decide (((a0.FInputs.l.length:Nat):Int)=(0:Int))))) else(bif (decide (a0.FKind=(5:Int))) then(guardO (((((decide (((a0.FImplements.l.length:Nat):Int)=(0:Int)))&&(decide (((a0.FFields.l.length:Nat):Int)=(0:Int))))&&(decide (((a0.FMembers.l.length:Nat):Int)=(0:Int))))&&(decide ((0:Int)<((a0.FInputs.l.length:Nat):Int))))) (Z65_q a0.FInputs) false fun x31=>some (((((decide (((a0.FImplements.l.length:Nat):Int)=(0:Int)))&&(decide (((a0.FFields.l.length:Nat):Int)=(0:Int))))&&(decide (((a0.FMembers.l.length:Nat):Int)=(0:Int))))&&(decide ((0:Int)<((a0.FInputs.l.length:Nat):Int))))&&x31)) else(some false))))))|Sum.inr e34=>(some e34))
theorem Z62_eq (a0:TDef):Z62 a0=Z62_q a0:=by
 unfold Z62 Z62_q;refine Qs ?_;refine Q.bindPO (Z39_eq _) fun x4 hx_x4=>?_;refine Q.guardOO (Z63_eq _) fun x5=>?_;refine Q.condO ?_ ?_
 ·all_goals rfl
 refine Q.wrapPO fun Kb34 hKb34=>?_;refine Z62_l34_qe  Kb34 ?_ ?_ _ _ ⟨Nat.succ_pos _,by omega⟩
 ·intro n34 s3_35;refine Qe (hKb34 _) ?_;try dsimp only
  refine Q.wrapPO fun Kj8 hKj8=>?_;have hj8:Z62_j8 a0 =Kj8 ():=by
   refine Qe (hKj8 _) ?_;unfold Z62_j8;refine Q.condO ?_ ?_
   ·refine Q.bindO (Z64_eq _) fun x15=>?_;all_goals rfl
   refine Q.condO ?_ ?_
   ·refine Q.guardOO (Z64_eq _) fun x19=>?_;all_goals rfl
   refine Q.condO ?_ ?_
   ·refine Q.guardOO (Z66_eq _ _) fun x23=>?_;all_goals rfl
   refine Q.condO ?_ ?_
   ·refine Q.guardOO (Z66_eq _ _) fun x27=>?_;all_goals rfl
   refine Q.condO ?_ ?_
   ·refine Q.guardOO (Z65_eq _) fun x31=>?_;all_goals rfl
   all_goals rfl
  all_goals exact hj8
 intro e34;refine Qe (hKb34 _) ?_;try dsimp only
 all_goals rfl
def Z60_q10 :List TDef->Option (Unit ⊕ Bool)
 | []=>some (Sum.inl ())
 | h10::r10=>on (h10) fun x18=>(Z62_q x18).bind fun x19=>bif (!x19) then(some (Sum.inr false)) else(Z60_q10  (r10) )
theorem Z60_l10_qe {a0:TDoc}  (Kb10:(Unit ⊕ Bool)->Option Bool) (hend:∀(n10:Nat) (s3_11:Nat),Z60_j7   =Kb10 (Sum.inl ())) (hret:∀e:Bool,some e=Kb10 (Sum.inr e)):∀(n10:Nat) (s3_11:Nat),(0<n10/\a0.FDefs.l.length<s3_11+n10)->Z60_l10 a0 n10 s3_11=Option.bind (Z60_q10  (a0.FDefs.l.drop s3_11) ) Kb10:=by
 intro n10;induction n10 with
 | zero=>intro s3_11 hn; exact absurd hn.1 (by omega)
 | succ n10 ih10 =>
  intro s3_11 hn;rw [Z60_l10];by_cases hlt:s3_11<a0.FDefs.l.length
  ·obtain⟨h10,hh10⟩:=Qa hlt;rw [Q.drop_of hh10,Z60_q10];refine QT hlt ?_;refine Q.bindPO hh10 fun x18 hx_x18=>?_;refine Q.bindO (Z62_eq _) fun x19=>?_;refine Q.condO ?_ ?_
   ·all_goals exact hret _
   all_goals exact ih10 _ ⟨by omega,by omega⟩
  rw [dL (by omega),Z60_q10];refine QF hlt ?_;exact hend n10 s3_11
def Z60_q (a0:TDoc):Option Bool:=bif ((decide (((a0.FDefs.l.length:Nat):Int)<(1:Int)))||(decide ((64:Int)<((a0.FDefs.l.length:Nat):Int)))) then(some false) else(Option.bind (Z60_q10  a0.FDefs.l ) fun o10=>match o10 with|Sum.inl _=>(on (()) fun _=>some true)|Sum.inr e10=>(some e10))
theorem Z60_eq (a0:TDoc):Z60 a0=Z60_q a0:=by
 unfold Z60 Z60_q;refine Qs ?_;refine Q.condO ?_ ?_
 ·all_goals rfl
 refine Q.wrapOO fun Kb10 hKb10=>?_;refine Z60_l10_qe  Kb10 ?_ ?_ _ _ ⟨Nat.succ_pos _,by omega⟩
 ·intro n10 s3_11;refine Qe (hKb10 _) ?_;try dsimp only
  refine Q.wrapPO fun Kj7 hKj7=>?_;have hj7:Z60_j7  =Kj7 ():=by
   refine Qe (hKj7 _) ?_;unfold Z60_j7;all_goals rfl
  all_goals exact hj7
 intro e10;refine Qe (hKb10 _) ?_;try dsimp only
 all_goals rfl
def Z120_q (a0:Z3) (a1:Bool) (a2:Int) (a3:Bs):Option Z3:=bif a1 then((appC 24 a0.Ffaults (⟨false,[(Z4.mk a2 a3)]⟩:Sl Z4)).bind fun x3=>some (Z3.mk a0.Fd x3)) else(some a0)
theorem Z120_eq (a0:Z3) (a1:Bool) (a2:Int) (a3:Bs):Z120 a0 a1 a2 a3=Z120_q a0 a1 a2 a3:=by
 unfold Z120 Z120_q;refine Qs ?_;refine Q.condO ?_ ?_
 ·refine Q.bindO rfl fun x3=>?_;all_goals rfl
 all_goals rfl
def Z140_q12 :List UInt8->Unit ⊕ Bool
 | []=>Sum.inl ()
 | h12::r12=>on (h12) fun x20=>bif (!(((((decide ((97:Int)<=((x20.toNat:Nat):Int)))&&(decide (((x20.toNat:Nat):Int)<=(122:Int))))||((decide ((65:Int)<=((x20.toNat:Nat):Int)))&&(decide (((x20.toNat:Nat):Int)<=(90:Int)))))||((decide ((48:Int)<=((x20.toNat:Nat):Int)))&&(decide (((x20.toNat:Nat):Int)<=(57:Int)))))||(decide (((x20.toNat:Nat):Int)=(95:Int))))) then(Sum.inr false) else(Z140_q12  (r12) )
theorem Z140_l12_qe {a0:Bs}  (Kb12:(Unit ⊕ Bool)->Option Bool) (hend:∀(n12:Nat) (s24_13:Nat),Z140_j8   =Kb12 (Sum.inl ())) (hret:∀e:Bool,some e=Kb12 (Sum.inr e)):∀(n12:Nat) (s24_13:Nat),(0<n12/\a0.length<s24_13+n12)->Z140_l12 a0 n12 s24_13=Kb12 (Z140_q12  (a0.drop s24_13) ):=by
 intro n12;induction n12 with
 | zero=>intro s24_13 hn; exact absurd hn.1 (by omega)
 | succ n12 ih12 =>
  intro s24_13 hn;rw [Z140_l12];by_cases hlt:s24_13<a0.length
  ·obtain⟨h12,hh12⟩:=Qa hlt;rw [Q.drop_of hh12,Z140_q12];refine QT hlt ?_;refine Q.bindP hh12 fun x20 hx_x20=>?_;refine Q.condP ?_ ?_
   ·all_goals exact hret _
   all_goals exact ih12 _ ⟨by omega,by omega⟩
  rw [dL (by omega),Z140_q12];refine QF hlt ?_;exact hend n12 s24_13
def Z140_q (a0:Bs):Option Bool:=guardO (!(((a0==([]:Bs)))||(decide ((64:Int)<((a0.length:Nat):Int))))) (a0[0]?) (0:UInt8) fun x4=>guardO ((!(((a0==([]:Bs)))||(decide ((64:Int)<((a0.length:Nat):Int))))&&(decide ((48:Int)<=((x4.toNat:Nat):Int))))) (a0[0]?) (0:UInt8) fun x5=>bif ((((a0==([]:Bs)))||(decide ((64:Int)<((a0.length:Nat):Int))))||((decide ((48:Int)<=((x4.toNat:Nat):Int)))&&(decide (((x5.toNat:Nat):Int)<=(57:Int))))) then(some false) else(on (Z140_q12  a0 ) fun o12=>match o12 with|Sum.inl _=>(on (()) fun _=>some true)|Sum.inr e12=>(some e12))
theorem Z140_eq (a0:Bs):Z140 a0=Z140_q a0:=by
 unfold Z140 Z140_q;refine Qs ?_;refine Q.guardOO rfl fun x4=>?_;refine Q.guardOO rfl fun x5=>?_;refine Q.condO ?_ ?_
 ·all_goals rfl
 refine Q.wrapPO fun Kb12 hKb12=>?_;refine Z140_l12_qe  Kb12 ?_ ?_ _ _ ⟨Nat.succ_pos _,by omega⟩
 ·intro n12 s24_13;refine Qe (hKb12 _) ?_;try dsimp only
  refine Q.wrapPO fun Kj8 hKj8=>?_;have hj8:Z140_j8  =Kj8 ():=by
   refine Qe (hKj8 _) ?_;unfold Z140_j8;all_goals rfl
  all_goals exact hj8
 intro e12;refine Qe (hKb12 _) ?_;try dsimp only
 all_goals rfl
def Z34_q (a0:Bs) (a1:Bs):Bool:=on (bif (decide (((a1.length:Nat):Int)<=((a0.length:Nat):Int))) then(List.take (a1.length) a0) else([]:Bs)) fun x5=>((decide (((a1.length:Nat):Int)<=((a0.length:Nat):Int)))&&((x5==a1)))
theorem Z34_eq (a0:Bs) (a1:Bs):Z34 a0 a1=some (Z34_q a0 a1):=by
 unfold Z34 Z34_q;refine Q.guardT (fun hc=>Q.cutC_take (by simp at hc; omega)) fun x5 hx_x5=>?_;all_goals rfl
def Z138_q (a0:Bs) (a1:Bs):Bool:=on (Z34_q a0 a1) fun x3=>x3
theorem Z138_eq (a0:Bs) (a1:Bs):Z138 a0 a1=some (Z138_q a0 a1):=by
 unfold Z138 Z138_q;refine Q.bindP (Z34_eq _ _) fun x3 hx_x3=>?_;all_goals rfl
def Z141_q (a0:Bs):Bool:=on (Z138_q a0 ([95,95]:Bs)) fun x3=>x3
theorem Z141_eq (a0:Bs):Z141 a0=some (Z141_q a0):=by
 unfold Z141 Z141_q;refine Q.bindP (Z138_eq _ _) fun x3 hx_x3=>?_;all_goals rfl
def Z119_q (a0:Bs):Bool:=(((((a0==([73,110,116]:Bs)))||((a0==([83,116,114,105,110,103]:Bs))))||((a0==([66,111,111,108,101,97,110]:Bs))))||((a0==([73,68]:Bs))))
theorem Z119_eq (a0:Bs):Z119 a0=some (Z119_q a0):=by
 unfold Z119 Z119_q;all_goals rfl
def Z114_q7 (a1:Bs):List TDef->Unit ⊕ ((TDef×Bool))
 | []=>Sum.inl ()
 | h7::r7=>on (h7) fun x15=>bif ((x15.FName==a1)) then(Sum.inr (x15,true)) else(Z114_q7 a1 (r7) )
theorem Z114_l7_qe {a0:TDoc}{a1:Bs}  (Kb7:(Unit ⊕ ((TDef×Bool)))->Option (TDef×Bool)) (hend:∀(n7:Nat) (s11_8:Nat) (y9_l0:TDef),Z114_j2   y9_l0=Kb7 (Sum.inl ())) (hret:∀e:(TDef×Bool),some e=Kb7 (Sum.inr e)):∀(n7:Nat) (s11_8:Nat) (y9_l0:TDef),(0<n7/\a0.FDefs.l.length<s11_8+n7)->Z114_l7 a0 a1 n7 s11_8 y9_l0=Kb7 (Z114_q7 a1 (a0.FDefs.l.drop s11_8) ):=by
 intro n7;induction n7 with
 | zero=>intro s11_8 y9_l0 hn; exact absurd hn.1 (by omega)
 | succ n7 ih7 =>
  intro s11_8 y9_l0 hn;rw [Z114_l7];by_cases hlt:s11_8<a0.FDefs.l.length
  ·obtain⟨h7,hh7⟩:=Qa hlt;rw [Q.drop_of hh7,Z114_q7];refine QT hlt ?_;refine Q.bindP hh7 fun x15 hx_x15=>?_;refine Q.condP ?_ ?_
   ·all_goals exact hret _
   all_goals exact ih7 _ _ ⟨by omega,by omega⟩
  rw [dL (by omega),Z114_q7];refine QF hlt ?_;exact hend n7 s11_8 y9_l0
def Z114_q (a0:TDoc) (a1:Bs):(TDef×Bool):=on (Z114_q7 a1 a0.FDefs.l ) fun o7=>match o7 with|Sum.inl _=>(on (()) fun _=>((TDef.mk (0:Int) ([]:Bs) (Sl.nil:Sl Bs) (Sl.nil:Sl TDir) (Sl.nil:Sl Z5) (Sl.nil:Sl Z8) (Sl.nil:Sl Z7)),false))|Sum.inr e7=>(e7)
theorem Z114_eq (a0:TDoc) (a1:Bs):Z114 a0 a1=some (Z114_q a0 a1):=by
 unfold Z114 Z114_q;refine Q.wrapPP fun Kb7 hKb7=>?_;refine Z114_l7_qe  Kb7 ?_ ?_ _ _ _ ⟨Nat.succ_pos _,by omega⟩
 ·intro n7 s11_8 y9_l0;refine Qe (hKb7 _) ?_;try dsimp only
  refine Q.wrapPP fun Kj2 hKj2=>?_;have hj2:∀(y3_l0:TDef),Z114_j2  y3_l0=Kj2 ():=by
   intro y3_l0;refine Qe (hKj2 _) ?_;unfold Z114_j2;all_goals rfl
  all_goals exact hj2 _
 intro e7;refine Qe (hKb7 _) ?_;try dsimp only
 all_goals rfl
end Go.Proofs

namespace Go.Proofs
open Go Go.Ab
def Z125_q7 (a1:TDef) (a2:Z3) (k_rec_118:TDef->TDef->Z3->(List Bs)->Option (Bool×(List Bs))):List Z7->(List Bs)->Option (((List Bs)) ⊕ ((Bool×(List Bs))))
 | [],y9_c3=>some (Sum.inl y9_c3)
 | h7::r7,y9_c3=>on (h7) fun x16=>guardO (!(!decide (((x16.FType.FWraps.l.length:Nat):Int)=(1:Int)))) (x16.FType.FWraps.l[0]?) (0:Int) fun x20=>on (fun(y14_c3:(List Bs))=>Z125_q7 a1 a2 k_rec_118 (r7) y14_c3) fun kj13=>bif ((!decide (((x16.FType.FWraps.l.length:Nat):Int)=(1:Int)))||(!decide (x20=(1:Int)))) then(kj13 y9_c3) else(bif ((x16.FType.FName==a1.FName)) then(some (Sum.inr (true,y9_c3))) else(on (Z114_q a2.Fd x16.FType.FName) fun x27=>bif ((x27.2&&(decide (x27.1.FKind=(5:Int))))&&(!(y9_c3.contains x27.1.FName))) then((k_rec_118 x27.1 a1 a2 (insS y9_c3 x27.1.FName)).bind fun x32=>bif x32.1 then(some (Sum.inr (true,x32.2))) else(kj13 x32.2)) else(kj13 y9_c3)))
theorem Z125_l7_qe {a0:TDef}{a1:TDef}{a2:Z3}{k_rec_118:TDef->TDef->Z3->(List Bs)->Option (Bool×(List Bs))}  (Kb7:(((List Bs)) ⊕ ((Bool×(List Bs))))->Option (Bool×(List Bs))) (hend:∀(n7:Nat) (s14_8:Nat) (y9_c3:(List Bs)),Z125_j2   y9_c3=Kb7 (Sum.inl y9_c3)) (hret:∀e:(Bool×(List Bs)),some e=Kb7 (Sum.inr e)):∀(n7:Nat) (s14_8:Nat) (y9_c3:(List Bs)),(0<n7/\a0.FInputs.l.length<s14_8+n7)->Z125_l7 a0 a1 a2 k_rec_118 n7 s14_8 y9_c3=Option.bind (Z125_q7 a1 a2 k_rec_118 (a0.FInputs.l.drop s14_8) y9_c3) Kb7:=by
 intro n7;induction n7 with
 | zero=>intro s14_8 y9_c3 hn; exact absurd hn.1 (by omega)
 | succ n7 ih7 =>
  intro s14_8 y9_c3 hn;rw [Z125_l7];by_cases hlt:s14_8<a0.FInputs.l.length
  ·obtain⟨h7,hh7⟩:=Qa hlt;rw [Q.drop_of hh7,Z125_q7];refine QT hlt ?_;refine Q.bindPO hh7 fun x16 hx_x16=>?_;refine Q.guardOO rfl fun x20=>?_;refine Q.mixO fun kj13 hkj13=>?_;have hj13:∀(y14_c3:(List Bs)),Z125_j13 s14_8 (Z125_l7 a0 a1 a2 k_rec_118 n7) y14_c3=Option.bind (kj13 y14_c3) Kb7:=by
    intro y14_c3;unfold Z125_j13;rw [hkj13];try dsimp only
    all_goals exact ih7 _ _ ⟨by omega,by omega⟩
   refine Q.condO ?_ ?_
   ·all_goals exact hj13 _
   refine Q.condO ?_ ?_
   ·all_goals exact hret _
   refine Q.bindPO (Z114_eq _ _) fun x27 hx_x27=>?_;refine Q.condO ?_ ?_
   ·refine Q.bindO rfl fun x32=>?_;refine Q.condO ?_ ?_
    ·all_goals exact hret _
    all_goals exact hj13 _
   all_goals exact hj13 _
  rw [dL (by omega),Z125_q7];refine QF hlt ?_;exact hend n7 s14_8 y9_c3
def Z125_qn:Nat->TDef->TDef->Z3->(List Bs)->Option (Bool×(List Bs))
 | 0,_,_,_,_=>none
 | n+1,a0,a1,a2,a3=>Option.bind (Z125_q7 a1 a2 (Z125_qn n) a0.FInputs.l a3) fun o7=>match o7 with|Sum.inl y9_c3=>(on (y9_c3) fun y3_c3=>some (false,y3_c3))|Sum.inr e7=>(some e7)
theorem Z125_qall:∀n:Nat,Z125_n n=Z125_qn n:=by
 intro n;induction n with
 | zero=>exact(by funext a0 a1 a2 a3; first|rfl|(rw [Z125_n,Z125_qn]))
 | succ n ih =>
  funext a0 a1 a2 a3
  refine Qs ?_;rw [Z125_n,Z125_qn];try rw [ih]
  refine Q.wrapOO fun Kb7 hKb7=>?_;refine Z125_l7_qe  Kb7 ?_ ?_ _ _ _ ⟨Nat.succ_pos _,by omega⟩
  ·intro n7 s14_8 y9_c3;refine Qe (hKb7 _) ?_;try dsimp only
   refine Q.wrapPO fun Kj2 hKj2=>?_;have hj2:∀(y3_c3:(List Bs)),Z125_j2  y3_c3=Kj2 y3_c3:=by
    intro y3_c3;refine Qe (hKj2 _) ?_;unfold Z125_j2;all_goals rfl
   all_goals exact hj2 _
  intro e7;refine Qe (hKb7 _) ?_;try dsimp only
  all_goals rfl
def Z125_q (a0:TDef) (a1:TDef) (a2:Z3) (a3:(List Bs)):Option (Bool×(List Bs)):=Z125_qn F0 a0 a1 a2 a3
theorem Z125_eq (a0:TDef) (a1:TDef) (a2:Z3) (a3:(List Bs)):Z125 a0 a1 a2 a3=Z125_q a0 a1 a2 a3:=by
 unfold Z125 Z125_q; rw [(Z125_qall F0)]
def Z124_q (a0:Z3) (a1:TDef):Option Bool:=(Z125_q a1 a1 a0 ([]:List Bs)).bind fun x8=>some x8.1
theorem Z124_eq (a0:Z3) (a1:TDef):Z124 a0 a1=Z124_q a0 a1:=by
 unfold Z124 Z124_q;refine Qs ?_;refine Q.bindO (Z125_eq _ _ _ _) fun x8=>?_;all_goals rfl
def Z127_q (a0:Z3) (a1:Bs) (a2:Bs) (a3:(List Bs)):Option (Z3×(List Bs)):=(Z140_q a1).bind fun x2=>on (bif !(!x2) then Z141_q a1 else false) fun x3=>(Z120_q a0 ((!x2)||x3) (6:Int) a2).bind fun x4=>(Z120_q x4 (a3.contains a1) (7:Int) a2).bind fun x6=>some (x6,(insS a3 a1))
theorem Z127_eq (a0:Z3) (a1:Bs) (a2:Bs) (a3:(List Bs)):Z127 a0 a1 a2 a3=Z127_q a0 a1 a2 a3:=by
 unfold Z127 Z127_q;refine Qs ?_;refine Q.bindO (Z140_eq _) fun x2=>?_;refine Q.guardPO (Z141_eq _) fun x3 hx_x3=>?_;refine Q.bindO (Z120_eq _ _ _ _) fun x4=>?_;refine Q.bindO (Z120_eq _ _ _ _) fun x6=>?_;all_goals rfl
def Z129_q (a0:TDoc) (a1:Bs):Int:=on (Z114_q a0 a1) fun x3=>x3.1.FKind
theorem Z129_eq (a0:TDoc) (a1:Bs):Z129 a0 a1=some (Z129_q a0 a1):=by
 unfold Z129 Z129_q;refine Q.bindP (Z114_eq _ _) fun x3 hx_x3=>?_;all_goals rfl
def Z117_q (a0:TDoc) (a1:Bs):Bool:=on (Z119_q a1) fun x3=>on (bif !x3 then Z129_q a0 a1 else(0:Int)) fun x4=>(x3||(decide (x4=(4:Int))))
theorem Z117_eq (a0:TDoc) (a1:Bs):Z117 a0 a1=some (Z117_q a0 a1):=by
 unfold Z117 Z117_q;refine Q.bindP (Z119_eq _) fun x3 hx_x3=>?_;refine Q.guardP (Z129_eq _ _) fun x4 hx_x4=>?_;all_goals rfl
def Z116_q (a0:TDoc) (a1:Bs):Bool:=on (Z117_q a0 a1) fun x3=>on (bif !x3 then Z129_q a0 a1 else(0:Int)) fun x4=>(x3||(decide (x4=(5:Int))))
theorem Z116_eq (a0:TDoc) (a1:Bs):Z116 a0 a1=some (Z116_q a0 a1):=by
 unfold Z116 Z116_q;refine Q.bindP (Z117_eq _ _) fun x3 hx_x3=>?_;refine Q.guardP (Z129_eq _ _) fun x4 hx_x4=>?_;all_goals rfl
def Z128_q (a0:Z3) (a1:Bs) (a2:Bs) (a3:Int):Option Z3:=on (Z114_q a0.Fd a1) fun x2=>on (bif (!x2.2) then Z119_q a1 else false) fun x4=>bif ((!x2.2)&&(!x4)) then((Z120_q a0 true (8:Int) a2).bind fun x6=>some x6) else(bif (decide (a3=(0:Int))) then(on (Z119_q a1) fun x9=>on (bif (!x9) then Z129_q a0.Fd a1 else(0:Int)) fun x10=>(Z120_q a0 ((!x9)&&(decide (x10=(5:Int)))) (10:Int) a2).bind fun x11=>some x11) else(on (Z116_q a0.Fd a1) fun x12=>(Z120_q a0 (!x12) (10:Int) a2).bind fun x13=>some x13))
theorem Z128_eq (a0:Z3) (a1:Bs) (a2:Bs) (a3:Int):Z128 a0 a1 a2 a3=Z128_q a0 a1 a2 a3:=by
 unfold Z128 Z128_q;refine Qs ?_;refine Q.bindPO (Z114_eq _ _) fun x2 hx_x2=>?_;refine Q.guardPO (Z119_eq _) fun x4 hx_x4=>?_;refine Q.condO ?_ ?_
 ·refine Q.bindO (Z120_eq _ _ _ _) fun x6=>?_;all_goals rfl
 refine Q.condO ?_ ?_
 ·refine Q.bindPO (Z119_eq _) fun x9 hx_x9=>?_;refine Q.guardPO (Z129_eq _ _) fun x10 hx_x10=>?_;refine Q.bindO (Z120_eq _ _ _ _) fun x11=>?_;all_goals rfl
 refine Q.bindPO (Z116_eq _ _) fun x12 hx_x12=>?_;refine Q.bindO (Z120_eq _ _ _ _) fun x13=>?_;all_goals rfl
def Z123_q5 (a2:Bs) (a3:Bs):List Z7->Z3->(List Bs)->Option (Z3)
 | [],y7_c0,y8_id12_2=>some y7_c0
 | h5::r5,y7_c0,y8_id12_2=>on (h5) fun x14=>(catC a2 x14.FName).bind fun x16=>(catC x16 a3).bind fun x17=>(Z127_q y7_c0 x14.FName x17 y8_id12_2).bind fun x19=>(Z128_q x19.1 x14.FType.FName x17 (1:Int)).bind fun x20=>Z123_q5 a2 a3 (r5) x20 x19.2
theorem Z123_l5_qe {a1:(Sl Z7)}{a2:Bs}{a3:Bs}  (Kb5:(Z3)->Option Z3) (hend:∀(n5:Nat) (s15_6:Nat) (y7_c0:Z3) (y8_id12_2:(List Bs)),some y7_c0=Kb5 y7_c0):∀(n5:Nat) (s15_6:Nat) (y7_c0:Z3) (y8_id12_2:(List Bs)),(0<n5/\a1.l.length<s15_6+n5)->Z123_l5 a1 a2 a3 n5 s15_6 y7_c0 y8_id12_2=Option.bind (Z123_q5 a2 a3 (a1.l.drop s15_6) y7_c0 y8_id12_2) Kb5:=by
 intro n5;induction n5 with
 | zero=>intro s15_6 y7_c0 y8_id12_2 hn; exact absurd hn.1 (by omega)
 | succ n5 ih5 =>
  intro s15_6 y7_c0 y8_id12_2 hn;rw [Z123_l5];by_cases hlt:s15_6<a1.l.length
  ·obtain⟨h5,hh5⟩:=Qa hlt;rw [Q.drop_of hh5,Z123_q5];refine QT hlt ?_;refine Q.bindPO hh5 fun x14 hx_x14=>?_;refine Q.bindO rfl fun x16=>?_;refine Q.bindO rfl fun x17=>?_;refine Q.bindO (Z127_eq _ _ _ _) fun x19=>?_;refine Q.bindO (Z128_eq _ _ _ _) fun x20=>?_;all_goals exact ih5 _ _ _ ⟨by omega,by omega⟩
  rw [dL (by omega),Z123_q5];refine QF hlt ?_;exact hend n5 s15_6 y7_c0 y8_id12_2
def Z123_q (a0:Z3) (a1:(Sl Z7)) (a2:Bs) (a3:Bs):Option Z3:=Option.bind (Z123_q5 a2 a3 a1.l a0 ([]:List Bs)) fun y7_c0=>some y7_c0
theorem Z123_eq (a0:Z3) (a1:(Sl Z7)) (a2:Bs) (a3:Bs):Z123 a0 a1 a2 a3=Z123_q a0 a1 a2 a3:=by
 unfold Z123 Z123_q;refine Qs ?_;refine Q.wrapOO fun Kb5 hKb5=>?_;refine Z123_l5_qe  Kb5 ?_ _ _ _ _ ⟨Nat.succ_pos _,by omega⟩;intro n5 s15_6 y7_c0 y8_id12_2;refine Qe (hKb5 _) ?_;all_goals rfl
def Z122_q6 (a1:TDef):List Z5->Z3->(List Bs)->Option (Z3)
 | [],y8_c0,y9_id8_3=>some y8_c0
 | h6::r6,y8_c0,y9_id8_3=>on (h6) fun x15=>(catC a1.FName ([46]:Bs)).bind fun x17=>(catC x17 x15.FName).bind fun x18=>(Z127_q y8_c0 x15.FName x18 y9_id8_3).bind fun x20=>(Z128_q x20.1 x15.FType.FName x18 (0:Int)).bind fun x22=>(catC x18 ([40]:Bs)).bind fun x23=>(Z123_q x22 x15.FArgs x23 ([41]:Bs)).bind fun x24=>Z122_q6 a1 (r6) x24 x20.2
theorem Z122_l6_qe {a1:TDef}  (Kb6:(Z3)->Option Z3) (hend:∀(n6:Nat) (s12_7:Nat) (y8_c0:Z3) (y9_id8_3:(List Bs)),some y8_c0=Kb6 y8_c0):∀(n6:Nat) (s12_7:Nat) (y8_c0:Z3) (y9_id8_3:(List Bs)),(0<n6/\a1.FFields.l.length<s12_7+n6)->Z122_l6 a1 n6 s12_7 y8_c0 y9_id8_3=Option.bind (Z122_q6 a1 (a1.FFields.l.drop s12_7) y8_c0 y9_id8_3) Kb6:=by
 intro n6;induction n6 with
 | zero=>intro s12_7 y8_c0 y9_id8_3 hn; exact absurd hn.1 (by omega)
 | succ n6 ih6 =>
  intro s12_7 y8_c0 y9_id8_3 hn;rw [Z122_l6];by_cases hlt:s12_7<a1.FFields.l.length
  ·obtain⟨h6,hh6⟩:=Qa hlt;rw [Q.drop_of hh6,Z122_q6];refine QT hlt ?_;refine Q.bindPO hh6 fun x15 hx_x15=>?_;refine Q.bindO rfl fun x17=>?_;refine Q.bindO rfl fun x18=>?_;refine Q.bindO (Z127_eq _ _ _ _) fun x20=>?_;refine Q.bindO (Z128_eq _ _ _ _) fun x22=>?_;refine Q.bindO rfl fun x23=>?_;refine Q.bindO (Z123_eq _ _ _ _) fun x24=>?_;all_goals exact ih6 _ _ _ ⟨by omega,by omega⟩
  rw [dL (by omega),Z122_q6];refine QF hlt ?_;exact hend n6 s12_7 y8_c0 y9_id8_3
def Z122_q (a0:Z3) (a1:TDef):Option Z3:=Option.bind (Z122_q6 a1 a1.FFields.l a0 ([]:List Bs)) fun y8_c0=>some y8_c0
theorem Z122_eq (a0:Z3) (a1:TDef):Z122 a0 a1=Z122_q a0 a1:=by
 unfold Z122 Z122_q;refine Qs ?_;refine Q.wrapOO fun Kb6 hKb6=>?_;refine Z122_l6_qe  Kb6 ?_ _ _ _ _ ⟨Nat.succ_pos _,by omega⟩;intro n6 s12_7 y8_c0 y9_id8_3;refine Qe (hKb6 _) ?_;all_goals rfl
def Z126_q6 (a1:TDef):List Z8->Z3->(List Bs)->Option (Z3)
 | [],y8_c0,y9_id9_3=>some y8_c0
 | h6::r6,y8_c0,y9_id9_3=>on (h6) fun x15=>(catC a1.FName ([46]:Bs)).bind fun x17=>(catC x17 x15.FName).bind fun x18=>guardO (!((((x15.FName==([116,114,117,101]:Bs)))||((x15.FName==([102,97,108,115,101]:Bs))))||((x15.FName==([110,117,108,108]:Bs))))) (Z140_q x15.FName) false fun x21=>on (bif !(((((x15.FName==([116,114,117,101]:Bs)))||((x15.FName==([102,97,108,115,101]:Bs))))||((x15.FName==([110,117,108,108]:Bs))))||(!x21)) then Z141_q x15.FName else false) fun x22=>(Z120_q y8_c0 ((((((x15.FName==([116,114,117,101]:Bs)))||((x15.FName==([102,97,108,115,101]:Bs))))||((x15.FName==([110,117,108,108]:Bs))))||(!x21))||x22) (6:Int) x18).bind fun x23=>(Z120_q x23 (y9_id9_3.contains x15.FName) (7:Int) x18).bind fun x25=>Z126_q6 a1 (r6) x25 (insS y9_id9_3 x15.FName)
theorem Z126_l6_qe {a1:TDef}  (Kb6:(Z3)->Option Z3) (hend:∀(n6:Nat) (s13_7:Nat) (y8_c0:Z3) (y9_id9_3:(List Bs)),some y8_c0=Kb6 y8_c0):∀(n6:Nat) (s13_7:Nat) (y8_c0:Z3) (y9_id9_3:(List Bs)),(0<n6/\a1.FMembers.l.length<s13_7+n6)->Z126_l6 a1 n6 s13_7 y8_c0 y9_id9_3=Option.bind (Z126_q6 a1 (a1.FMembers.l.drop s13_7) y8_c0 y9_id9_3) Kb6:=by
 intro n6;induction n6 with
 | zero=>intro s13_7 y8_c0 y9_id9_3 hn; exact absurd hn.1 (by omega)
 | succ n6 ih6 =>
  intro s13_7 y8_c0 y9_id9_3 hn;rw [Z126_l6];by_cases hlt:s13_7<a1.FMembers.l.length
  ·obtain⟨h6,hh6⟩:=Qa hlt;rw [Q.drop_of hh6,Z126_q6];refine QT hlt ?_;refine Q.bindPO hh6 fun x15 hx_x15=>?_;refine Q.bindO rfl fun x17=>?_;refine Q.bindO rfl fun x18=>?_;refine Q.guardOO (Z140_eq _) fun x21=>?_;refine Q.guardPO (Z141_eq _) fun x22 hx_x22=>?_;refine Q.bindO (Z120_eq _ _ _ _) fun x23=>?_;refine Q.bindO (Z120_eq _ _ _ _) fun x25=>?_;all_goals exact ih6 _ _ _ ⟨by omega,by omega⟩
  rw [dL (by omega),Z126_q6];refine QF hlt ?_;exact hend n6 s13_7 y8_c0 y9_id9_3
def Z126_q (a0:Z3) (a1:TDef):Option Z3:=Option.bind (Z126_q6 a1 a1.FMembers.l a0 ([]:List Bs)) fun y8_c0=>some y8_c0
theorem Z126_eq (a0:Z3) (a1:TDef):Z126 a0 a1=Z126_q a0 a1:=by
 unfold Z126 Z126_q;refine Qs ?_;refine Q.wrapOO fun Kb6 hKb6=>?_;refine Z126_l6_qe  Kb6 ?_ _ _ _ _ ⟨Nat.succ_pos _,by omega⟩;intro n6 s13_7 y8_c0 y9_id9_3;refine Qe (hKb6 _) ?_;all_goals rfl
def Z121_q (a0:Z3) (a1:Int) (a2:(List Bs)):Option (Z3×(List Bs)):=(idxC a0.Fd.FDefs.l a1).bind fun x2=>(Z140_q x2.FName).bind fun x4=>on (bif !(!x4) then Z141_q x2.FName else false) fun x5=>(Z120_q a0 ((!x4)||x5) (6:Int) x2.FName).bind fun x6=>on (bif !(a2.contains x2.FName) then Z119_q x2.FName else false) fun x8=>(Z120_q x6 ((a2.contains x2.FName)||x8) (7:Int) x2.FName).bind fun x9=>on (bif (decide (x2.FKind=(1:Int))) then((decide (x2.FKind=(1:Int)))) else((decide (x2.FKind=(2:Int))))) fun s48_38=>on (bif s48_38 then((decide (((x2.FFields.l.length:Nat):Int)=(0:Int)))) else(on (bif (decide (x2.FKind=(3:Int))) then((decide (x2.FKind=(3:Int)))) else((decide (x2.FKind=(4:Int))))) fun s55_42=>bif s55_42 then((decide (((x2.FMembers.l.length:Nat):Int)=(0:Int)))) else(bif (decide (x2.FKind=(5:Int))) then((decide (((x2.FInputs.l.length:Nat):Int)=(0:Int)))) else(false)))) fun s7_13=>(Z120_q x9 s7_13 (8:Int) x2.FName).bind fun x15=>(Z120_q x15 (((((((x2.FName==([81,117,101,114,121]:Bs)))||((x2.FName==([77,117,116,97,116,105,111,110]:Bs))))||((x2.FName==([83,117,98,115,99,114,105,112,116,105,111,110]:Bs))))&&(!decide (x2.FKind=(1:Int))))||(decide (x2.FKind<(1:Int))))||(decide ((5:Int)<x2.FKind))) (9:Int) x2.FName).bind fun x18=>guardO ((decide (x2.FKind=(5:Int)))) (Z124_q x18 x2) false fun x20=>(Z120_q x18 ((decide (x2.FKind=(5:Int)))&&x20) (5:Int) x2.FName).bind fun x21=>on (bif (decide (x2.FKind=(1:Int))) then((decide (x2.FKind=(1:Int)))) else((decide (x2.FKind=(2:Int))))) fun s120_24=>bif s120_24 then((Z122_q x21 x2).bind fun x26=>some (x26,(insS a2 x2.FName))) else(bif (decide (x2.FKind=(4:Int))) then((Z126_q x21 x2).bind fun x29=>some (x29,(insS a2 x2.FName))) else(bif (decide (x2.FKind=(5:Int))) then((catC x2.FName ([46]:Bs)).bind fun x32=>(Z123_q x21 x2.FInputs x32 ([]:Bs)).bind fun x33=>some (x33,(insS a2 x2.FName))) else(some (x21,(insS a2 x2.FName)))))
theorem Z121_eq (a0:Z3) (a1:Int) (a2:(List Bs)):Z121 a0 a1 a2=Z121_q a0 a1 a2:=by
 unfold Z121 Z121_q;refine Qs ?_;refine Q.bindO rfl fun x2=>?_;refine Q.bindO (Z140_eq _) fun x4=>?_;refine Q.guardPO (Z141_eq _) fun x5 hx_x5=>?_;refine Q.bindO (Z120_eq _ _ _ _) fun x6=>?_;refine Q.guardPO (Z119_eq _) fun x8 hx_x8=>?_;refine Q.bindO (Z120_eq _ _ _ _) fun x9=>?_;refine Q.wrapPO fun Kj37 hKj37=>?_;have hj37:∀(s48_38:Bool),Z121_j37 a2 x2 x9 s48_38=Kj37 s48_38:=by
  intro s48_38;refine Qe (hKj37 _) ?_;unfold Z121_j37;refine Q.wrapPO fun Kj12 hKj12=>?_;have hj12:∀(s7_13:Bool),Z121_j12 a2 x2 x9 s7_13=Kj12 s7_13:=by
   intro s7_13;refine Qe (hKj12 _) ?_;unfold Z121_j12;refine Q.bindO (Z120_eq _ _ _ _) fun x15=>?_;refine Q.bindO (Z120_eq _ _ _ _) fun x18=>?_;refine Q.guardOO (Z124_eq _ _) fun x20=>?_;refine Q.bindO (Z120_eq _ _ _ _) fun x21=>?_;refine Q.wrapPO fun Kj23 hKj23=>?_;have hj23:∀(s120_24:Bool),Z121_j23 a2 x2 x21 s120_24=Kj23 s120_24:=by
    intro s120_24;refine Qe (hKj23 _) ?_;unfold Z121_j23;refine Q.condO ?_ ?_
    ·refine Q.bindO (Z122_eq _ _) fun x26=>?_;all_goals rfl
    refine Q.condO ?_ ?_
    ·refine Q.bindO (Z126_eq _ _) fun x29=>?_;all_goals rfl
    refine Q.condO ?_ ?_
    ·refine Q.bindO rfl fun x32=>?_;refine Q.bindO (Z123_eq _ _ _ _) fun x33=>?_;all_goals rfl
    all_goals rfl
   refine Q.condP ?_ ?_
   ·all_goals exact hj23 _
   all_goals exact hj23 _
  refine Q.condP ?_ ?_
  ·all_goals exact hj12 _
  refine Q.wrapPP fun Kj41 hKj41=>?_;have hj41:∀(s55_42:Bool),Z121_j41 a2 x2 x9 s55_42=Kj41 s55_42:=by
   intro s55_42;refine Qe (hKj41 _) ?_;unfold Z121_j41;refine Q.condP ?_ ?_
   ·all_goals exact hj12 _
   refine Q.condP ?_ ?_
   ·all_goals exact hj12 _
   all_goals exact hj12 _
  refine Q.condP ?_ ?_
  ·all_goals exact hj41 _
  all_goals exact hj41 _
 refine Q.condP ?_ ?_
 ·all_goals exact hj37 _
 all_goals exact hj37 _
def Z112_q20 :List TDef->Nat->Z3->(List Bs)->Option (Z3)
 | [],s17_21,y22_id12_3,y23_id13_6=>some y22_id12_3
 | h20::r20,s17_21,y22_id12_3,y23_id13_6=>(Z121_q y22_id12_3 ((s17_21:Nat):Int) y23_id13_6).bind fun x29=>Z112_q20  (r20) (s17_21+1) x29.1 x29.2
theorem Z112_l20_qe {a0:TDoc}{a1:Bool}  (Kb20:(Z3)->Option (Sl Z4)) (hend:∀(n20:Nat) (s17_21:Nat) (y22_id12_3:Z3) (y23_id13_6:(List Bs)),Z112_j7 a0 a1  y22_id12_3 y23_id13_6=Kb20 y22_id12_3):∀(n20:Nat) (s17_21:Nat) (y22_id12_3:Z3) (y23_id13_6:(List Bs)),(0<n20/\a0.FDefs.l.length<s17_21+n20)->Z112_l20 a0 a1 n20 s17_21 y22_id12_3 y23_id13_6=Option.bind (Z112_q20  (a0.FDefs.l.drop s17_21) s17_21 y22_id12_3 y23_id13_6) Kb20:=by
 intro n20;induction n20 with
 | zero=>intro s17_21 y22_id12_3 y23_id13_6 hn; exact absurd hn.1 (by omega)
 | succ n20 ih20 =>
  intro s17_21 y22_id12_3 y23_id13_6 hn;rw [Z112_l20];by_cases hlt:s17_21<a0.FDefs.l.length
  ·obtain⟨h20,hh20⟩:=Qa hlt;rw [Q.drop_of hh20,Z112_q20];refine QT hlt ?_;refine Q.bindO (Z121_eq _ _ _) fun x29=>?_;all_goals exact ih20 _ _ _ ⟨by omega,by omega⟩
  rw [dL (by omega),Z112_q20];refine QF hlt ?_;exact hend n20 s17_21 y22_id12_3 y23_id13_6
def Z112_q (a0:TDoc) (a1:Bool):Option (Sl Z4):=Option.bind (Z112_q20  a0.FDefs.l 0 (Z3.mk a0 (Sl.nil:Sl Z4)) ([]:List Bs)) fun y22_id12_3=>on (y22_id12_3) fun y8_id12_3=>on (Z114_q a0 ([81,117,101,114,121]:Bs)) fun x14=>Option.bind (bif (a1&&(!x14.2)) then((Z120_q y8_id12_3 true (30:Int) ([81,117,101,114,121]:Bs)).bind fun x17=>some x17) else(some y8_id12_3)) fun y11_id12_3=>some y11_id12_3.Ffaults
theorem Z112_eq (a0:TDoc) (a1:Bool):Z112 a0 a1=Z112_q a0 a1:=by
 unfold Z112 Z112_q;refine Qs ?_;refine Q.wrapOO fun Kb20 hKb20=>?_;refine Z112_l20_qe  Kb20 ?_ _ _ _ _ ⟨Nat.succ_pos _,by omega⟩;intro n20 s17_21 y22_id12_3 y23_id13_6;refine Qe (hKb20 _) ?_;refine Q.wrapPO fun Kj7 hKj7=>?_;have hj7:∀(y8_id12_3:Z3) (y9_id13_6:(List Bs)),Z112_j7 a0 a1 y8_id12_3 y9_id13_6=Kj7 y8_id12_3:=by
  intro y8_id12_3 y9_id13_6;refine Qe (hKj7 _) ?_;unfold Z112_j7;refine Q.bindPO (Z114_eq _ _) fun x14 hx_x14=>?_;refine Q.wrapOO fun Kj10 hKj10=>?_;have hj10:∀(y11_id12_3:Z3),Z112_j10  y11_id12_3=Kj10 y11_id12_3:=by
   intro y11_id12_3;refine Qe (hKj10 _) ?_;unfold Z112_j10;all_goals rfl
  refine Q.condO ?_ ?_
  ·refine Q.bindO (Z120_eq _ _ _ _) fun x17=>?_;all_goals exact hj10 _
  all_goals exact hj10 _
 all_goals exact hj7 _ _
def Z18_q (a0:Z0) (a1:Bs) (a2:Int):Int:=on (Z114_q a0.Fd a1) fun x3=>on (bif (!x3.2) then Z119_q a1 else false) fun x6=>bif ((!x3.2)&&(!x6)) then((8:Int)) else(bif ((!x3.2)||(!decide (x3.1.FKind=a2))) then((9:Int)) else((0:Int)))
theorem Z18_eq (a0:Z0) (a1:Bs) (a2:Int):Z18 a0 a1 a2=some (Z18_q a0 a1 a2):=by
 unfold Z18 Z18_q;refine Q.bindP (Z114_eq _ _) fun x3 hx_x3=>?_;refine Q.guardP (Z119_eq _) fun x6 hx_x6=>?_;refine Q.condP ?_ ?_
 ·all_goals rfl
 refine Q.condP ?_ ?_
 ·all_goals rfl
 all_goals rfl
def Z16_q (a0:Z0) (a1:Int) (a2:Bs):Option Z0:=(appC 24 a0.Fout (⟨false,[(Z4.mk a1 a2)]⟩:Sl Z4)).bind fun x1=>some (Z0.mk a0.Fd x1)
theorem Z16_eq (a0:Z0) (a1:Int) (a2:Bs):Z16 a0 a1 a2=Z16_q a0 a1 a2:=by
 unfold Z16 Z16_q;refine Qs ?_;refine Q.bindO rfl fun x1=>?_;all_goals rfl
def Z136_q6 (a1:Bs):List Bs->Nat->Unit ⊕ Int
 | [],s8_7=>Sum.inl ()
 | h6::r6,s8_7=>on (h6) fun x14=>bif ((a1==x14)) then(Sum.inr ((s8_7:Nat):Int)) else(Z136_q6 a1 (r6) (s8_7+1) )
theorem Z136_l6_qe {a0:(Sl Bs)}{a1:Bs}  (Kb6:(Unit ⊕ Int)->Option Int) (hend:∀(n6:Nat) (s8_7:Nat),Z136_j2   =Kb6 (Sum.inl ())) (hret:∀e:Int,some e=Kb6 (Sum.inr e)):∀(n6:Nat) (s8_7:Nat),(0<n6/\a0.l.length<s8_7+n6)->Z136_l6 a0 a1 n6 s8_7=Kb6 (Z136_q6 a1 (a0.l.drop s8_7) s8_7 ):=by
 intro n6;induction n6 with
 | zero=>intro s8_7 hn; exact absurd hn.1 (by omega)
 | succ n6 ih6 =>
  intro s8_7 hn;rw [Z136_l6];by_cases hlt:s8_7<a0.l.length
  ·obtain⟨h6,hh6⟩:=Qa hlt;rw [Q.drop_of hh6,Z136_q6];refine QT hlt ?_;refine Q.bindP hh6 fun x14 hx_x14=>?_;refine Q.condP ?_ ?_
   ·all_goals exact hret _
   all_goals exact ih6 _ ⟨by omega,by omega⟩
  rw [dL (by omega),Z136_q6];refine QF hlt ?_;exact hend n6 s8_7
def Z136_q (a0:(Sl Bs)) (a1:Bs):Int:=on (Z136_q6 a1 a0.l 0 ) fun o6=>match o6 with|Sum.inl _=>(on (()) fun _=>(-1:Int))|Sum.inr e6=>(e6)
theorem Z136_eq (a0:(Sl Bs)) (a1:Bs):Z136 a0 a1=some (Z136_q a0 a1):=by
 unfold Z136 Z136_q;refine Q.wrapPP fun Kb6 hKb6=>?_;refine Z136_l6_qe  Kb6 ?_ ?_ _ _ ⟨Nat.succ_pos _,by omega⟩
 ·intro n6 s8_7;refine Qe (hKb6 _) ?_;try dsimp only
  refine Q.wrapPP fun Kj2 hKj2=>?_;have hj2:Z136_j2  =Kj2 ():=by
   refine Qe (hKj2 _) ?_;unfold Z136_j2;all_goals rfl
  all_goals exact hj2
 intro e6;refine Qe (hKb6 _) ?_;try dsimp only
 all_goals rfl
def Z133_q (a0:(Sl Bs)) (a1:Bs):Bool:=on (Z136_q a0 a1) fun x3=>(decide ((0:Int)<=x3))
theorem Z133_eq (a0:(Sl Bs)) (a1:Bs):Z133 a0 a1=some (Z133_q a0 a1):=by
 unfold Z133 Z133_q;refine Q.bindP (Z136_eq _ _) fun x3 hx_x3=>?_;all_goals rfl
def Z113_q7 (a1:Bs):List Z5->Unit ⊕ ((Z5×Bool))
 | []=>Sum.inl ()
 | h7::r7=>on (h7) fun x15=>bif ((x15.FName==a1)) then(Sum.inr (x15,true)) else(Z113_q7 a1 (r7) )
theorem Z113_l7_qe {a0:TDef}{a1:Bs}  (Kb7:(Unit ⊕ ((Z5×Bool)))->Option (Z5×Bool)) (hend:∀(n7:Nat) (s11_8:Nat) (y9_l0:Z5),Z113_j2   y9_l0=Kb7 (Sum.inl ())) (hret:∀e:(Z5×Bool),some e=Kb7 (Sum.inr e)):∀(n7:Nat) (s11_8:Nat) (y9_l0:Z5),(0<n7/\a0.FFields.l.length<s11_8+n7)->Z113_l7 a0 a1 n7 s11_8 y9_l0=Kb7 (Z113_q7 a1 (a0.FFields.l.drop s11_8) ):=by
 intro n7;induction n7 with
 | zero=>intro s11_8 y9_l0 hn; exact absurd hn.1 (by omega)
 | succ n7 ih7 =>
  intro s11_8 y9_l0 hn;rw [Z113_l7];by_cases hlt:s11_8<a0.FFields.l.length
  ·obtain⟨h7,hh7⟩:=Qa hlt;rw [Q.drop_of hh7,Z113_q7];refine QT hlt ?_;refine Q.bindP hh7 fun x15 hx_x15=>?_;refine Q.condP ?_ ?_
   ·all_goals exact hret _
   all_goals exact ih7 _ _ ⟨by omega,by omega⟩
  rw [dL (by omega),Z113_q7];refine QF hlt ?_;exact hend n7 s11_8 y9_l0
def Z113_q (a0:TDef) (a1:Bs):(Z5×Bool):=on (Z113_q7 a1 a0.FFields.l ) fun o7=>match o7 with|Sum.inl _=>(on (()) fun _=>((Z5.mk ([]:Bs) (Sl.nil:Sl Z7) TRef.zero (Sl.nil:Sl TDir)),false))|Sum.inr e7=>(e7)
theorem Z113_eq (a0:TDef) (a1:Bs):Z113 a0 a1=some (Z113_q a0 a1):=by
 unfold Z113 Z113_q;refine Q.wrapPP fun Kb7 hKb7=>?_;refine Z113_l7_qe  Kb7 ?_ ?_ _ _ _ ⟨Nat.succ_pos _,by omega⟩
 ·intro n7 s11_8 y9_l0;refine Qe (hKb7 _) ?_;try dsimp only
  refine Q.wrapPP fun Kj2 hKj2=>?_;have hj2:∀(y3_l0:Z5),Z113_j2  y3_l0=Kj2 ():=by
   intro y3_l0;refine Qe (hKj2 _) ?_;unfold Z113_j2;all_goals rfl
  all_goals exact hj2 _
 intro e7;refine Qe (hKb7 _) ?_;try dsimp only
 all_goals rfl
def Z144_q (a0:TRef):Bool:=on (bif (decide ((0:Int)<((a0.FWraps.l.length:Nat):Int))) then((a0.FWraps.l)[0]?.getD (0:Int)) else(0:Int)) fun x4=>((decide ((0:Int)<((a0.FWraps.l.length:Nat):Int)))&&(decide (x4=(1:Int))))
theorem Z144_eq (a0:TRef):Z144 a0=some (Z144_q a0):=by
 unfold Z144 Z144_q;refine Q.guardT (fun hc=>Q.getD_some (by simp at hc; omega)) fun x4 hx_x4=>?_;all_goals rfl
def Z130_q (a0:(Sl Int)):Option (Sl Int):=bif a0.nl then(some (Sl.nil:Sl Int)) else((appC 8 (⟨false,[]⟩:Sl Int) a0).bind fun x7=>some x7)
theorem Z130_eq (a0:(Sl Int)):Z130 a0=Z130_q a0:=by
 unfold Z130 Z130_q;refine Qs ?_;refine Q.condO ?_ ?_
 ·all_goals rfl
 refine Q.bindO rfl fun x7=>?_;all_goals rfl
def Z145_q (a0:TRef):Option TRef:=on (Z144_q a0) fun x8=>Option.bind (bif x8 then((partC a0.FWraps (some (1:Int)) none).bind fun x10=>some x10) else(some a0.FWraps)) fun s3_4=>(Z130_q s3_4).bind fun x6=>some (TRef.mk a0.FName x6)
theorem Z145_eq (a0:TRef):Z145 a0=Z145_q a0:=by
 unfold Z145 Z145_q;refine Qs ?_;refine Q.bindPO (Z144_eq _) fun x8 hx_x8=>?_;refine Q.wrapOO fun Kj3 hKj3=>?_;have hj3:∀(s3_4:(Sl Int)),Z145_j3 a0 s3_4=Kj3 s3_4:=by
  intro s3_4;refine Qe (hKj3 _) ?_;unfold Z145_j3;refine Q.bindO (Z130_eq _) fun x6=>?_;all_goals rfl
 refine Q.condO ?_ ?_
 ·refine Q.bindO rfl fun x10=>?_;all_goals exact hj3 _
 all_goals exact hj3 _
def Z143_q (a0:TRef):Option Bool:=(Z145_q a0).bind fun x3=>on (bif (decide ((0:Int)<((x3.FWraps.l.length:Nat):Int))) then((x3.FWraps.l)[0]?.getD (0:Int)) else(0:Int)) fun x6=>some ((decide ((0:Int)<((x3.FWraps.l.length:Nat):Int)))&&(decide (x6=(2:Int))))
theorem Z143_eq (a0:TRef):Z143 a0=Z143_q a0:=by
 unfold Z143 Z143_q;refine Qs ?_;refine Q.bindO (Z145_eq _) fun x3=>?_;refine Q.guardTO (fun hc=>Q.getD_some (by simp at hc; omega)) fun x6 hx_x6=>?_;all_goals rfl
def Z142_q (a0:TRef):Option (TRef×Bool):=(Z143_q a0).bind fun x4=>bif (!x4) then(some ((TRef.mk ([]:Bs) (Sl.nil:Sl Int)),false)) else((Z145_q a0).bind fun x8=>(partC x8.FWraps (some (1:Int)) none).bind fun x10=>some ((TRef.mk x8.FName x10),true))
theorem Z142_eq (a0:TRef):Z142 a0=Z142_q a0:=by
 unfold Z142 Z142_q;refine Qs ?_;refine Q.bindO (Z143_eq _) fun x4=>?_;refine Q.condO ?_ ?_
 ·all_goals rfl
 refine Q.bindO (Z145_eq _) fun x8=>?_;refine Q.bindO rfl fun x10=>?_;all_goals rfl
def Z20_q (a0:TDef) (a1:Bs):Bool:=on (Z133_q a0.FImplements a1) fun x3=>x3
theorem Z20_eq (a0:TDef) (a1:Bs):Z20 a0 a1=some (Z20_q a0 a1):=by
 unfold Z20 Z20_q;refine Q.bindP (Z133_eq _ _) fun x3 hx_x3=>?_;all_goals rfl
def Z14_q (a0:TDoc) (a1:Bs):Option (Sl Bs):=Z14 a0 a1
theorem Z14_eq (a0:TDoc) (a1:Bs):Z14 a0 a1=Z14_q a0 a1:=rfl
def Z13_q (a0:TDoc) (a1:Bs) (a2:Bs):Option Bool:=(Z14_q a0 a2).bind fun x3=>on (Z133_q x3 a1) fun x4=>some x4
theorem Z13_eq (a0:TDoc) (a1:Bs) (a2:Bs):Z13 a0 a1 a2=Z13_q a0 a1 a2:=by
 unfold Z13 Z13_q;refine Qs ?_;refine Q.bindO (Z14_eq _ _) fun x3=>?_;refine Q.bindPO (Z133_eq _ _) fun x4 hx_x4=>?_;all_goals rfl
def Z15_qn:Nat->TDoc->TRef->TRef->Option Bool
 | 0,_,_,_=>none
 | n+1,a0,a1,a2=>on (Z144_q a2) fun x4=>bif x4 then(on (Z144_q a1) fun x7=>guardO (x7) (Z145_q a1) TRef.zero fun x8=>guardO (x7) (Z145_q a2) TRef.zero fun x9=>guardO (x7) ((Z15_qn n) a0 x8 x9) false fun x10=>some (x7&&x10)) else(on (Z144_q a1) fun x13=>bif x13 then((Z145_q a1).bind fun x16=>((Z15_qn n) a0 x16 a2).bind fun x17=>some x17) else((Z142_q a1).bind fun x19=>(Z142_q a2).bind fun x21=>bif (x19.2||x21.2) then(guardO ((x19.2&&x21.2)) ((Z15_qn n) a0 x19.1 x21.1) false fun x26=>some ((x19.2&&x21.2)&&x26)) else(guardO (!((a1.FName==a2.FName))) (Z13_q a0 a1.FName a2.FName) false fun x28=>some (((a1.FName==a2.FName))||x28))))
theorem Z15_qall:∀n:Nat,Z15_n n=Z15_qn n:=by
 intro n;induction n with
 | zero=>exact(by funext a0 a1 a2; first|rfl|(rw [Z15_n,Z15_qn]))
 | succ n ih =>
  funext a0 a1 a2
  refine Qs ?_;rw [Z15_n,Z15_qn];try rw [ih]
  refine Q.bindPO (Z144_eq _) fun x4 hx_x4=>?_;refine Q.condO ?_ ?_
  ·refine Q.bindPO (Z144_eq _) fun x7 hx_x7=>?_;refine Q.guardOO (Z145_eq _) fun x8=>?_;refine Q.guardOO (Z145_eq _) fun x9=>?_;refine Q.guardOO rfl fun x10=>?_;all_goals rfl
  refine Q.bindPO (Z144_eq _) fun x13 hx_x13=>?_;refine Q.condO ?_ ?_
  ·refine Q.bindO (Z145_eq _) fun x16=>?_;refine Q.bindO rfl fun x17=>?_;all_goals rfl
  refine Q.bindO (Z142_eq _) fun x19=>?_;refine Q.bindO (Z142_eq _) fun x21=>?_;refine Q.condO ?_ ?_
  ·refine Q.guardOO rfl fun x26=>?_;all_goals rfl
  refine Q.guardOO (Z13_eq _ _ _) fun x28=>?_;all_goals rfl
def Z15_q (a0:TDoc) (a1:TRef) (a2:TRef):Option Bool:=Z15_qn F0 a0 a1 a2
theorem Z15_eq (a0:TDoc) (a1:TRef) (a2:TRef):Z15 a0 a1 a2=Z15_q a0 a1 a2:=by
 unfold Z15 Z15_q; rw [(Z15_qall F0)]
def Z115_q7 (a1:Bs):List Z7->Unit ⊕ ((Z7×Bool))
 | []=>Sum.inl ()
 | h7::r7=>on (h7) fun x15=>bif ((x15.FName==a1)) then(Sum.inr (x15,true)) else(Z115_q7 a1 (r7) )
theorem Z115_l7_qe {a0:(Sl Z7)}{a1:Bs}  (Kb7:(Unit ⊕ ((Z7×Bool)))->Option (Z7×Bool)) (hend:∀(n7:Nat) (s10_8:Nat) (y9_l0:Z7),Z115_j2   y9_l0=Kb7 (Sum.inl ())) (hret:∀e:(Z7×Bool),some e=Kb7 (Sum.inr e)):∀(n7:Nat) (s10_8:Nat) (y9_l0:Z7),(0<n7/\a0.l.length<s10_8+n7)->Z115_l7 a0 a1 n7 s10_8 y9_l0=Kb7 (Z115_q7 a1 (a0.l.drop s10_8) ):=by
 intro n7;induction n7 with
 | zero=>intro s10_8 y9_l0 hn; exact absurd hn.1 (by omega)
 | succ n7 ih7 =>
  intro s10_8 y9_l0 hn;rw [Z115_l7];by_cases hlt:s10_8<a0.l.length
  ·obtain⟨h7,hh7⟩:=Qa hlt;rw [Q.drop_of hh7,Z115_q7];refine QT hlt ?_;refine Q.bindP hh7 fun x15 hx_x15=>?_;refine Q.condP ?_ ?_
   ·all_goals exact hret _
   all_goals exact ih7 _ _ ⟨by omega,by omega⟩
  rw [dL (by omega),Z115_q7];refine QF hlt ?_;exact hend n7 s10_8 y9_l0
def Z115_q (a0:(Sl Z7)) (a1:Bs):(Z7×Bool):=on (Z115_q7 a1 a0.l ) fun o7=>match o7 with|Sum.inl _=>(on (()) fun _=>((Z7.mk ([]:Bs) TRef.zero false Z10.zero (Sl.nil:Sl TDir)),false))|Sum.inr e7=>(e7)
theorem Z115_eq (a0:(Sl Z7)) (a1:Bs):Z115 a0 a1=some (Z115_q a0 a1):=by
 unfold Z115 Z115_q;refine Q.wrapPP fun Kb7 hKb7=>?_;refine Z115_l7_qe  Kb7 ?_ ?_ _ _ _ ⟨Nat.succ_pos _,by omega⟩
 ·intro n7 s10_8 y9_l0;refine Qe (hKb7 _) ?_;try dsimp only
  refine Q.wrapPP fun Kj2 hKj2=>?_;have hj2:∀(y3_l0:Z7),Z115_j2  y3_l0=Kj2 ():=by
   intro y3_l0;refine Qe (hKj2 _) ?_;unfold Z115_j2;all_goals rfl
  all_goals exact hj2 _
 intro e7;refine Qe (hKb7 _) ?_;try dsimp only
 all_goals rfl
def Z134_q12 (a1:(Sl Int)):List Int->Nat->Option (Unit ⊕ Bool)
 | [],s13_13=>some (Sum.inl ())
 | h12::r12,s13_13=>on (h12) fun x20=>(a1.l[s13_13]?).bind fun x21=>bif (!decide (x20=x21)) then(some (Sum.inr false)) else(Z134_q12 a1 (r12) (s13_13+1) )
theorem Z134_l12_qe {a0:(Sl Int)}{a1:(Sl Int)}  (Kb12:(Unit ⊕ Bool)->Option Bool) (hend:∀(n12:Nat) (s13_13:Nat),Z134_j8   =Kb12 (Sum.inl ())) (hret:∀e:Bool,some e=Kb12 (Sum.inr e)):∀(n12:Nat) (s13_13:Nat),(0<n12/\a0.l.length<s13_13+n12)->Z134_l12 a0 a1 n12 s13_13=Option.bind (Z134_q12 a1 (a0.l.drop s13_13) s13_13 ) Kb12:=by
 intro n12;induction n12 with
 | zero=>intro s13_13 hn; exact absurd hn.1 (by omega)
 | succ n12 ih12 =>
  intro s13_13 hn;rw [Z134_l12];by_cases hlt:s13_13<a0.l.length
  ·obtain⟨h12,hh12⟩:=Qa hlt;rw [Q.drop_of hh12,Z134_q12];refine QT hlt ?_;refine Q.bindPO hh12 fun x20 hx_x20=>?_;refine Q.bindO rfl fun x21=>?_;refine Q.condO ?_ ?_
   ·all_goals exact hret _
   all_goals exact ih12 _ ⟨by omega,by omega⟩
  rw [dL (by omega),Z134_q12];refine QF hlt ?_;exact hend n12 s13_13
def Z134_q (a0:(Sl Int)) (a1:(Sl Int)):Option Bool:=bif (!decide (((a0.l.length:Nat):Int)=((a1.l.length:Nat):Int))) then(some false) else(Option.bind (Z134_q12 a1 a0.l 0 ) fun o12=>match o12 with|Sum.inl _=>(on (()) fun _=>some true)|Sum.inr e12=>(some e12))
theorem Z134_eq (a0:(Sl Int)) (a1:(Sl Int)):Z134 a0 a1=Z134_q a0 a1:=by
 unfold Z134 Z134_q;refine Qs ?_;refine Q.condO ?_ ?_
 ·all_goals rfl
 refine Q.wrapOO fun Kb12 hKb12=>?_;refine Z134_l12_qe  Kb12 ?_ ?_ _ _ ⟨Nat.succ_pos _,by omega⟩
 ·intro n12 s13_13;refine Qe (hKb12 _) ?_;try dsimp only
  refine Q.wrapPO fun Kj8 hKj8=>?_;have hj8:Z134_j8  =Kj8 ():=by
   refine Qe (hKj8 _) ?_;unfold Z134_j8;all_goals rfl
  all_goals exact hj8
 intro e12;refine Qe (hKb12 _) ?_;try dsimp only
 all_goals rfl
def Z146_q (a0:TRef) (a1:TRef):Option Bool:=guardO (((a0.FName==a1.FName))) (Z134_q a0.FWraps a1.FWraps) false fun x3=>some (((a0.FName==a1.FName))&&x3)
theorem Z146_eq (a0:TRef) (a1:TRef):Z146 a0 a1=Z146_q a0 a1:=by
 unfold Z146 Z146_q;refine Qs ?_;refine Q.guardOO (Z134_eq _ _) fun x3=>?_;all_goals rfl
def Z17_q51 (x16:Bs) (x18:(Z5×Bool)):List Z7->Z0->Option (Z0)
 | [],y53_c0=>some y53_c0
 | h51::r51,y53_c0=>on (h51) fun x60=>on (Z115_q x18.1.FArgs x60.FName) fun x62=>guardO (!(!x62.2)) (Z146_q x60.FType x62.1.FType) false fun x64=>Option.bind (bif ((!x62.2)||(!x64)) then((catC x16 ([40]:Bs)).bind fun x66=>(catC x66 x60.FName).bind fun x67=>(catC x67 ([41]:Bs)).bind fun x68=>(Z16_q y53_c0 (22:Int) x68).bind fun x69=>some x69) else(some y53_c0)) fun y58_c0=>Z17_q51 x16 x18 (r51) y58_c0
theorem Z17_l51_qe {s22_5:Nat}{x13:Z5}{x16:Bs}{x18:(Z5×Bool)}{k_next_4:Nat->Z0->Option Z0}  (Kb51:(Z0)->Option Z0) (hend:∀(n51:Nat) (s60_52:Nat) (y53_c0:Z0),Z17_j26 s22_5 x13 x16 x18 k_next_4 y53_c0=Kb51 y53_c0):∀(n51:Nat) (s60_52:Nat) (y53_c0:Z0),(0<n51/\x13.FArgs.l.length<s60_52+n51)->Z17_l51 s22_5 x13 x16 x18 k_next_4 n51 s60_52 y53_c0=Option.bind (Z17_q51 x16 x18 (x13.FArgs.l.drop s60_52) y53_c0) Kb51:=by
 intro n51;induction n51 with
 | zero=>intro s60_52 y53_c0 hn; exact absurd hn.1 (by omega)
 | succ n51 ih51 =>
  intro s60_52 y53_c0 hn;rw [Z17_l51];by_cases hlt:s60_52<x13.FArgs.l.length
  ·obtain⟨h51,hh51⟩:=Qa hlt;rw [Q.drop_of hh51,Z17_q51];refine QT hlt ?_;refine Q.bindPO hh51 fun x60 hx_x60=>?_;refine Q.bindPO (Z115_eq _ _) fun x62 hx_x62=>?_;refine Q.guardOO (Z146_eq _ _) fun x64=>?_;refine Q.wrapOO fun Kj57 hKj57=>?_;have hj57:∀(y58_c0:Z0),Z17_j57 s60_52 (Z17_l51 s22_5 x13 x16 x18 k_next_4 n51) y58_c0=Kj57 y58_c0:=by
    intro y58_c0;refine Qe (hKj57 _) ?_;unfold Z17_j57;all_goals exact ih51 _ _ ⟨by omega,by omega⟩
   refine Q.condO ?_ ?_
   ·refine Q.bindO rfl fun x66=>?_;refine Q.bindO rfl fun x67=>?_;refine Q.bindO rfl fun x68=>?_;refine Q.bindO (Z16_eq _ _ _) fun x69=>?_;all_goals exact hj57 _
   all_goals exact hj57 _
  rw [dL (by omega),Z17_q51];refine QF hlt ?_;exact hend n51 s60_52 y53_c0
def Z17_q30 (x13:Z5) (x16:Bs):List Z7->Z0->Option (Z0)
 | [],y32_c0=>some y32_c0
 | h30::r30,y32_c0=>on (h30) fun x39=>on (Z115_q x13.FArgs x39.FName) fun x41=>on (bif (!x41.2) then Z144_q x39.FType else false) fun x43=>Option.bind (bif (((!x41.2)&&x43)&&(!x39.FHas)) then((catC x16 ([40]:Bs)).bind fun x45=>(catC x45 x39.FName).bind fun x46=>(catC x46 ([41]:Bs)).bind fun x47=>(Z16_q y32_c0 (22:Int) x47).bind fun x48=>some x48) else(some y32_c0)) fun y37_c0=>Z17_q30 x13 x16 (r30) y37_c0
theorem Z17_l30_qe {s22_5:Nat}{x13:Z5}{x16:Bs}{x18:(Z5×Bool)}{k_next_4:Nat->Z0->Option Z0}  (Kb30:(Z0)->Option Z0) (hend:∀(n30:Nat) (s94_31:Nat) (y32_c0:Z0),Z17_j10 s22_5 k_next_4 y32_c0=Kb30 y32_c0):∀(n30:Nat) (s94_31:Nat) (y32_c0:Z0),(0<n30/\x18.1.FArgs.l.length<s94_31+n30)->Z17_l30 s22_5 x13 x16 x18 k_next_4 n30 s94_31 y32_c0=Option.bind (Z17_q30 x13 x16 (x18.1.FArgs.l.drop s94_31) y32_c0) Kb30:=by
 intro n30;induction n30 with
 | zero=>intro s94_31 y32_c0 hn; exact absurd hn.1 (by omega)
 | succ n30 ih30 =>
  intro s94_31 y32_c0 hn;rw [Z17_l30];by_cases hlt:s94_31<x18.1.FArgs.l.length
  ·obtain⟨h30,hh30⟩:=Qa hlt;rw [Q.drop_of hh30,Z17_q30];refine QT hlt ?_;refine Q.bindPO hh30 fun x39 hx_x39=>?_;refine Q.bindPO (Z115_eq _ _) fun x41 hx_x41=>?_;refine Q.guardPO (Z144_eq _) fun x43 hx_x43=>?_;refine Q.wrapOO fun Kj36 hKj36=>?_;have hj36:∀(y37_c0:Z0),Z17_j36 s94_31 (Z17_l30 s22_5 x13 x16 x18 k_next_4 n30) y37_c0=Kj36 y37_c0:=by
    intro y37_c0;refine Qe (hKj36 _) ?_;unfold Z17_j36;all_goals exact ih30 _ _ ⟨by omega,by omega⟩
   refine Q.condO ?_ ?_
   ·refine Q.bindO rfl fun x45=>?_;refine Q.bindO rfl fun x46=>?_;refine Q.bindO rfl fun x47=>?_;refine Q.bindO (Z16_eq _ _ _) fun x48=>?_;all_goals exact hj36 _
   all_goals exact hj36 _
  rw [dL (by omega),Z17_q30];refine QF hlt ?_;exact hend n30 s94_31 y32_c0
def Z17_q4 (a1:TDef):List Z5->Z0->Option (Z0)
 | [],y6_c0=>some y6_c0
 | h4::r4,y6_c0=>on (h4) fun x13=>(catC a1.FName ([46]:Bs)).bind fun x15=>(catC x15 x13.FName).bind fun x16=>on (Z113_q a1 x13.FName) fun x18=>Option.bind (bif (!x18.2) then((Z16_q y6_c0 (20:Int) x16).bind fun x23=>some x23) else((Z15_q y6_c0.Fd x18.1.FType x13.FType).bind fun x71=>Option.bind (bif (!x71) then((Z16_q y6_c0 (10:Int) x16).bind fun x73=>some x73) else(some y6_c0)) fun y25_c0=>Option.bind (Z17_q51 x16 x18 x13.FArgs.l y25_c0) fun y53_c0=>on (y53_c0) fun y27_c0=>Option.bind (Z17_q30 x13 x16 x18.1.FArgs.l y27_c0) fun y32_c0=>some y32_c0)) fun y11_c0=>Z17_q4 a1 (r4) y11_c0
theorem Z17_l4_qe {a1:TDef}{a2:TDef}  (Kb4:(Z0)->Option Z0) (hend:∀(n4:Nat) (s22_5:Nat) (y6_c0:Z0),some y6_c0=Kb4 y6_c0):∀(n4:Nat) (s22_5:Nat) (y6_c0:Z0),(0<n4/\a2.FFields.l.length<s22_5+n4)->Z17_l4 a1 a2 n4 s22_5 y6_c0=Option.bind (Z17_q4 a1 (a2.FFields.l.drop s22_5) y6_c0) Kb4:=by
 intro n4;induction n4 with
 | zero=>intro s22_5 y6_c0 hn; exact absurd hn.1 (by omega)
 | succ n4 ih4 =>
  intro s22_5 y6_c0 hn;rw [Z17_l4];by_cases hlt:s22_5<a2.FFields.l.length
  ·obtain⟨h4,hh4⟩:=Qa hlt;rw [Q.drop_of hh4,Z17_q4];refine QT hlt ?_;refine Q.bindPO hh4 fun x13 hx_x13=>?_;refine Q.bindO rfl fun x15=>?_;refine Q.bindO rfl fun x16=>?_;refine Q.bindPO (Z113_eq _ _) fun x18 hx_x18=>?_;refine Q.wrapOO fun Kj10 hKj10=>?_;have hj10:∀(y11_c0:Z0),Z17_j10 s22_5 (Z17_l4 a1 a2 n4) y11_c0=Kj10 y11_c0:=by
    intro y11_c0;refine Qe (hKj10 _) ?_;unfold Z17_j10;all_goals exact ih4 _ _ ⟨by omega,by omega⟩
   refine Q.condO ?_ ?_
   ·refine Q.bindO (Z16_eq _ _ _) fun x23=>?_;all_goals exact hj10 _
   refine Q.bindO (Z15_eq _ _ _) fun x71=>?_;refine Q.wrapOO fun Kj24 hKj24=>?_;have hj24:∀(y25_c0:Z0),Z17_j24 s22_5 x13 x16 x18 (Z17_l4 a1 a2 n4) y25_c0=Kj24 y25_c0:=by
    intro y25_c0;refine Qe (hKj24 _) ?_;unfold Z17_j24;refine Q.wrapOO fun Kb51 hKb51=>?_;refine Z17_l51_qe  Kb51 ?_ _ _ _ ⟨Nat.succ_pos _,by omega⟩;intro n51 s60_52 y53_c0;refine Qe (hKb51 _) ?_;refine Q.wrapPO fun Kj26 hKj26=>?_;have hj26:∀(y27_c0:Z0),Z17_j26 s22_5 x13 x16 x18 (Z17_l4 a1 a2 n4) y27_c0=Kj26 y27_c0:=by
     intro y27_c0;refine Qe (hKj26 _) ?_;unfold Z17_j26;refine Q.wrapOO fun Kb30 hKb30=>?_;refine Z17_l30_qe  Kb30 ?_ _ _ _ ⟨Nat.succ_pos _,by omega⟩;intro n30 s94_31 y32_c0;refine Qe (hKb30 _) ?_;all_goals exact hj10 _
    all_goals exact hj26 _
   refine Q.condO ?_ ?_
   ·refine Q.bindO (Z16_eq _ _ _) fun x73=>?_;all_goals exact hj24 _
   all_goals exact hj24 _
  rw [dL (by omega),Z17_q4];refine QF hlt ?_;exact hend n4 s22_5 y6_c0
def Z17_q (a0:Z0) (a1:TDef) (a2:TDef):Option Z0:=Option.bind (Z17_q4 a1 a2.FFields.l a0) fun y6_c0=>some y6_c0
theorem Z17_eq (a0:Z0) (a1:TDef) (a2:TDef):Z17 a0 a1 a2=Z17_q a0 a1 a2:=by
 unfold Z17 Z17_q;refine Qs ?_;refine Q.wrapOO fun Kb4 hKb4=>?_;refine Z17_l4_qe  Kb4 ?_ _ _ _ ⟨Nat.succ_pos _,by omega⟩;intro n4 s22_5 y6_c0;refine Qe (hKb4 _) ?_;all_goals rfl
def Z19_q4 (a1:TDef):List Bs->Nat->Z0->Option (Z0)
 | [],s12_5,y6_c0=>some y6_c0
 | h4::r4,s12_5,y6_c0=>on (h4) fun x13=>on (Z18_q y6_c0 x13 (2:Int)) fun x15=>on (bif (decide (x15=(0:Int))) then(⟨a1.FImplements.nl,a1.FImplements.l.take s12_5⟩:Sl Bs) else(Sl.nil:Sl Bs)) fun x27=>on (bif (decide (x15=(0:Int))) then Z133_q x27 x13 else false) fun x28=>on (bif ((decide (x15=(0:Int)))&&x28) then((7:Int)) else(x15)) fun s6_17=>Option.bind (bif (!decide (s6_17=(0:Int))) then((Z16_q y6_c0 s6_17 a1.FName).bind fun x22=>some x22) else(on (Z114_q y6_c0.Fd x13) fun x24=>(Z17_q y6_c0 a1 x24.1).bind fun x25=>some x25)) fun y11_c0=>Z19_q4 a1 (r4) (s12_5+1) y11_c0
theorem Z19_l4_qe {a1:TDef}  (Kb4:(Z0)->Option Z0) (hend:∀(n4:Nat) (s12_5:Nat) (y6_c0:Z0),some y6_c0=Kb4 y6_c0):∀(n4:Nat) (s12_5:Nat) (y6_c0:Z0),(0<n4/\a1.FImplements.l.length<s12_5+n4)->Z19_l4 a1 n4 s12_5 y6_c0=Option.bind (Z19_q4 a1 (a1.FImplements.l.drop s12_5) s12_5 y6_c0) Kb4:=by
 intro n4;induction n4 with
 | zero=>intro s12_5 y6_c0 hn; exact absurd hn.1 (by omega)
 | succ n4 ih4 =>
  intro s12_5 y6_c0 hn;rw [Z19_l4];by_cases hlt:s12_5<a1.FImplements.l.length
  ·obtain⟨h4,hh4⟩:=Qa hlt;rw [Q.drop_of hh4,Z19_q4];refine QT hlt ?_;refine Q.bindPO hh4 fun x13 hx_x13=>?_;refine Q.bindPO (Z18_eq _ _ _) fun x15 hx_x15=>?_;refine Q.guardPO (Q.partC_take (by omega)) fun x27 hx_x27=>?_;refine Q.guardPO (Z133_eq _ _) fun x28 hx_x28=>?_;refine Q.wrapPO fun Kj16 hKj16=>?_;have hj16:∀(s6_17:Int),Z19_j16 a1 s12_5 y6_c0 x13 (Z19_l4 a1 n4) s6_17=Kj16 s6_17:=by
    intro s6_17;refine Qe (hKj16 _) ?_;unfold Z19_j16;refine Q.wrapOO fun Kj10 hKj10=>?_;have hj10:∀(y11_c0:Z0),Z19_j10 s12_5 (Z19_l4 a1 n4) y11_c0=Kj10 y11_c0:=by
     intro y11_c0;refine Qe (hKj10 _) ?_;unfold Z19_j10;all_goals exact ih4 _ _ ⟨by omega,by omega⟩
    refine Q.condO ?_ ?_
    ·refine Q.bindO (Z16_eq _ _ _) fun x22=>?_;all_goals exact hj10 _
    refine Q.bindPO (Z114_eq _ _) fun x24 hx_x24=>?_;refine Q.bindO (Z17_eq _ _ _) fun x25=>?_;all_goals exact hj10 _
   refine Q.condP ?_ ?_
   ·all_goals exact hj16 _
   all_goals exact hj16 _
  rw [dL (by omega),Z19_q4];refine QF hlt ?_;exact hend n4 s12_5 y6_c0
def Z19_q (a0:Z0) (a1:TDef):Option Z0:=Option.bind (Z19_q4 a1 a1.FImplements.l 0 a0) fun y6_c0=>some y6_c0
theorem Z19_eq (a0:Z0) (a1:TDef):Z19 a0 a1=Z19_q a0 a1:=by
 unfold Z19 Z19_q;refine Qs ?_;refine Q.wrapOO fun Kb4 hKb4=>?_;refine Z19_l4_qe  Kb4 ?_ _ _ _ ⟨Nat.succ_pos _,by omega⟩;intro n4 s12_5 y6_c0;refine Qe (hKb4 _) ?_;all_goals rfl
end Go.Proofs
