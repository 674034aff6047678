import Derived.Test.YtfmbgiahleepfadGreatDoorV1
set_option maxRecDepth 100000
set_option maxHeartbeats 2000000
set_option linter.unusedVariables false
set_option linter.unusedSimpArgs false
namespace Go.Proofs
open Go Go.Ab
open AOps Cert AWp Keeps KeepsT
variable {lou:Lou}
def Z141 (a0:Bs):Option Bool:=(Z138 a0 ([95,95]:Bs)).bind fun x3=>some x3
theorem Z141_walk {a0:Bs}{r:Bool}(hE:Z141 a0=some r) (H:Heap) :ACalls Tryz.prog 70 [.d (.str a0)] H fun v h'=>v=.a (.d (.bool r))/\h'=H:=by
 unfold Z141 at hE;refine ACalls.oW 5 [.tmp 2] Tryz.call70 Tryz.func70 ?_;refine seqR (S As (nil ?_));refine seqR (S Mv ?_);obtain⟨x3,gx3,hE⟩:=bO hE;refine Sc rfl rfl (Z138_walk gx3) ?_;refine S As (nil ?_);exact rt hE
def Z119 (a0:Bs):Option Bool:=some (((((a0==([73,110,116]:Bs)))||((a0==([83,116,114,105,110,103]:Bs))))||((a0==([66,111,111,108,101,97,110]:Bs))))||((a0==([73,68]:Bs))))
theorem Z119_walk {a0:Bs}{r:Bool}(hE:Z119 a0=some r) (H:Heap) :ACalls Tryz.prog 71 [.d (.str a0)] H fun v h'=>v=.a (.d (.bool r))/\h'=H:=by
 unfold Z119 at hE;refine ACalls.oW 17 [.tmp 2] Tryz.call71 Tryz.func71 ?_;refine seqR (S As (nil ?_));refine seqR (S Mv (S BS (S Mv (G0 Mv ?_))));refine G1 6 rfl BS ?_;refine S PO (S Mv (G0 Mv ?_));refine G1 10 rfl BS ?_;refine S PO (S Mv (G0 Mv ?_));refine G1 14 rfl BS ?_;refine S PO (S As (nil ?_));exact rt hE
def Z114_j2  (y3_l0:TDef):Option (TDef×Bool):=some ((TDef.mk (0:Int) ([]:Bs) (Sl.nil:Sl Bs) (Sl.nil:Sl TDir) (Sl.nil:Sl Z5) (Sl.nil:Sl Z8) (Sl.nil:Sl Z7)),false)
def Z114_l7 (a0:TDoc) (a1:Bs) :Nat->Nat->TDef->Option (TDef×Bool)
 | 0,_,_=>none
 | n7+1,s11_8,y9_l0=>bif (decide (((s11_8:Nat):Int)<((a0.FDefs.l.length:Nat):Int))) then((a0.FDefs.l[s11_8]?).bind fun x15=>bif ((x15.FName==a1)) then(some (x15,true)) else((Z114_l7 a0 a1 n7) (s11_8+1) y9_l0)) else(Z114_j2   y9_l0)
def Z114 (a0:TDoc) (a1:Bs):Option (TDef×Bool):=Z114_l7 a0 a1 (a0.FDefs.l.length+1) 0 TDef.zero
theorem Z114_walk {a0:TDoc}{a1:Bs}{r:TDef×Bool}(hE:Z114 a0 a1=some r) (H:Heap) :ACalls Tryz.prog 29 [.agg (TDoc.c a0),.d (.str a1)] H fun v h'=>v=.tup [.agg (TDef.c r.1),.d (.bool r.2)]/\h'=H:=by
 unfold Z114 at hE;refine ACalls.oW 22 [.cell 4 37,.tmp 5] Tryz.call29 Tryz.func29 ?_;refine seqR (S BX ?_);refine Sl ?_;refine S As (nil ?_);refine seqJ (TA 4 KeepsT.nil) (fun(z:TDef)=>[]) (fun z=>[TDef.c z]) (fun z=>H) (fun z=>Z114_j2 z=some r) ?_ ?_
 ·intro K2 hK2;refine seqR (S Fv (S Ld ?_));refine sLen (f:=TDef.c) (s:=a0.FDefs) (TK rfl) rfl rfl rfl rfl fun hL6=>?_;refine S Mv (nil ?_);refine block ?_;refine loopO (TA 1 (TA 4 (TA 9 (TA 10 KeepsT.nil)))) (fun(z:Nat×Nat×TDef)=>[(11,.a (.d (.int .i64 ((z.2.1:Nat):Int))))]) (fun z=>[TDef.c z.2.2]) (fun z=>H) (fun z=>z.1) (fun z=>Z114_l7 a0 a1 z.1 z.2.1 z.2.2=some r) ((a0.FDefs.l.length+1),0,TDef.zero) hE Weak.toA ?_
  rintro ⟨n7,s11_8,y9_l0⟩ hE K7 hK7;try dsimp only at hE
  cases n7 with
  | zero=>cases hE
  | succ n7 =>
    rw [Z114_l7] at hE;refine seqR (S BI (nil ?_));refine seqK fun K11 hK11=>?_;refine cE hE (fun hc12 hE=>?_) (fun hc12 hE=>?_)
    ·try dsimp only at hc12
     have hf12:=of_decide_eq_true hc12;refine sk hK11 ?_;clear hK11 K11;refine seqK fun K13 hK13=>?_;refine block ?_;refine seqR ?_;obtain⟨x15,gx15,hE⟩:=bO hE;refine S (ix TDef.c s11_8 gx15) (S Ld ?_);refine Sl ?_;refine Sf ?_;refine nil ?_;refine freezeA 7 _ rfl (KA 1 (KA 4 (KA 9 (KA 10 (KA 11 Keeps.nil))))) ?_;refine seqR (S Fv (S Ld (S Mv (S BS (nil ?_)))));refine cE hE (fun hc17 hE=>?_) (fun hc17 hE=>?_)
     ·refine seqR (S Ld ?_);refine Sf ?_;refine S As (nil ?_);exact rt hE
     refine sk hK13 ?_;clear hK13 K13;refine region ?_;refine SI ?_;refine S Mv (nil ?_);exact hK7 _ (n7,(s11_8+1),y9_l0) Weak.toA hE (Nat.lt_succ_self _)
    refine AWp.exit ?_;exact hK2 _ y9_l0 Weak.toA hE
 rintro y3_l0 hE;try dsimp only at hE
 unfold Z114_j2 at hE;refine seqR (S BU ?_);refine Sf ?_;refine S As (nil ?_);exact rt hE
def Z125_j2  (y3_c3:(List Bs)):Option (Bool×(List Bs)):=some (false,y3_c3)
def Z125_j13 (s14_8:Nat) (k_next_7:Nat->(List Bs)->Option (Bool×(List Bs))) (y14_c3:(List Bs)):Option (Bool×(List Bs)):=k_next_7 (s14_8+1) y14_c3
def Z125_l7 (a0:TDef) (a1:TDef) (a2:Z3) (k_rec_118:TDef->TDef->Z3->(List Bs)->Option (Bool×(List Bs))):Nat->Nat->(List Bs)->Option (Bool×(List Bs))
 | 0,_,_=>none
 | n7+1,s14_8,y9_c3=>bif (decide (((s14_8:Nat):Int)<((a0.FInputs.l.length:Nat):Int))) then((a0.FInputs.l[s14_8]?).bind fun x16=>guardO (!(!decide (((x16.FType.FWraps.l.length:Nat):Int)=(1:Int)))) (x16.FType.FWraps.l[0]?) (0:Int) fun x20=>bif ((!decide (((x16.FType.FWraps.l.length:Nat):Int)=(1:Int)))||(!decide (x20=(1:Int)))) then(Z125_j13 s14_8 ((Z125_l7 a0 a1 a2 k_rec_118 n7)) y9_c3) else(bif ((x16.FType.FName==a1.FName)) then(some (true,y9_c3)) else((Z114 a2.Fd x16.FType.FName).bind fun x27=>bif ((x27.2&&(decide (x27.1.FKind=(5:Int))))&&(!(y9_c3.contains x27.1.FName))) then((k_rec_118 x27.1 a1 a2 (insS y9_c3 x27.1.FName)).bind fun x32=>bif x32.1 then(some (true,x32.2)) else(Z125_j13 s14_8 ((Z125_l7 a0 a1 a2 k_rec_118 n7)) x32.2)) else(Z125_j13 s14_8 ((Z125_l7 a0 a1 a2 k_rec_118 n7)) y9_c3)))) else(Z125_j2   y9_c3)
def Z125_n:Nat->TDef->TDef->Z3->(List Bs)->Option (Bool×(List Bs))
 | 0,_,_,_,_=>none
 | n+1,a0,a1,a2,a3=>Z125_l7 a0 a1 a2 (Z125_n n) (a0.FInputs.l.length+1) 0 a3
theorem Z125_step (n:Nat) (ih_118:∀{a0 a1:TDef}{a2:Z3}{a3:List Bs}{q2_1:Option Nat}{c2 c3 c4:Nat}{r:(Bool×(List Bs))},Z125_n n a0 a1 a2 a3=some r->∀(H:Heap) (hc2:H c2=some (.cells (Z3.cg q2_1 a2))) (hc3:H c3=some (.map (seenM a3))) (hc4:H c4=some (.cells [.func 118 [.view (TDef.c a1),.view [.ptr c2 0],.view [.map c3],.ptr c4 0]])),ACalls Tryz.prog 118 [.agg (TDef.c a0),.d (.view (TDef.c a1)),.d (.view [.ptr c2 0]),.d (.view [.map c3]),.d (.ptr c4 0)] H fun v h'=>v=.a (.d (.bool r.1))/\h'=(H.set c3 (some (.map (seenM r.2))))):∀{a0 a1:TDef}{a2:Z3}{a3:List Bs}{q2_1:Option Nat}{c2 c3 c4:Nat}{r:(Bool×(List Bs))},Z125_n (n+1) a0 a1 a2 a3=some r->∀(H:Heap) (hc2:H c2=some (.cells (Z3.cg q2_1 a2))) (hc3:H c3=some (.map (seenM a3))) (hc4:H c4=some (.cells [.func 118 [.view (TDef.c a1),.view [.ptr c2 0],.view [.map c3],.ptr c4 0]])),ACalls Tryz.prog 118 [.agg (TDef.c a0),.d (.view (TDef.c a1)),.d (.view [.ptr c2 0]),.d (.view [.map c3]),.d (.ptr c4 0)] H fun v h'=>v=.a (.d (.bool r.1))/\h'=(H.set c3 (some (.map (seenM r.2)))):=by
 intro a0 a1 a2 a3 q2_1 c2 c3 c4 r hE H hc2 hc3 hc4;rw [Z125_n] at hE;refine ACalls.oW 68 [.tmp 6] Tryz.call118 Tryz.func118 ?_;have ne_c3_c2:c3≠c2:=fun e_=>by subst e_; simp_all
 have ne_c4_c3:c4≠c3:=fun e_=>by subst e_; simp_all
 refine AWp.heqA (h':=(H.set c3 (some (.map (seenM a3))))) (by funext n_; simp only [Heap.set]; (repeat' split)<;>simp_all) ?_;refine seqR (S BX (S As (nil ?_)));refine seqJH KeepsT.nil (fun(z:(List Bs))=>[]) (fun z=>(H.set c3 (some (.map (seenM z))))) (fun z=>Z125_j2 z=some r) ?_ ?_
 ·intro K2 hK2;refine seqR (S Fv (S Ld ?_));refine sLen (f:=Z7.c) (s:=a0.FInputs) (TK rfl) rfl rfl rfl rfl fun hL6=>?_;refine S Mv (nil ?_);refine block ?_;refine loopH (TA 1 (TA 2 (TA 3 (TA 4 (TA 12 (TA 13 KeepsT.nil)))))) (fun(z:Nat×Nat×(List Bs))=>[(14,.a (.d (.int .i64 ((z.2.1:Nat):Int))))]) (fun z=>(H.set c3 (some (.map (seenM z.2.2))))) (fun z=>z.1) (fun z=>Z125_l7 a0 a1 a2 (Z125_n n) z.1 z.2.1 z.2.2=some r) ((a0.FInputs.l.length+1),0,a3) hE Weak.toA ?_
  rintro ⟨n7,s14_8,y9_c3⟩ hE K7 hK7;try dsimp only at hE
  cases n7 with
  | zero=>cases hE
  | succ n7 =>
    rw [Z125_l7] at hE;refine seqR (S BI (nil ?_));refine seqK fun K11 hK11=>?_;refine cE hE (fun hc12 hE=>?_) (fun hc12 hE=>?_)
    ·try dsimp only at hc12
     have hf12:=of_decide_eq_true hc12;refine sk hK11 ?_;clear hK11 K11;refine seqJH (TA 1 (TA 2 (TA 3 (TA 4 (TA 12 (TA 13 (TA 14 KeepsT.nil))))))) (fun(z:(List Bs))=>[]) (fun z=>(H.set c3 (some (.map (seenM z))))) (fun z=>Z125_j13 s14_8 ((Z125_l7 a0 a1 a2 (Z125_n n) n7)) z=some r) ?_ ?_
     ·intro K13 hK13;refine block ?_;refine seqR ?_;obtain⟨x16,gx16,hE⟩:=bO hE;refine S (ix Z7.c s14_8 gx16) (S Ld ?_);refine Sl ?_;refine Sf ?_;refine nil ?_;refine freezeA 8 _ rfl (KA 1 (KA 2 (KA 3 (KA 4 (KA 12 (KA 13 (KA 14 Keeps.nil))))))) ?_;refine seqK fun K17 hK17=>?_;refine seqR (S Fv (S Fv (S Ld ?_)));refine sLen (f:=(intE .i64)) (s:=x16.FType.FWraps) (TK rfl) rfl rfl rfl rfl fun hL19=>?_
      refine S BI (S Mv (G0 Fv ?_));refine G1 24 rfl Fv ?_;refine G1 25 rfl Ld ?_;obtain⟨x20,gx20,hE⟩:=gO hE;refine gC rfl rfl (fun hC=>ungdA (k:=26) rfl (idxMn (f:=(intE .i64)) (n:=0) (TK rfl) rfl (TK rfl) rfl rfl rfl (gx20 hC))) rfl ?_;refine G1 27 rfl Ld ?_;refine G1 28 rfl BI ?_;refine S PO (nil ?_);refine cE hE (fun hc21 hE=>?_) (fun hc21 hE=>?_)
      ·refine AWp.exit ?_;exact hK13 _ y9_c3 Weak.toA hE
      refine sk hK17 ?_;clear hK17 K17;refine seqK fun K22 hK22=>?_;refine seqR (S Fv (S Fv (S Ld (S Fv (S Ld (S BS (nil ?_)))))));refine cE hE (fun hc24 hE=>?_) (fun hc24 hE=>?_)
      ·refine seqR (S As (nil ?_));exact rt hE
      refine sk hK22 ?_;clear hK22 K22;refine AWp.seqD (Sd Ld (Sd NP ?_));refine DOps.s0 (fieldP (TK rfl) rfl rfl (TK rfl) rfl rfl) rfl ?_;refine DOps.s0 (loadP (TK rfl) rfl rfl hpG rfl) rfl ?_;refine Sd Fv (Sd Fv (Sd Ld ?_));obtain⟨x27,gx27,hE⟩:=bO hE;refine Scd rfl rfl (Z114_walk gx27) ?_;refine Sd Mv (Sd EX (Sd EX ?_));refine DOps.sB (TK rfl) rfl rfl ?_ (by repeat (first|exact Snoc.nil|apply Snoc.cons))
      refine DOps.sLn (storeLFA (TK rfl) rfl rfl rfl rfl rfl) ?_;refine Sd As ?_;refine DOps.nil (by decide +kernel) ?_;refine freezeA 9 _ rfl (KA 1 (KA 2 (KA 3 (KA 4 (KA 10 (KA 12 (KA 13 (KA 14 Keeps.nil)))))))) ?_;refine seqR (S Mv (S Mv (G0 Fv ?_)));refine G1 50 rfl Ld ?_;refine G1 51 rfl BI ?_;refine S PA (S Mv (G0 Ld (G0 Fv ?_)));refine G1 56 rfl Ld ?_;refine gC rfl rfl (fun hC=>ungdA (k:=55) rfl (ungdA (k:=57) rfl (lookupSeen (TK rfl) rfl (TK rfl) (TK rfl) rfl rfl rfl rfl hpG))) rfl ?_
      refine G1 58 rfl NB ?_;refine S PA (nil ?_);refine cE hE (fun hc29 hE=>?_) (fun hc29 hE=>?_)
      ·refine seqR (S Ld (S Fv (S Ld ?_)));refine sHn (mapUpdate (TK rfl) rfl (TK rfl) rfl rfl rfl rfl hpG (seen_upd _ _) rfl) rfl rfl ?_;refine hq (H.set c3 (some (.map (seenM (insS y9_c3 x27.1.FName))))) ?_;refine nil ?_;refine seqR ?_;refine s0 (loadP (TK rfl) rfl rfl hpG rfl) rfl ?_;refine S Ld ?_;obtain⟨x32,gx32,hE⟩:=bO hE;refine sH (callH rfl rfl (ih_118 gx32 _ hpG hpG hpG)) rfl ?_;refine hq (H.set c3 (some (.map (seenM x32.2)))) ?_
       refine nil ?_;refine cE hE (fun hc33 hE=>?_) (fun hc33 hE=>?_)
       ·refine seqR (S As (nil ?_));exact rt hE
       refine AWp.skip ?_;exact hK13 _ x32.2 Weak.toA hE
      refine AWp.skip ?_;exact hK13 _ y9_c3 Weak.toA hE
     rintro y14_c3 hE;try dsimp only at hE
     unfold Z125_j13 at hE;refine region ?_;refine SI ?_;refine S Mv (nil ?_);exact hK7 _ (n7,(s14_8+1),y14_c3) Weak.toA hE (Nat.lt_succ_self _)
    refine AWp.exit ?_;exact hK2 _ y9_c3 Weak.toA hE
 rintro y3_c3 hE;try dsimp only at hE
 unfold Z125_j2 at hE;refine seqR (S As (nil ?_));exact rt hE
theorem Z125_all:∀(n:Nat),(∀{a0 a1:TDef}{a2:Z3}{a3:List Bs}{q2_1:Option Nat}{c2 c3 c4:Nat}{r:(Bool×(List Bs))},Z125_n n a0 a1 a2 a3=some r->∀(H:Heap) (hc2:H c2=some (.cells (Z3.cg q2_1 a2))) (hc3:H c3=some (.map (seenM a3))) (hc4:H c4=some (.cells [.func 118 [.view (TDef.c a1),.view [.ptr c2 0],.view [.map c3],.ptr c4 0]])),ACalls Tryz.prog 118 [.agg (TDef.c a0),.d (.view (TDef.c a1)),.d (.view [.ptr c2 0]),.d (.view [.map c3]),.d (.ptr c4 0)] H fun v h'=>v=.a (.d (.bool r.1))/\h'=(H.set c3 (some (.map (seenM r.2)))))
 | 0=>fun hE=>by first|cases hE|(rw [Z125_n] at hE; cases hE)
 | n+1=>Z125_step n (Z125_all n)
def Z125 (a0:TDef) (a1:TDef) (a2:Z3) (a3:(List Bs)):Option (Bool×(List Bs)):=Z125_n F0 a0 a1 a2 a3
theorem Z125_walk {a0 a1:TDef}{a2:Z3}{a3:List Bs}{q2_1:Option Nat}{c2 c3 c4:Nat}{r:(Bool×(List Bs))}(hE:Z125 a0 a1 a2 a3=some r) (H:Heap) (hc2:H c2=some (.cells (Z3.cg q2_1 a2))) (hc3:H c3=some (.map (seenM a3))) (hc4:H c4=some (.cells [.func 118 [.view (TDef.c a1),.view [.ptr c2 0],.view [.map c3],.ptr c4 0]])):ACalls Tryz.prog 118 [.agg (TDef.c a0),.d (.view (TDef.c a1)),.d (.view [.ptr c2 0]),.d (.view [.map c3]),.d (.ptr c4 0)] H fun v h'=>v=.a (.d (.bool r.1))/\h'=(H.set c3 (some (.map (seenM r.2)))):=(Z125_all F0) hE H hc2 hc3 hc4
def Z124 (a0:Z3) (a1:TDef):Option Bool:=(Z125 a1 a1 a0 ([]:List Bs)).bind fun x8=>some x8.1
theorem Z124_walk {a0:Z3}{a1:TDef}{q0_1:Option Nat}{c0:Nat}{r:Bool}(hE:Z124 a0 a1=some r) (H:Heap) (hc0:H c0=some (.cells (Z3.cg q0_1 a0))):ACalls Tryz.prog 72 [.d (.ptr c0 0),.agg (TDef.c a1)] H fun v h'=>v=.a (.d (.bool r))/\h'=H:=by
 unfold Z124 at hE;refine ACalls.oW 12 [.tmp 4] Tryz.call72 Tryz.func72 ?_;refine seqR (S BX (S BX (S As (nil ?_))));refine seqR ?_;refine sE StepE.makeMap rfl (fun _ _ _ ⟨id7_3,hid7_3,e1,e2,e3⟩=>?_); subst e1 e2 e3;have ne_id7_3_c0:id7_3≠c0:=fun e_=>by subst e_; simp_all
 refine hq (H.set id7_3 (some (.map (seenM ([]:List Bs))))) ?_;refine Sl ?_;refine Sf ?_;refine nil ?_;refine freezeA 5 _ rfl (KA 2 (KA 3 Keeps.nil)) ?_;refine seqR ?_;refine sE (StepE.allocO (TK rfl) rfl) rfl (fun _ _ _ ⟨id6_5,hid6_5,e1,e2,e3⟩=>?_); subst e1 e2 e3;obtain⟨ne_id6_5_id7_3,hid6_5⟩:=Heap.set_fresh hid6_5;have ne_id6_5_c0:id6_5≠c0:=fun e_=>by subst e_; simp_all
 refine hq ((H.set id7_3 (some (.map (seenM ([]:List Bs))))).set id6_5 (some (.cells [.nilFunc]))) ?_;refine nil ?_;refine seqR ?_;refine s0 (makeFunc rfl) rfl ?_;refine sHn (storeP1 (TK rfl) rfl rfl hpG rfl (by repeat (first|exact SetAt.zero|apply SetAt.succ))) rfl rfl ?_;refine hq ((H.set id7_3 (some (.map (seenM ([]:List Bs))))).set id6_5 (some (.cells [.func 118 [.view (TDef.c a1),.view [.ptr c0 0],.view [.map id7_3],.ptr id6_5 0]]))) ?_
 refine nil ?_;refine seqR ?_;refine s0 (loadP (TK rfl) rfl rfl hpG rfl) rfl ?_;refine S Ld ?_;obtain⟨x8,gx8,hE⟩:=bO hE;refine sH (callH rfl rfl (Z125_walk gx8 _ hpG hpG hpG)) rfl ?_;refine hq ((H.set id7_3 (some (.map (seenM x8.2)))).set id6_5 (some (.cells [.func 118 [.view (TDef.c a1),.view [.ptr c0 0],.view [.map id7_3],.ptr id6_5 0]]))) ?_;refine S As (nil ?_);refine AWp.ret ?_;repeat (first|refine xBlock_ret ?_|refine xThen_ret ?_)
 obtain rfl:=Option.some.inj hE;refine retQ.retF H rfl ⟨rfl,rfl⟩ ?_;intro id_ o_ he_;have e_id7_3:id_≠id7_3:=fun e_=>by subst e_; simp_all [Heap.set]
 have e_id6_5:id_≠id6_5:=fun e_=>by subst e_; simp_all [Heap.set]
 rw [<- he_];simp only [Heap.set] at he_ ⊢
 (repeat' split)<;>simp_all
def Z127 (a0:Z3) (a1:Bs) (a2:Bs) (a3:(List Bs)):Option (Z3×(List Bs)):=(Z140 a1).bind fun x2=>guardO (!(!x2)) (Z141 a1) false fun x3=>(Z120 a0 ((!x2)||x3) (6:Int) a2).bind fun x4=>(Z120 x4 (a3.contains a1) (7:Int) a2).bind fun x6=>some (x6,(insS a3 a1))
theorem Z127_walk {a0:Z3}{a1 a2:Bs}{a3:List Bs}{c0 c0_1 c3:Nat}{r:(Z3×(List Bs))}(hE:Z127 a0 a1 a2 a3=some r) (H:Heap) (hc0:H c0=some (.cells (Z3.cg (some c0_1) a0))) (ht0_1:H c0_1=some (.tok 2 a0.Ffaults.l.length)) (hc3:H c3=some (.map (seenM a3))):ACalls Tryz.prog 119 [.d (.ptr c0 0),.d (.str a1),.d (.str a2),.d (.map c3)] H fun v h'=>v=.tup []/\h'=(((H.set c0_1 (some (.tok 2 r.1.Ffaults.l.length))).set c0 (some (.cells (Z3.cg (some c0_1) r.1)))).set c3 (some (.map (seenM r.2)))):=by
 unfold Z127 at hE;refine ACalls.oW 26 [] Tryz.call119 Tryz.func119 ?_;have ne_c0_c0_1:c0≠c0_1:=fun e_=>by subst e_; simp_all
 have ne_c3_c0_1:c3≠c0_1:=fun e_=>by subst e_; simp_all
 have ne_c3_c0:c3≠c0:=fun e_=>by subst e_; simp_all
 refine AWp.heqA (h':=(((H.set c0_1 (some (.tok 2 a0.Ffaults.l.length))).set c0 (some (.cells (Z3.cg (some c0_1) a0)))).set c3 (some (.map (seenM a3))))) (by funext n_; simp only [Heap.set]; (repeat' split)<;>simp_all) ?_;refine seqR (S Mv (S Mv ?_));obtain⟨x2,gx2,hE⟩:=bO hE;refine Sc rfl rfl (Z140_walk gx2) ?_;refine S NB (S Mv (G0 Mv ?_));obtain⟨x3,gx3,hE⟩:=gO hE;refine Gc1 13 rfl rfl rfl rfl rfl (fun hC=>Z141_walk (gx3 hC)) ?_
 refine S PO (S Mv ?_);obtain⟨x4,gx4,hE⟩:=bO hE;refine sH (callH rfl rfl (Z120_walk gx4 _ hpG hpG)) rfl ?_;refine hq (((H.set c0_1 (some (.tok 2 x4.Ffaults.l.length))).set c0 (some (.cells (Z3.cg (some c0_1) x4)))).set c3 (some (.map (seenM a3)))) ?_;refine nil ?_;refine seqR (S Mv (S Mv (S Mv ?_)));refine s0 (lookupSeen (TK rfl) rfl (TK rfl) (TK rfl) rfl rfl rfl rfl hpG) rfl ?_;refine S Mv ?_;obtain⟨x6,gx6,hE⟩:=bO hE
 refine sH (callH rfl rfl (Z120_walk gx6 _ hpG hpG)) rfl ?_;refine hq (((H.set c0_1 (some (.tok 2 x6.Ffaults.l.length))).set c0 (some (.cells (Z3.cg (some c0_1) x6)))).set c3 (some (.map (seenM a3)))) ?_;refine nil ?_;refine region ?_;refine S Mv (S Mv ?_);refine sHn (mapUpdate (TK rfl) rfl (TK rfl) rfl rfl rfl rfl hpG (seen_upd _ _) rfl) rfl rfl ?_;refine hq (((H.set c0_1 (some (.tok 2 x6.Ffaults.l.length))).set c0 (some (.cells (Z3.cg (some c0_1) x6)))).set c3 (some (.map (seenM (insS a3 a1))))) ?_
 refine nil ?_;repeat (first|refine xBlock_normal ?_|refine xThen_exit ?_|refine xBlock_exit ?_)
 obtain rfl:=Option.some.inj hE;refine retQ.normalF (((H.set c0_1 (some (.tok 2 x6.Ffaults.l.length))).set c0 (some (.cells (Z3.cg (some c0_1) x6)))).set c3 (some (.map (seenM (insS a3 a1))))) (xs:=[]) rfl ⟨rfl,rfl⟩ ?_;exact(fun _ _ h=>h)
def Z129 (a0:TDoc) (a1:Bs):Option Int:=(Z114 a0 a1).bind fun x3=>some x3.1.FKind
theorem Z129_walk {a0:TDoc}{a1:Bs}{r:Int}(hE:Z129 a0 a1=some r) (H:Heap) :ACalls Tryz.prog 102 [.agg (TDoc.c a0),.d (.str a1)] H fun v h'=>v=.a (.d (.int .i64 r))/\h'=H:=by
 unfold Z129 at hE;refine ACalls.oW 15 [.tmp 4] Tryz.call102 Tryz.func102 ?_;refine seqR (S BX (S As (nil ?_)));refine seqR (S Ld (S Mv ?_));obtain⟨x3,gx3,hE⟩:=bO hE;refine Sc rfl rfl (Z114_walk gx3) ?_;refine S Mv (S EX (S EX ?_));refine Sl ?_;refine Sf ?_;refine S As (nil ?_);refine freezeA 5 _ rfl Keeps.nil ?_;refine seqR (S Fv (S Ld (S As (nil ?_))));exact rt hE
def Z117 (a0:TDoc) (a1:Bs):Option Bool:=(Z119 a1).bind fun x3=>guardO (!x3) (Z129 a0 a1) (0:Int) fun x4=>some (x3||(decide (x4=(4:Int))))
theorem Z117_walk {a0:TDoc}{a1:Bs}{r:Bool}(hE:Z117 a0 a1=some r) (H:Heap) :ACalls Tryz.prog 127 [.agg (TDoc.c a0),.d (.str a1)] H fun v h'=>v=.a (.d (.bool r))/\h'=H:=by
 unfold Z117 at hE;refine ACalls.oW 13 [.tmp 4] Tryz.call127 Tryz.func127 ?_;refine seqR (S BX (S As (nil ?_)));refine seqR (S Mv ?_);obtain⟨x3,gx3,hE⟩:=bO hE;refine Sc rfl rfl (Z119_walk gx3) ?_;refine S Mv (G0 Ld (G0 Mv ?_));obtain⟨x4,gx4,hE⟩:=gO hE;refine Gc2 8 9 rfl rfl rfl rfl rfl rfl (fun hC=>Z129_walk (gx4 hC)) ?_;refine G1 10 rfl BI ?_;refine S PO (S As (nil ?_));exact rt hE
def Z116 (a0:TDoc) (a1:Bs):Option Bool:=(Z117 a0 a1).bind fun x3=>guardO (!x3) (Z129 a0 a1) (0:Int) fun x4=>some (x3||(decide (x4=(5:Int))))
theorem Z116_walk {a0:TDoc}{a1:Bs}{r:Bool}(hE:Z116 a0 a1=some r) (H:Heap) :ACalls Tryz.prog 80 [.agg (TDoc.c a0),.d (.str a1)] H fun v h'=>v=.a (.d (.bool r))/\h'=H:=by
 unfold Z116 at hE;refine ACalls.oW 14 [.tmp 4] Tryz.call80 Tryz.func80 ?_;refine seqR (S BX (S As (nil ?_)));refine seqR (S Ld (S Mv ?_));obtain⟨x3,gx3,hE⟩:=bO hE;refine Sc rfl rfl (Z117_walk gx3) ?_;refine S Mv (G0 Ld (G0 Mv ?_));obtain⟨x4,gx4,hE⟩:=gO hE;refine Gc2 9 10 rfl rfl rfl rfl rfl rfl (fun hC=>Z129_walk (gx4 hC)) ?_;refine G1 11 rfl BI ?_;refine S PO (S As (nil ?_));exact rt hE
def Z128 (a0:Z3) (a1:Bs) (a2:Bs) (a3:Int):Option Z3:=(Z114 a0.Fd a1).bind fun x2=>guardO ((!x2.2)) (Z119 a1) false fun x4=>bif ((!x2.2)&&(!x4)) then((Z120 a0 true (8:Int) a2).bind fun x6=>some x6) else(bif (decide (a3=(0:Int))) then((Z119 a1).bind fun x9=>guardO ((!x9)) (Z129 a0.Fd a1) (0:Int) fun x10=>(Z120 a0 ((!x9)&&(decide (x10=(5:Int)))) (10:Int) a2).bind fun x11=>some x11) else((Z116 a0.Fd a1).bind fun x12=>(Z120 a0 (!x12) (10:Int) a2).bind fun x13=>some x13))
theorem Z128_walk {a0:Z3}{a1 a2:Bs}{a3:Int}{c0 c0_1:Nat}{r:Z3}(hE:Z128 a0 a1 a2 a3=some r) (H:Heap) (hc0:H c0=some (.cells (Z3.cg (some c0_1) a0))) (ht0_1:H c0_1=some (.tok 2 a0.Ffaults.l.length)):ACalls Tryz.prog 120 [.d (.ptr c0 0),.d (.str a1),.d (.str a2),.d (.int .i64 a3)] H fun v h'=>v=.tup []/\h'=((H.set c0_1 (some (.tok 2 r.Ffaults.l.length))).set c0 (some (.cells (Z3.cg (some c0_1) r)))):=by
 unfold Z128 at hE;refine ACalls.oW 58 [] Tryz.call120 Tryz.func120 ?_;have ne_c0_c0_1:c0≠c0_1:=fun e_=>by subst e_; simp_all
 refine AWp.heqA (h':=((H.set c0_1 (some (.tok 2 a0.Ffaults.l.length))).set c0 (some (.cells (Z3.cg (some c0_1) a0))))) (by funext n_; simp only [Heap.set]; (repeat' split)<;>simp_all) ?_;refine seqR (S Mv (S NP ?_));refine s0 (fieldP (TK rfl) rfl rfl (TK rfl) rfl rfl) rfl ?_;refine s0 (loadP (TK rfl) rfl rfl hpG rfl) rfl ?_;refine S Mv ?_;obtain⟨x2,gx2,hE⟩:=bO hE;refine Sc rfl rfl (Z114_walk gx2) ?_
 refine S Mv (S EX (S EX ?_));refine Sl ?_;refine Sf ?_;refine S As (nil ?_);refine freezeA 8 _ rfl (KA 0 (KA 1 (KA 2 (KA 3 (KA 9 Keeps.nil))))) ?_;refine block ?_;refine seqR (S Mv (S NB (S Mv (G0 Mv ?_))));obtain⟨x4,gx4,hE⟩:=gO hE;refine Gc1 33 rfl rfl rfl rfl rfl (fun hC=>Z119_walk (gx4 hC)) ?_;refine G1 34 rfl NB ?_;refine S PA (S As (nil ?_));refine cE hE (fun hc5 hE=>?_) (fun hc5 hE=>?_)
 ·refine region ?_;refine S Mv (S Mv ?_);obtain⟨x6,gx6,hE⟩:=bO hE;refine sH (callH rfl rfl (Z120_walk gx6 _ hpG hpG)) rfl ?_;refine hq ((H.set c0_1 (some (.tok 2 x6.Ffaults.l.length))).set c0 (some (.cells (Z3.cg (some c0_1) x6)))) ?_;refine nil ?_;repeat (first|refine xBlock_normal ?_|refine xThen_exit ?_|refine xBlock_exit ?_)
  obtain rfl:=Option.some.inj hE;refine retQ.normalF ((H.set c0_1 (some (.tok 2 x6.Ffaults.l.length))).set c0 (some (.cells (Z3.cg (some c0_1) x6)))) (xs:=[]) rfl ⟨rfl,rfl⟩ ?_;exact(fun _ _ h=>h)
 refine seqR (S Mv (S BI (S As (nil ?_))));refine cE hE (fun hc8 hE=>?_) (fun hc8 hE=>?_)
 ·refine region ?_;refine S Mv (S Mv ?_);obtain⟨x9,gx9,hE⟩:=bO hE;refine Sc rfl rfl (Z119_walk gx9) ?_;refine S NB (S Mv (G0 Mv ?_));refine G1 48 rfl NP ?_;refine gC rfl rfl (fun hC=>ungdA (k:=49) rfl (fieldP (TK rfl) rfl rfl (TK rfl) rfl rfl)) rfl ?_;refine gC rfl rfl (fun hC=>ungdA (k:=50) rfl (loadP (TK rfl) rfl rfl hpG rfl)) rfl ?_;refine G0 Mv ?_;obtain⟨x10,gx10,hE⟩:=gO hE;refine Gc2 51 52 rfl rfl rfl rfl rfl rfl (fun hC=>Z129_walk (gx10 hC)) ?_
  refine G1 53 rfl BI ?_;refine S PA (S Mv ?_);obtain⟨x11,gx11,hE⟩:=bO hE;refine sH (callH rfl rfl (Z120_walk gx11 _ hpG hpG)) rfl ?_;refine hq ((H.set c0_1 (some (.tok 2 x11.Ffaults.l.length))).set c0 (some (.cells (Z3.cg (some c0_1) x11)))) ?_;refine nil ?_;repeat (first|refine xBlock_normal ?_|refine xThen_exit ?_|refine xBlock_exit ?_)
  obtain rfl:=Option.some.inj hE;refine retQ.normalF ((H.set c0_1 (some (.tok 2 x11.Ffaults.l.length))).set c0 (some (.cells (Z3.cg (some c0_1) x11)))) (xs:=[]) rfl ⟨rfl,rfl⟩ ?_;exact(fun _ _ h=>h)
 refine region ?_;refine S Mv (S Mv (S NP ?_));refine s0 (fieldP (TK rfl) rfl rfl (TK rfl) rfl rfl) rfl ?_;refine s0 (loadP (TK rfl) rfl rfl hpG rfl) rfl ?_;refine S Mv ?_;obtain⟨x12,gx12,hE⟩:=bO hE;refine Sc rfl rfl (Z116_walk gx12) ?_;refine S NB (S Mv ?_);obtain⟨x13,gx13,hE⟩:=bO hE;refine sH (callH rfl rfl (Z120_walk gx13 _ hpG hpG)) rfl ?_;refine hq ((H.set c0_1 (some (.tok 2 x13.Ffaults.l.length))).set c0 (some (.cells (Z3.cg (some c0_1) x13)))) ?_
 refine nil ?_;repeat (first|refine xBlock_normal ?_|refine xThen_exit ?_|refine xBlock_exit ?_)
 obtain rfl:=Option.some.inj hE;refine retQ.normalF ((H.set c0_1 (some (.tok 2 x13.Ffaults.l.length))).set c0 (some (.cells (Z3.cg (some c0_1) x13)))) (xs:=[]) rfl ⟨rfl,rfl⟩ ?_;exact(fun _ _ h=>h)
def Z123_l5 (a1:(Sl Z7)) (a2:Bs) (a3:Bs) :Nat->Nat->Z3->(List Bs)->Option Z3
 | 0,_,_,_=>none
 | n5+1,s15_6,y7_c0,y8_id12_2=>bif (decide (((s15_6:Nat):Int)<((a1.l.length:Nat):Int))) then((a1.l[s15_6]?).bind fun x14=>(catC a2 x14.FName).bind fun x16=>(catC x16 a3).bind fun x17=>(Z127 y7_c0 x14.FName x17 y8_id12_2).bind fun x19=>(Z128 x19.1 x14.FType.FName x17 (1:Int)).bind fun x20=>(Z123_l5 a1 a2 a3 n5) (s15_6+1) x20 x19.2) else(some y7_c0)
def Z123 (a0:Z3) (a1:(Sl Z7)) (a2:Bs) (a3:Bs):Option Z3:=Z123_l5 a1 a2 a3 (a1.l.length+1) 0 a0 ([]:List Bs)
theorem Z123_walk {a0:Z3}{a1:Sl Z7}{a2 a3:Bs}{w1:Option Nat}{c0 c0_1:Nat}{r:Z3}(hE:Z123 a0 a1 a2 a3=some r) (H:Heap) (hc0:H c0=some (.cells (Z3.cg (some c0_1) a0))) (ht0_1:H c0_1=some (.tok 2 a0.Ffaults.l.length)):ACalls Tryz.prog 75 [.d (.ptr c0 0),.d (Sl.d 10 Z7.c w1 a1),.d (.str a2),.d (.str a3)] H fun v h'=>v=.tup []/\h'=((H.set c0_1 (some (.tok 2 r.Ffaults.l.length))).set c0 (some (.cells (Z3.cg (some c0_1) r)))):=by
 unfold Z123 at hE;refine ACalls.oW 38 [] Tryz.call75 Tryz.func75 ?_;have ne_c0_c0_1:c0≠c0_1:=fun e_=>by subst e_; simp_all
 refine AWp.heqA (h':=((H.set c0_1 (some (.tok 2 a0.Ffaults.l.length))).set c0 (some (.cells (Z3.cg (some c0_1) a0))))) (by funext n_; simp only [Heap.set]; (repeat' split)<;>simp_all) ?_;refine seqR ?_;refine sE StepE.makeMap rfl (fun _ _ _ ⟨id12_2,hid12_2,e1,e2,e3⟩=>?_); subst e1 e2 e3;obtain⟨ne_id12_2_c0,hid12_2⟩:=Heap.set_fresh hid12_2;obtain⟨ne_id12_2_c0_1,hid12_2⟩:=Heap.set_fresh hid12_2;refine hq (((H.set c0_1 (some (.tok 2 a0.Ffaults.l.length))).set c0 (some (.cells (Z3.cg (some c0_1) a0)))).set id12_2 (some (.map (seenM ([]:List Bs))))) ?_
 refine S As (nil ?_);refine seqR (S Mv ?_);refine sLen (f:=Z7.c) (s:=a1) (TK rfl) rfl rfl rfl rfl fun hL4=>?_;refine S Mv (nil ?_);refine block ?_;refine loopH (TA 0 (TA 2 (TA 3 (TA 8 (TA 13 (TA 14 KeepsT.nil)))))) (fun(z:Nat×Nat×Z3×(List Bs))=>[(15,.a (.d (.int .i64 ((z.2.1:Nat):Int))))]) (fun z=>(((H.set c0_1 (some (.tok 2 z.2.2.1.Ffaults.l.length))).set c0 (some (.cells (Z3.cg (some c0_1) z.2.2.1)))).set id12_2 (some (.map (seenM z.2.2.2))))) (fun z=>z.1) (fun z=>Z123_l5 a1 a2 a3 z.1 z.2.1 z.2.2.1 z.2.2.2=some r) ((a1.l.length+1),0,a0,([]:List Bs)) hE Weak.toA ?_
 rintro ⟨n5,s15_6,y7_c0,y8_id12_2⟩ hE K5 hK5;try dsimp only at hE
 cases n5 with
 | zero=>cases hE
 | succ n5 =>
   rw [Z123_l5] at hE;refine seqR (S BI (nil ?_));refine seqK fun K10 hK10=>?_;refine cE hE (fun hc11 hE=>?_) (fun hc11 hE=>?_)
   ·try dsimp only at hc11
    have hf11:=of_decide_eq_true hc11;refine sk hK10 ?_;clear hK10 K10;refine seqK fun K12 hK12=>?_;refine block ?_;refine seqR ?_;obtain⟨x14,gx14,hE⟩:=bO hE;refine S (ix Z7.c s15_6 gx14) (S Ld ?_);refine Sl ?_;refine Sf ?_;refine nil ?_;refine freezeA 10 _ rfl (KA 0 (KA 2 (KA 3 (KA 8 (KA 13 (KA 14 (KA 15 Keeps.nil))))))) ?_;refine seqR (S Mv (S Fv (S Ld ?_)));obtain⟨x16,gx16,hE⟩:=bO hE;refine s0 (catM rfl rfl gx16) rfl ?_
    refine S Mv ?_;obtain⟨x17,gx17,hE⟩:=bO hE;refine s0 (catM rfl rfl gx17) rfl ?_;refine S As (nil ?_);refine seqR (S Mv (S Fv (S Ld (S Mv (S Mv ?_)))));obtain⟨x19,gx19,hE⟩:=bO hE;refine sH (callH rfl rfl (Z127_walk gx19 _ hpG hpG hpG)) rfl ?_;refine hq (((H.set c0_1 (some (.tok 2 x19.1.Ffaults.l.length))).set c0 (some (.cells (Z3.cg (some c0_1) x19.1)))).set id12_2 (some (.map (seenM x19.2)))) ?_
    refine nil ?_;refine region ?_;refine S Mv (S Fv (S Fv (S Ld (S Mv ?_))));obtain⟨x20,gx20,hE⟩:=bO hE;refine sH (callH rfl rfl (Z128_walk gx20 _ hpG hpG)) rfl ?_;refine hq (((H.set c0_1 (some (.tok 2 x20.Ffaults.l.length))).set c0 (some (.cells (Z3.cg (some c0_1) x20)))).set id12_2 (some (.map (seenM x19.2)))) ?_;refine nil ?_;refine hK12 _ ?_;clear hK12 K12;refine region ?_;refine SI ?_;refine S Mv (nil ?_)
    exact hK5 _ (n5,(s15_6+1),x20,x19.2) Weak.toA hE (Nat.lt_succ_self _)
   refine AWp.exit ?_;repeat (first|refine xBlock_normal ?_|refine xThen_exit ?_|refine xBlock_exit ?_)
   obtain rfl:=Option.some.inj hE;refine retQ.normalF ((H.set c0_1 (some (.tok 2 y7_c0.Ffaults.l.length))).set c0 (some (.cells (Z3.cg (some c0_1) y7_c0)))) (xs:=[]) rfl ⟨rfl,rfl⟩ ?_;intro id_ o_ he_;have e_id12_2:id_≠id12_2:=fun e_=>by subst e_; simp_all [Heap.set]
   rw [<- he_];simp only [Heap.set] at he_ ⊢
   (repeat' split)<;>simp_all
end Go.Proofs

namespace Go.Proofs
open Go Go.Ab
open AOps Cert AWp Keeps KeepsT
variable {lou:Lou}
def Z122_l6 (a1:TDef) :Nat->Nat->Z3->(List Bs)->Option Z3
 | 0,_,_,_=>none
 | n6+1,s12_7,y8_c0,y9_id8_3=>bif (decide (((s12_7:Nat):Int)<((a1.FFields.l.length:Nat):Int))) then((a1.FFields.l[s12_7]?).bind fun x15=>(catC a1.FName ([46]:Bs)).bind fun x17=>(catC x17 x15.FName).bind fun x18=>(Z127 y8_c0 x15.FName x18 y9_id8_3).bind fun x20=>(Z128 x20.1 x15.FType.FName x18 (0:Int)).bind fun x22=>(catC x18 ([40]:Bs)).bind fun x23=>(Z123 x22 x15.FArgs x23 ([41]:Bs)).bind fun x24=>(Z122_l6 a1 n6) (s12_7+1) x24 x20.2) else(some y8_c0)
def Z122 (a0:Z3) (a1:TDef):Option Z3:=Z122_l6 a1 (a1.FFields.l.length+1) 0 a0 ([]:List Bs)
theorem Z122_walk {a0:Z3}{a1:TDef}{c0 c0_1:Nat}{r:Z3}(hE:Z122 a0 a1=some r) (H:Heap) (hc0:H c0=some (.cells (Z3.cg (some c0_1) a0))) (ht0_1:H c0_1=some (.tok 2 a0.Ffaults.l.length)):ACalls Tryz.prog 73 [.d (.ptr c0 0),.agg (TDef.c a1)] H fun v h'=>v=.tup []/\h'=((H.set c0_1 (some (.tok 2 r.Ffaults.l.length))).set c0 (some (.cells (Z3.cg (some c0_1) r)))):=by
 unfold Z122 at hE;refine ACalls.oW 41 [] Tryz.call73 Tryz.func73 ?_;have ne_c0_c0_1:c0≠c0_1:=fun e_=>by subst e_; simp_all
 refine AWp.heqA (h':=((H.set c0_1 (some (.tok 2 a0.Ffaults.l.length))).set c0 (some (.cells (Z3.cg (some c0_1) a0))))) (by funext n_; simp only [Heap.set]; (repeat' split)<;>simp_all) ?_;refine seqR (S BX (nil ?_));refine seqR ?_;refine sE StepE.makeMap rfl (fun _ _ _ ⟨id8_3,hid8_3,e1,e2,e3⟩=>?_); subst e1 e2 e3;obtain⟨ne_id8_3_c0,hid8_3⟩:=Heap.set_fresh hid8_3;obtain⟨ne_id8_3_c0_1,hid8_3⟩:=Heap.set_fresh hid8_3
 refine hq (((H.set c0_1 (some (.tok 2 a0.Ffaults.l.length))).set c0 (some (.cells (Z3.cg (some c0_1) a0)))).set id8_3 (some (.map (seenM ([]:List Bs))))) ?_;refine S As (nil ?_);refine seqR (S Fv (S Ld ?_));refine sLen (f:=Z5.c) (s:=a1.FFields) (TK rfl) rfl rfl rfl rfl fun hL5=>?_;refine S Mv (nil ?_);refine block ?_;refine loopH (TA 0 (TA 3 (TA 4 (TA 10 (TA 11 KeepsT.nil))))) (fun(z:Nat×Nat×Z3×(List Bs))=>[(12,.a (.d (.int .i64 ((z.2.1:Nat):Int))))]) (fun z=>(((H.set c0_1 (some (.tok 2 z.2.2.1.Ffaults.l.length))).set c0 (some (.cells (Z3.cg (some c0_1) z.2.2.1)))).set id8_3 (some (.map (seenM z.2.2.2))))) (fun z=>z.1) (fun z=>Z122_l6 a1 z.1 z.2.1 z.2.2.1 z.2.2.2=some r) ((a1.FFields.l.length+1),0,a0,([]:List Bs)) hE Weak.toA ?_
 rintro ⟨n6,s12_7,y8_c0,y9_id8_3⟩ hE K6 hK6;try dsimp only at hE
 cases n6 with
 | zero=>cases hE
 | succ n6 =>
   rw [Z122_l6] at hE;refine seqR (S BI (nil ?_));refine seqK fun K11 hK11=>?_;refine cE hE (fun hc12 hE=>?_) (fun hc12 hE=>?_)
   ·try dsimp only at hc12
    have hf12:=of_decide_eq_true hc12;refine sk hK11 ?_;clear hK11 K11;refine seqK fun K13 hK13=>?_;refine block ?_;refine seqR ?_;obtain⟨x15,gx15,hE⟩:=bO hE;refine S (ix Z5.c s12_7 gx15) (S Ld ?_);refine Sl ?_;refine Sf ?_;refine nil ?_;refine freezeA 6 _ rfl (KA 0 (KA 3 (KA 4 (KA 10 (KA 11 (KA 12 Keeps.nil)))))) ?_;refine seqR (S Fv (S Ld ?_));obtain⟨x17,gx17,hE⟩:=bO hE;refine s0 (catM rfl rfl gx17) rfl ?_
    refine S Fv (S Ld ?_);obtain⟨x18,gx18,hE⟩:=bO hE;refine s0 (catM rfl rfl gx18) rfl ?_;refine S As (nil ?_);refine seqR (S Mv (S Fv (S Ld (S Mv (S Mv ?_)))));obtain⟨x20,gx20,hE⟩:=bO hE;refine sH (callH rfl rfl (Z127_walk gx20 _ hpG hpG hpG)) rfl ?_;refine hq (((H.set c0_1 (some (.tok 2 x20.1.Ffaults.l.length))).set c0 (some (.cells (Z3.cg (some c0_1) x20.1)))).set id8_3 (some (.map (seenM x20.2)))) ?_
    refine nil ?_;refine seqR (S Mv (S Fv (S Fv (S Ld (S Mv ?_)))));obtain⟨x22,gx22,hE⟩:=bO hE;refine sH (callH rfl rfl (Z128_walk gx22 _ hpG hpG)) rfl ?_;refine hq (((H.set c0_1 (some (.tok 2 x22.Ffaults.l.length))).set c0 (some (.cells (Z3.cg (some c0_1) x22)))).set id8_3 (some (.map (seenM x20.2)))) ?_;refine nil ?_;refine region ?_;refine S Mv (S Fv (S Ld (S Mv ?_)));obtain⟨x23,gx23,hE⟩:=bO hE
    refine s0 (catM rfl rfl gx23) rfl ?_;obtain⟨x24,gx24,hE⟩:=bO hE;refine sH (callH rfl rfl (Z123_walk gx24 _ hpG hpG)) rfl ?_;refine hq (((H.set c0_1 (some (.tok 2 x24.Ffaults.l.length))).set c0 (some (.cells (Z3.cg (some c0_1) x24)))).set id8_3 (some (.map (seenM x20.2)))) ?_;refine nil ?_;refine hK13 _ ?_;clear hK13 K13;refine region ?_;refine SI ?_;refine S Mv (nil ?_);exact hK6 _ (n6,(s12_7+1),x24,x20.2) Weak.toA hE (Nat.lt_succ_self _)
   refine AWp.exit ?_;repeat (first|refine xBlock_normal ?_|refine xThen_exit ?_|refine xBlock_exit ?_)
   obtain rfl:=Option.some.inj hE;refine retQ.normalF ((H.set c0_1 (some (.tok 2 y8_c0.Ffaults.l.length))).set c0 (some (.cells (Z3.cg (some c0_1) y8_c0)))) (xs:=[]) rfl ⟨rfl,rfl⟩ ?_;intro id_ o_ he_;have e_id8_3:id_≠id8_3:=fun e_=>by subst e_; simp_all [Heap.set]
   rw [<- he_];simp only [Heap.set] at he_ ⊢
   (repeat' split)<;>simp_all
def Z126_l6 (a1:TDef) :Nat->Nat->Z3->(List Bs)->Option Z3
 | 0,_,_,_=>none
 | n6+1,s13_7,y8_c0,y9_id9_3=>bif (decide (((s13_7:Nat):Int)<((a1.FMembers.l.length:Nat):Int))) then((a1.FMembers.l[s13_7]?).bind fun x15=>(catC a1.FName ([46]:Bs)).bind fun x17=>(catC x17 x15.FName).bind fun x18=>guardO (!((((x15.FName==([116,114,117,101]:Bs)))||((x15.FName==([102,97,108,115,101]:Bs))))||((x15.FName==([110,117,108,108]:Bs))))) (Z140 x15.FName) false fun x21=>guardO (!(((((x15.FName==([116,114,117,101]:Bs)))||((x15.FName==([102,97,108,115,101]:Bs))))||((x15.FName==([110,117,108,108]:Bs))))||(!x21))) (Z141 x15.FName) false fun x22=>(Z120 y8_c0 ((((((x15.FName==([116,114,117,101]:Bs)))||((x15.FName==([102,97,108,115,101]:Bs))))||((x15.FName==([110,117,108,108]:Bs))))||(!x21))||x22) (6:Int) x18).bind fun x23=>(Z120 x23 (y9_id9_3.contains x15.FName) (7:Int) x18).bind fun x25=>(Z126_l6 a1 n6) (s13_7+1) x25 (insS y9_id9_3 x15.FName)) else(some y8_c0)
def Z126 (a0:Z3) (a1:TDef):Option Z3:=Z126_l6 a1 (a1.FMembers.l.length+1) 0 a0 ([]:List Bs)
theorem Z126_walk {a0:Z3}{a1:TDef}{c0 c0_1:Nat}{r:Z3}(hE:Z126 a0 a1=some r) (H:Heap) (hc0:H c0=some (.cells (Z3.cg (some c0_1) a0))) (ht0_1:H c0_1=some (.tok 2 a0.Ffaults.l.length)):ACalls Tryz.prog 74 [.d (.ptr c0 0),.agg (TDef.c a1)] H fun v h'=>v=.tup []/\h'=((H.set c0_1 (some (.tok 2 r.Ffaults.l.length))).set c0 (some (.cells (Z3.cg (some c0_1) r)))):=by
 unfold Z126 at hE;refine ACalls.oW 62 [] Tryz.call74 Tryz.func74 ?_;have ne_c0_c0_1:c0≠c0_1:=fun e_=>by subst e_; simp_all
 refine AWp.heqA (h':=((H.set c0_1 (some (.tok 2 a0.Ffaults.l.length))).set c0 (some (.cells (Z3.cg (some c0_1) a0))))) (by funext n_; simp only [Heap.set]; (repeat' split)<;>simp_all) ?_;refine seqR (S BX (nil ?_));refine seqR ?_;refine sE StepE.makeMap rfl (fun _ _ _ ⟨id9_3,hid9_3,e1,e2,e3⟩=>?_); subst e1 e2 e3;obtain⟨ne_id9_3_c0,hid9_3⟩:=Heap.set_fresh hid9_3;obtain⟨ne_id9_3_c0_1,hid9_3⟩:=Heap.set_fresh hid9_3
 refine hq (((H.set c0_1 (some (.tok 2 a0.Ffaults.l.length))).set c0 (some (.cells (Z3.cg (some c0_1) a0)))).set id9_3 (some (.map (seenM ([]:List Bs))))) ?_;refine S As (nil ?_);refine seqR (S Fv (S Ld ?_));refine sLen (f:=Z8.c) (s:=a1.FMembers) (TK rfl) rfl rfl rfl rfl fun hL5=>?_;refine S Mv (nil ?_);refine block ?_;refine loopH (TA 0 (TA 3 (TA 4 (TA 11 (TA 12 KeepsT.nil))))) (fun(z:Nat×Nat×Z3×(List Bs))=>[(13,.a (.d (.int .i64 ((z.2.1:Nat):Int))))]) (fun z=>(((H.set c0_1 (some (.tok 2 z.2.2.1.Ffaults.l.length))).set c0 (some (.cells (Z3.cg (some c0_1) z.2.2.1)))).set id9_3 (some (.map (seenM z.2.2.2))))) (fun z=>z.1) (fun z=>Z126_l6 a1 z.1 z.2.1 z.2.2.1 z.2.2.2=some r) ((a1.FMembers.l.length+1),0,a0,([]:List Bs)) hE Weak.toA ?_
 rintro ⟨n6,s13_7,y8_c0,y9_id9_3⟩ hE K6 hK6;try dsimp only at hE
 cases n6 with
 | zero=>cases hE
 | succ n6 =>
   rw [Z126_l6] at hE;refine seqR (S BI (nil ?_));refine seqK fun K11 hK11=>?_;refine cE hE (fun hc12 hE=>?_) (fun hc12 hE=>?_)
   ·try dsimp only at hc12
    have hf12:=of_decide_eq_true hc12;refine sk hK11 ?_;clear hK11 K11;refine seqK fun K13 hK13=>?_;refine block ?_;refine seqR ?_;obtain⟨x15,gx15,hE⟩:=bO hE;refine S (ix Z8.c s13_7 gx15) (S Ld ?_);refine Sl ?_;refine Sf ?_;refine nil ?_;refine freezeA 6 _ rfl (KA 0 (KA 3 (KA 4 (KA 11 (KA 12 (KA 13 Keeps.nil)))))) ?_;refine seqR (S Fv (S Ld ?_));obtain⟨x17,gx17,hE⟩:=bO hE;refine s0 (catM rfl rfl gx17) rfl ?_
    refine S Fv (S Ld ?_);obtain⟨x18,gx18,hE⟩:=bO hE;refine s0 (catM rfl rfl gx18) rfl ?_;refine S As (nil ?_);refine seqR (S Fv (S Ld (S BS (S Mv (G0 Fv ?_)))));refine G1 27 rfl Ld ?_;refine G1 28 rfl BS ?_;refine S PO (S Mv (G0 Fv ?_));refine G1 32 rfl Ld ?_;refine G1 33 rfl BS ?_;refine S PO (S As (nil ?_));refine seqR (S Mv (S Mv (S Mv (G0 Fv ?_))));refine G1 39 rfl Ld ?_;obtain⟨x21,gx21,hE⟩:=gO hE
    refine Gc1 40 rfl rfl rfl rfl rfl (fun hC=>Z140_walk (gx21 hC)) ?_;refine G1 41 rfl NB ?_;refine S PO (S Mv (G0 Fv ?_));refine G1 45 rfl Ld ?_;obtain⟨x22,gx22,hE⟩:=gO hE;refine Gc1 46 rfl rfl rfl rfl rfl (fun hC=>Z141_walk (gx22 hC)) ?_;refine S PO (S Mv ?_);obtain⟨x23,gx23,hE⟩:=bO hE;refine sH (callH rfl rfl (Z120_walk gx23 _ hpG hpG)) rfl ?_;refine hq (((H.set c0_1 (some (.tok 2 x23.Ffaults.l.length))).set c0 (some (.cells (Z3.cg (some c0_1) x23)))).set id9_3 (some (.map (seenM y9_id9_3)))) ?_
    refine nil ?_;refine seqR (S Mv (S Mv (S Fv (S Ld ?_))));refine s0 (lookupSeen (TK rfl) rfl (TK rfl) (TK rfl) rfl rfl rfl rfl hpG) rfl ?_;refine S Mv ?_;obtain⟨x25,gx25,hE⟩:=bO hE;refine sH (callH rfl rfl (Z120_walk gx25 _ hpG hpG)) rfl ?_;refine hq (((H.set c0_1 (some (.tok 2 x25.Ffaults.l.length))).set c0 (some (.cells (Z3.cg (some c0_1) x25)))).set id9_3 (some (.map (seenM y9_id9_3)))) ?_;refine nil ?_
    refine region ?_;refine S Mv (S Fv (S Ld ?_));refine sHn (mapUpdate (TK rfl) rfl (TK rfl) rfl rfl rfl rfl hpG (seen_upd _ _) rfl) rfl rfl ?_;refine hq (((H.set c0_1 (some (.tok 2 x25.Ffaults.l.length))).set c0 (some (.cells (Z3.cg (some c0_1) x25)))).set id9_3 (some (.map (seenM (insS y9_id9_3 x15.FName))))) ?_;refine nil ?_;refine hK13 _ ?_;clear hK13 K13;refine region ?_;refine SI ?_;refine S Mv (nil ?_)
    exact hK6 _ (n6,(s13_7+1),x25,(insS y9_id9_3 x15.FName)) Weak.toA hE (Nat.lt_succ_self _)
   refine AWp.exit ?_;repeat (first|refine xBlock_normal ?_|refine xThen_exit ?_|refine xBlock_exit ?_)
   obtain rfl:=Option.some.inj hE;refine retQ.normalF ((H.set c0_1 (some (.tok 2 y8_c0.Ffaults.l.length))).set c0 (some (.cells (Z3.cg (some c0_1) y8_c0)))) (xs:=[]) rfl ⟨rfl,rfl⟩ ?_;intro id_ o_ he_;have e_id9_3:id_≠id9_3:=fun e_=>by subst e_; simp_all [Heap.set]
   rw [<- he_];simp only [Heap.set] at he_ ⊢
   (repeat' split)<;>simp_all
def Z121_j23 (a2:(List Bs)) (x2:TDef) (x21:Z3)  (s120_24:Bool):Option (Z3×(List Bs)):=bif s120_24 then((Z122 x21 x2).bind fun x26=>some (x26,(insS a2 x2.FName))) else(bif (decide (x2.FKind=(4:Int))) then((Z126 x21 x2).bind fun x29=>some (x29,(insS a2 x2.FName))) else(bif (decide (x2.FKind=(5:Int))) then((catC x2.FName ([46]:Bs)).bind fun x32=>(Z123 x21 x2.FInputs x32 ([]:Bs)).bind fun x33=>some (x33,(insS a2 x2.FName))) else(some (x21,(insS a2 x2.FName)))))
def Z121_j12 (a2:(List Bs)) (x2:TDef) (x9:Z3)  (s7_13:Bool):Option (Z3×(List Bs)):=(Z120 x9 s7_13 (8:Int) x2.FName).bind fun x15=>(Z120 x15 (((((((x2.FName==([81,117,101,114,121]:Bs)))||((x2.FName==([77,117,116,97,116,105,111,110]:Bs))))||((x2.FName==([83,117,98,115,99,114,105,112,116,105,111,110]:Bs))))&&(!decide (x2.FKind=(1:Int))))||(decide (x2.FKind<(1:Int))))||(decide ((5:Int)<x2.FKind))) (9:Int) x2.FName).bind fun x18=>guardO ((decide (x2.FKind=(5:Int)))) (Z124 x18 x2) false fun x20=>(Z120 x18 ((decide (x2.FKind=(5:Int)))&&x20) (5:Int) x2.FName).bind fun x21=>bif (decide (x2.FKind=(1:Int))) then(Z121_j23 a2 x2 x21  (decide (x2.FKind=(1:Int)))) else(Z121_j23 a2 x2 x21  (decide (x2.FKind=(2:Int))))
def Z121_j41 (a2:(List Bs)) (x2:TDef) (x9:Z3)  (s55_42:Bool):Option (Z3×(List Bs)):=bif s55_42 then(Z121_j12 a2 x2 x9  (decide (((x2.FMembers.l.length:Nat):Int)=(0:Int)))) else(bif (decide (x2.FKind=(5:Int))) then(Z121_j12 a2 x2 x9  (decide (((x2.FInputs.l.length:Nat):Int)=(0:Int)))) else(Z121_j12 a2 x2 x9  false))
def Z121_j37 (a2:(List Bs)) (x2:TDef) (x9:Z3)  (s48_38:Bool):Option (Z3×(List Bs)):=bif s48_38 then(Z121_j12 a2 x2 x9  (decide (((x2.FFields.l.length:Nat):Int)=(0:Int)))) else(bif (decide (x2.FKind=(3:Int))) then(Z121_j41 a2 x2 x9  (decide (x2.FKind=(3:Int)))) else(Z121_j41 a2 x2 x9  (decide (x2.FKind=(4:Int)))))
def Z121 (a0:Z3) (a1:Int) (a2:(List Bs)):Option (Z3×(List Bs)):=(idxC a0.Fd.FDefs.l a1).bind fun x2=>(Z140 x2.FName).bind fun x4=>guardO (!(!x4)) (Z141 x2.FName) false fun x5=>(Z120 a0 ((!x4)||x5) (6:Int) x2.FName).bind fun x6=>guardO (!(a2.contains x2.FName)) (Z119 x2.FName) false fun x8=>(Z120 x6 ((a2.contains x2.FName)||x8) (7:Int) x2.FName).bind fun x9=>bif (decide (x2.FKind=(1:Int))) then(Z121_j37 a2 x2 x9  (decide (x2.FKind=(1:Int)))) else(Z121_j37 a2 x2 x9  (decide (x2.FKind=(2:Int))))
theorem Z121_walk {a0:Z3}{a1:Int}{a2:List Bs}{c0 c0_1 c2:Nat}{r:(Z3×(List Bs))}(hE:Z121 a0 a1 a2=some r) (H:Heap) (hc0:H c0=some (.cells (Z3.cg (some c0_1) a0))) (ht0_1:H c0_1=some (.tok 2 a0.Ffaults.l.length)) (hc2:H c2=some (.map (seenM a2))):ACalls Tryz.prog 28 [.d (.ptr c0 0),.d (.int .i64 a1),.d (.map c2)] H fun v h'=>v=.tup []/\h'=(((H.set c0_1 (some (.tok 2 r.1.Ffaults.l.length))).set c0 (some (.cells (Z3.cg (some c0_1) r.1)))).set c2 (some (.map (seenM r.2)))):=by
 unfold Z121 at hE;refine ACalls.oW 140 [] Tryz.call28 Tryz.func28 ?_;have ne_c0_c0_1:c0≠c0_1:=fun e_=>by subst e_; simp_all
 have ne_c2_c0_1:c2≠c0_1:=fun e_=>by subst e_; simp_all
 have ne_c2_c0:c2≠c0:=fun e_=>by subst e_; simp_all
 refine AWp.heqA (h':=(((H.set c0_1 (some (.tok 2 a0.Ffaults.l.length))).set c0 (some (.cells (Z3.cg (some c0_1) a0)))).set c2 (some (.map (seenM a2))))) (by funext n_; simp only [Heap.set]; (repeat' split)<;>simp_all) ?_;refine seqR (S Mv (S NP ?_));refine s0 (fieldP (TK rfl) rfl rfl (TK rfl) rfl rfl) rfl ?_;refine s0 (fieldP (TK rfl) rfl rfl (TK rfl) rfl rfl) rfl ?_;refine s0 (loadP (TK rfl) rfl rfl hpG rfl) rfl ?_
 refine S Mv ?_;obtain⟨x2,gx2,hE⟩:=bO hE;refine s0 (idxM (f:=TDef.c) (TK rfl) rfl (TK rfl) rfl rfl rfl gx2) rfl ?_;refine S Ld ?_;refine Sl ?_;refine Sf ?_;refine nil ?_;refine freezeA 6 _ rfl (KA 0 (KA 2 Keeps.nil)) ?_;refine AWp.seqD (Sd Mv (Sd Fv (Sd Ld ?_)));obtain⟨x4,gx4,hE⟩:=bO hE;refine Scd rfl rfl (Z140_walk gx4) ?_;refine Sd NB (Sd Mv (G0d Fv ?_));refine G1d 23 rfl Ld ?_;obtain⟨x5,gx5,hE⟩:=gO hE
 refine Gc1d 24 rfl rfl rfl rfl rfl (fun hC=>Z141_walk (gx5 hC)) ?_;refine Sd PO (Sd Fv (Sd Ld ?_));obtain⟨x6,gx6,hE⟩:=bO hE;refine DOps.sH (callH rfl rfl (Z120_walk gx6 _ hpG hpG)) rfl ?_;refine DOps.Dh (((H.set c0_1 (some (.tok 2 x6.Ffaults.l.length))).set c0 (some (.cells (Z3.cg (some c0_1) x6)))).set c2 (some (.map (seenM a2)))) ?_;refine DOps.nil (by decide +kernel) ?_;refine AWp.seqD (Sd Mv (Sd Mv (Sd Fv (Sd Ld ?_))))
 refine DOps.s0 (lookupSeen (TK rfl) rfl (TK rfl) (TK rfl) rfl rfl rfl rfl hpG) rfl ?_;refine Sd Mv (G0d Fv ?_);refine G1d 36 rfl Ld ?_;obtain⟨x8,gx8,hE⟩:=gO hE;refine Gc1d 37 rfl rfl rfl rfl rfl (fun hC=>Z119_walk (gx8 hC)) ?_;refine Sd PO (Sd Fv (Sd Ld ?_));obtain⟨x9,gx9,hE⟩:=bO hE;refine DOps.sH (callH rfl rfl (Z120_walk gx9 _ hpG hpG)) rfl ?_;refine DOps.Dh (((H.set c0_1 (some (.tok 2 x9.Ffaults.l.length))).set c0 (some (.cells (Z3.cg (some c0_1) x9)))).set c2 (some (.map (seenM a2)))) ?_
 refine DOps.nil (by decide +kernel) ?_;refine seqR (S Mv (S Fv (S Ld ?_)));refine sHn (mapUpdate (TK rfl) rfl (TK rfl) rfl rfl rfl rfl hpG (seen_upd _ _) rfl) rfl rfl ?_;refine hq (((H.set c0_1 (some (.tok 2 x9.Ffaults.l.length))).set c0 (some (.cells (Z3.cg (some c0_1) x9)))).set c2 (some (.map (seenM (insS a2 x2.FName))))) ?_;refine nil ?_;refine seqR (S As (nil ?_));refine seqJH (TA 0 (TA 6 KeepsT.nil)) (fun(z:Bool)=>[(7,.a (.d (.bool z)))]) (fun z=>(((H.set c0_1 (some (.tok 2 x9.Ffaults.l.length))).set c0 (some (.cells (Z3.cg (some c0_1) x9)))).set c2 (some (.map (seenM (insS a2 x2.FName)))))) (fun z=>Z121_j12 a2 x2 x9 z=some r) ?_ ?_
 ·intro K12 hK12;refine seqR (S Fv (S Ld (nil ?_)));refine block ?_;refine seqJH (TA 0 (TA 6 (TA 7 (TA 47 KeepsT.nil)))) (fun(z:Bool)=>[(48,.a (.d (.bool z)))]) (fun z=>(((H.set c0_1 (some (.tok 2 x9.Ffaults.l.length))).set c0 (some (.cells (Z3.cg (some c0_1) x9)))).set c2 (some (.map (seenM (insS a2 x2.FName)))))) (fun z=>Z121_j37 a2 x2 x9 z=some r) ?_ ?_
  ·intro K37 hK37;refine seqR (S BI (S As (nil ?_)));refine cE hE (fun hc51 hE=>?_) (fun hc51 hE=>?_)
   ·refine AWp.skip ?_;exact hK37 _ (decide (x2.FKind=(1:Int))) Weak.toA hE
   refine region ?_;refine S BI (S As (nil ?_));exact hK37 _ (decide (x2.FKind=(2:Int))) Weak.toA hE
  rintro s48_38 hE;try dsimp only at hE
  unfold Z121_j37 at hE;refine cE hE (fun hc39 hE=>?_) (fun hc39 hE=>?_)
  ·refine region ?_;refine S Fv (S Ld ?_);refine sLen (f:=Z5.c) (s:=x2.FFields) (TK rfl) rfl rfl rfl rfl fun hL40=>?_;refine S BI (S As (nil ?_));exact hK12 _ (decide (((x2.FFields.l.length:Nat):Int)=(0:Int))) Weak.toA hE
  refine seqJH (TA 0 (TA 6 (TA 7 (TA 47 KeepsT.nil)))) (fun(z:Bool)=>[(55,.a (.d (.bool z)))]) (fun z=>(((H.set c0_1 (some (.tok 2 x9.Ffaults.l.length))).set c0 (some (.cells (Z3.cg (some c0_1) x9)))).set c2 (some (.map (seenM (insS a2 x2.FName)))))) (fun z=>Z121_j41 a2 x2 x9 z=some r) ?_ ?_
  ·intro K41 hK41;refine seqR (S BI (S As (nil ?_)));refine cE hE (fun hc49 hE=>?_) (fun hc49 hE=>?_)
   ·refine AWp.skip ?_;exact hK41 _ (decide (x2.FKind=(3:Int))) Weak.toA hE
   refine region ?_;refine S BI (S As (nil ?_));exact hK41 _ (decide (x2.FKind=(4:Int))) Weak.toA hE
  rintro s55_42 hE;try dsimp only at hE
  unfold Z121_j41 at hE;refine cE hE (fun hc43 hE=>?_) (fun hc43 hE=>?_)
  ·refine region ?_;refine S Fv (S Ld ?_);refine sLen (f:=Z8.c) (s:=x2.FMembers) (TK rfl) rfl rfl rfl rfl fun hL44=>?_;refine S BI (S As (nil ?_));exact hK12 _ (decide (((x2.FMembers.l.length:Nat):Int)=(0:Int))) Weak.toA hE
  refine seqR (S BI (S As (nil ?_)));refine cE hE (fun hc46 hE=>?_) (fun hc46 hE=>?_)
  ·refine region ?_;refine S Fv (S Ld ?_);refine sLen (f:=Z7.c) (s:=x2.FInputs) (TK rfl) rfl rfl rfl rfl fun hL47=>?_;refine S BI (S As (nil ?_));exact hK12 _ (decide (((x2.FInputs.l.length:Nat):Int)=(0:Int))) Weak.toA hE
  refine AWp.skip ?_;exact hK12 _ false Weak.toA hE
 rintro s7_13 hE;try dsimp only at hE
 unfold Z121_j12 at hE;refine seqR (S Mv (S Mv (S Fv (S Ld ?_))));obtain⟨x15,gx15,hE⟩:=bO hE;refine sH (callH rfl rfl (Z120_walk gx15 _ hpG hpG)) rfl ?_;refine hq (((H.set c0_1 (some (.tok 2 x15.Ffaults.l.length))).set c0 (some (.cells (Z3.cg (some c0_1) x15)))).set c2 (some (.map (seenM (insS a2 x2.FName))))) ?_;refine nil ?_;refine seqR (S Fv (S Ld (S BS (S Mv (G0 Fv ?_)))));refine G1 77 rfl Ld ?_
 refine G1 78 rfl BS ?_;refine S PO (S Mv (G0 Fv ?_));refine G1 82 rfl Ld ?_;refine G1 83 rfl BS ?_;refine S PO (S As (nil ?_));refine seqR (S Mv (S Mv (S Mv (G0 Fv ?_))));refine G1 89 rfl Ld ?_;refine G1 90 rfl BI ?_;refine S PA (S Mv (G0 Fv ?_));refine G1 94 rfl Ld ?_;refine G1 95 rfl BI ?_;refine S PO (S Mv (G0 Fv ?_));refine G1 99 rfl Ld ?_;refine G1 100 rfl BI ?_;refine S PO (S Fv (S Ld ?_));obtain⟨x18,gx18,hE⟩:=bO hE
 refine sH (callH rfl rfl (Z120_walk gx18 _ hpG hpG)) rfl ?_;refine hq (((H.set c0_1 (some (.tok 2 x18.Ffaults.l.length))).set c0 (some (.cells (Z3.cg (some c0_1) x18)))).set c2 (some (.map (seenM (insS a2 x2.FName))))) ?_;refine nil ?_;refine AWp.seqD (Sd Mv (Sd Fv (Sd Ld (Sd BI (Sd Mv (G0d Mv (G0d Ld ?_)))))));obtain⟨x20,gx20,hE⟩:=gO hE;refine DOps.gC rfl rfl (fun hC=>ungdA (k:=111) rfl (ungdA (k:=112) rfl (callR rfl rfl (Z124_walk (gx20 hC) _ hpG)))) rfl ?_
 refine Sd PA (Sd Fv (Sd Ld ?_));obtain⟨x21,gx21,hE⟩:=bO hE;refine DOps.sH (callH rfl rfl (Z120_walk gx21 _ hpG hpG)) rfl ?_;refine DOps.Dh (((H.set c0_1 (some (.tok 2 x21.Ffaults.l.length))).set c0 (some (.cells (Z3.cg (some c0_1) x21)))).set c2 (some (.map (seenM (insS a2 x2.FName))))) ?_;refine DOps.nil (by decide +kernel) ?_;refine seqR (S Fv (S Ld (nil ?_)));refine block ?_;refine seqJH (TA 0 (TA 6 (TA 119 KeepsT.nil))) (fun(z:Bool)=>[(120,.a (.d (.bool z)))]) (fun z=>(((H.set c0_1 (some (.tok 2 x21.Ffaults.l.length))).set c0 (some (.cells (Z3.cg (some c0_1) x21)))).set c2 (some (.map (seenM (insS a2 x2.FName)))))) (fun z=>Z121_j23 a2 x2 x21 z=some r) ?_ ?_
 ·intro K23 hK23;refine seqR (S BI (S As (nil ?_)));refine cE hE (fun hc35 hE=>?_) (fun hc35 hE=>?_)
  ·refine AWp.skip ?_;exact hK23 _ (decide (x2.FKind=(1:Int))) Weak.toA hE
  refine region ?_;refine S BI (S As (nil ?_));exact hK23 _ (decide (x2.FKind=(2:Int))) Weak.toA hE
 rintro s120_24 hE;try dsimp only at hE
 unfold Z121_j23 at hE;refine cE hE (fun hc25 hE=>?_) (fun hc25 hE=>?_)
 ·refine region ?_;refine S Mv (S Ld ?_);obtain⟨x26,gx26,hE⟩:=bO hE;refine sH (callH rfl rfl (Z122_walk gx26 _ hpG hpG)) rfl ?_;refine hq (((H.set c0_1 (some (.tok 2 x26.Ffaults.l.length))).set c0 (some (.cells (Z3.cg (some c0_1) x26)))).set c2 (some (.map (seenM (insS a2 x2.FName))))) ?_;refine nil ?_;repeat (first|refine xBlock_normal ?_|refine xThen_exit ?_|refine xBlock_exit ?_)
  obtain rfl:=Option.some.inj hE;refine retQ.normalF (((H.set c0_1 (some (.tok 2 x26.Ffaults.l.length))).set c0 (some (.cells (Z3.cg (some c0_1) x26)))).set c2 (some (.map (seenM (insS a2 x2.FName))))) (xs:=[]) rfl ⟨rfl,rfl⟩ ?_;exact(fun _ _ h=>h)
 refine seqR (S BI (S As (nil ?_)));refine cE hE (fun hc28 hE=>?_) (fun hc28 hE=>?_)
 ·refine region ?_;refine S Mv (S Ld ?_);obtain⟨x29,gx29,hE⟩:=bO hE;refine sH (callH rfl rfl (Z126_walk gx29 _ hpG hpG)) rfl ?_;refine hq (((H.set c0_1 (some (.tok 2 x29.Ffaults.l.length))).set c0 (some (.cells (Z3.cg (some c0_1) x29)))).set c2 (some (.map (seenM (insS a2 x2.FName))))) ?_;refine nil ?_;repeat (first|refine xBlock_normal ?_|refine xThen_exit ?_|refine xBlock_exit ?_)
  obtain rfl:=Option.some.inj hE;refine retQ.normalF (((H.set c0_1 (some (.tok 2 x29.Ffaults.l.length))).set c0 (some (.cells (Z3.cg (some c0_1) x29)))).set c2 (some (.map (seenM (insS a2 x2.FName))))) (xs:=[]) rfl ⟨rfl,rfl⟩ ?_;exact(fun _ _ h=>h)
 refine seqR (S BI (S As (nil ?_)));refine cE hE (fun hc31 hE=>?_) (fun hc31 hE=>?_)
 ·refine region ?_;refine S Mv (S Fv (S Ld (S Fv (S Ld ?_))));obtain⟨x32,gx32,hE⟩:=bO hE;refine s0 (catM rfl rfl gx32) rfl ?_;obtain⟨x33,gx33,hE⟩:=bO hE;refine sH (callH rfl rfl (Z123_walk gx33 _ hpG hpG)) rfl ?_;refine hq (((H.set c0_1 (some (.tok 2 x33.Ffaults.l.length))).set c0 (some (.cells (Z3.cg (some c0_1) x33)))).set c2 (some (.map (seenM (insS a2 x2.FName))))) ?_;refine nil ?_;repeat (first|refine xBlock_normal ?_|refine xThen_exit ?_|refine xBlock_exit ?_)
  obtain rfl:=Option.some.inj hE;refine retQ.normalF (((H.set c0_1 (some (.tok 2 x33.Ffaults.l.length))).set c0 (some (.cells (Z3.cg (some c0_1) x33)))).set c2 (some (.map (seenM (insS a2 x2.FName))))) (xs:=[]) rfl ⟨rfl,rfl⟩ ?_;exact(fun _ _ h=>h)
 refine AWp.skip ?_;repeat (first|refine xBlock_normal ?_|refine xThen_exit ?_|refine xBlock_exit ?_)
 obtain rfl:=Option.some.inj hE;refine retQ.normalF (((H.set c0_1 (some (.tok 2 x21.Ffaults.l.length))).set c0 (some (.cells (Z3.cg (some c0_1) x21)))).set c2 (some (.map (seenM (insS a2 x2.FName))))) (xs:=[]) rfl ⟨rfl,rfl⟩ ?_;exact(fun _ _ h=>h)
def Z112_j10  (y11_id12_3:Z3):Option (Sl Z4):=some y11_id12_3.Ffaults
def Z112_j7 (a0:TDoc) (a1:Bool)  (y8_id12_3:Z3) (y9_id13_6:(List Bs)):Option (Sl Z4):=(Z114 a0 ([81,117,101,114,121]:Bs)).bind fun x14=>bif (a1&&(!x14.2)) then((Z120 y8_id12_3 true (30:Int) ([81,117,101,114,121]:Bs)).bind fun x17=>Z112_j10   x17) else(Z112_j10   y8_id12_3)
def Z112_l20 (a0:TDoc) (a1:Bool) :Nat->Nat->Z3->(List Bs)->Option (Sl Z4)
 | 0,_,_,_=>none
 | n20+1,s17_21,y22_id12_3,y23_id13_6=>bif (decide (((s17_21:Nat):Int)<((a0.FDefs.l.length:Nat):Int))) then((Z121 y22_id12_3 ((s17_21:Nat):Int) y23_id13_6).bind fun x29=>(Z112_l20 a0 a1 n20) (s17_21+1) x29.1 x29.2) else(Z112_j7 a0 a1  y22_id12_3 y23_id13_6)
def Z112 (a0:TDoc) (a1:Bool):Option (Sl Z4):=Z112_l20 a0 a1 (a0.FDefs.l.length+1) 0 (Z3.mk a0 (Sl.nil:Sl Z4)) ([]:List Bs)
theorem Z112_walk {a0:TDoc}{a1:Bool}{r:Sl Z4}(hE:Z112 a0 a1=some r) (H:Heap) :ACalls Tryz.prog 12 [.agg (TDoc.c a0),.d (.bool a1)] H fun v h'=>v=.a (.d (Sl.d 2 Z4.c none r))/\h'=H:=by
 unfold Z112 at hE;refine ACalls.oW 41 [.tmp 4] Tryz.call12 Tryz.func12 ?_;refine seqR (S BX ?_);refine s0 (assignNil (k':=2) rfl) rfl ?_;refine nil ?_;refine seqR (S Ld (S BU ?_));refine AOps.tok 2 fun tk12_4 htk12_4=>?_;refine sE (StepE.boxO rfl) rfl (fun _ _ _ ⟨id12_3,hid12_3,e1,e2,e3⟩=>?_); subst e1 e2 e3;obtain⟨ne_id12_3_tk12_4,hid12_3⟩:=Heap.set_fresh hid12_3;refine AOps.recell id12_3 _ hpG (fun j w cs hh hx=>tok_cell 1 2 2 hh (t:=tk12_4) hpG hx rfl) ?_
 refine hq ((H.set tk12_4 (some (.tok 2 0))).set id12_3 (some (.cells (Z3.cg (some tk12_4) (Z3.mk a0 (Sl.nil:Sl Z4)))))) ?_;refine S As (nil ?_);refine seqR ?_;refine sE StepE.makeMap rfl (fun _ _ _ ⟨id13_6,hid13_6,e1,e2,e3⟩=>?_); subst e1 e2 e3;obtain⟨ne_id13_6_id12_3,hid13_6⟩:=Heap.set_fresh hid13_6;obtain⟨ne_id13_6_tk12_4,hid13_6⟩:=Heap.set_fresh hid13_6;refine hq (((H.set tk12_4 (some (.tok 2 0))).set id12_3 (some (.cells (Z3.cg (some tk12_4) (Z3.mk a0 (Sl.nil:Sl Z4)))))).set id13_6 (some (.map (seenM ([]:List Bs))))) ?_
 refine S As (nil ?_);refine seqJH (TA 1 (TA 2 (TA 5 KeepsT.nil))) (fun(z:Z3×(List Bs))=>[]) (fun z=>(((H.set tk12_4 (some (.tok 2 z.1.Ffaults.l.length))).set id12_3 (some (.cells (Z3.cg (some tk12_4) z.1)))).set id13_6 (some (.map (seenM z.2))))) (fun z=>Z112_j7 a0 a1 z.1 z.2=some r) ?_ ?_
 ·intro K7 hK7;refine seqR (S Fv (S Ld ?_));refine sLen (f:=TDef.c) (s:=a0.FDefs) (TK rfl) rfl rfl rfl rfl fun hL19=>?_;refine S Mv (nil ?_);refine block ?_;refine loopH (TA 1 (TA 2 (TA 5 (TA 6 (TA 16 KeepsT.nil))))) (fun(z:Nat×Nat×Z3×(List Bs))=>[(17,.a (.d (.int .i64 ((z.2.1:Nat):Int))))]) (fun z=>(((H.set tk12_4 (some (.tok 2 z.2.2.1.Ffaults.l.length))).set id12_3 (some (.cells (Z3.cg (some tk12_4) z.2.2.1)))).set id13_6 (some (.map (seenM z.2.2.2))))) (fun z=>z.1) (fun z=>Z112_l20 a0 a1 z.1 z.2.1 z.2.2.1 z.2.2.2=some r) ((a0.FDefs.l.length+1),0,(Z3.mk a0 (Sl.nil:Sl Z4)),([]:List Bs)) hE Weak.toA ?_
  rintro ⟨n20,s17_21,y22_id12_3,y23_id13_6⟩ hE K20 hK20;try dsimp only at hE
  cases n20 with
  | zero=>cases hE
  | succ n20 =>
    rw [Z112_l20] at hE;refine seqR (S BI (nil ?_));refine seqK fun K25 hK25=>?_;refine cE hE (fun hc26 hE=>?_) (fun hc26 hE=>?_)
    ·try dsimp only at hc26
     have hf26:=of_decide_eq_true hc26;refine sk hK25 ?_;clear hK25 K25;refine seqK fun K27 hK27=>?_;refine block ?_;refine seqR (S Mv (S As (nil ?_)));refine region ?_;refine S Mv (S Mv (S Mv ?_));obtain⟨x29,gx29,hE⟩:=bO hE;refine sH (callH rfl rfl (Z121_walk gx29 _ hpG hpG hpG)) rfl ?_;refine hq (((H.set tk12_4 (some (.tok 2 x29.1.Ffaults.l.length))).set id12_3 (some (.cells (Z3.cg (some tk12_4) x29.1)))).set id13_6 (some (.map (seenM x29.2)))) ?_
     refine nil ?_;refine hK27 _ ?_;clear hK27 K27;refine region ?_;refine SI ?_;refine S Mv (nil ?_);exact hK20 _ (n20,(s17_21+1),x29.1,x29.2) Weak.toA hE (Nat.lt_succ_self _)
    refine AWp.exit ?_;exact hK7 _ (y22_id12_3,y23_id13_6) Weak.toA hE
 rintro ⟨y8_id12_3,y9_id13_6⟩ hE;try dsimp only at hE
 unfold Z112_j7 at hE;refine seqJH (TA 5 KeepsT.nil) (fun(z:Z3)=>[]) (fun z=>(((H.set tk12_4 (some (.tok 2 z.Ffaults.l.length))).set id12_3 (some (.cells (Z3.cg (some tk12_4) z)))).set id13_6 (some (.map (seenM y9_id13_6))))) (fun z=>Z112_j10 z=some r) ?_ ?_
 ·intro K10 hK10;refine seqR (S Ld ?_);obtain⟨x14,gx14,hE⟩:=bO hE;refine Sc rfl rfl (Z114_walk gx14) ?_;refine S Mv (S EX (S EX ?_));refine Sl ?_;refine Sf ?_;refine S As (nil ?_);refine freezeA 8 _ rfl (KA 1 (KA 5 (KA 9 Keeps.nil))) ?_;refine seqR (S Mv (S Mv (G0 Mv ?_)));refine G1 32 rfl NB ?_;refine S PA (nil ?_);refine cE hE (fun hc16 hE=>?_) (fun hc16 hE=>?_)
  ·refine region ?_;refine S Mv ?_;obtain⟨x17,gx17,hE⟩:=bO hE;refine sH (callH rfl rfl (Z120_walk gx17 _ hpG hpG)) rfl ?_;refine hq (((H.set tk12_4 (some (.tok 2 x17.Ffaults.l.length))).set id12_3 (some (.cells (Z3.cg (some tk12_4) x17)))).set id13_6 (some (.map (seenM y9_id13_6)))) ?_;refine nil ?_;exact hK10 _ x17 Weak.toA hE
  refine AWp.skip ?_;exact hK10 _ y8_id12_3 Weak.toA hE
 rintro y11_id12_3 hE;try dsimp only at hE
 unfold Z112_j10 at hE;refine seqR (S Mv (S NP ?_));refine s0 (fieldP (TK rfl) rfl rfl (TK rfl) rfl rfl) rfl ?_;refine s0 (loadP (TK rfl) rfl rfl hpG rfl) rfl ?_;refine S As (nil ?_);refine AWp.dropTok 4 rfl ?_;refine AWp.ret ?_;repeat (first|refine xBlock_ret ?_|refine xThen_ret ?_)
 obtain rfl:=Option.some.inj hE;refine retQ.retF H rfl ⟨rfl,rfl⟩ ?_;intro id_ o_ he_;have e_tk12_4:id_≠tk12_4:=fun e_=>by subst e_; simp_all [Heap.set]
 have e_id12_3:id_≠id12_3:=fun e_=>by subst e_; simp_all [Heap.set]
 have e_id13_6:id_≠id13_6:=fun e_=>by subst e_; simp_all [Heap.set]
 rw [<- he_];simp only [Heap.set] at he_ ⊢
 (repeat' split)<;>simp_all
def Z18 (a0:Z0) (a1:Bs) (a2:Int):Option Int:=(Z114 a0.Fd a1).bind fun x3=>guardO ((!x3.2)) (Z119 a1) false fun x6=>bif ((!x3.2)&&(!x6)) then(some (8:Int)) else(bif ((!x3.2)||(!decide (x3.1.FKind=a2))) then(some (9:Int)) else(some (0:Int)))
theorem Z18_walk {a0:Z0}{a1:Bs}{a2:Int}{q0_1:Option Nat}{c0:Nat}{r:Int}(hE:Z18 a0 a1 a2=some r) (H:Heap) (hc0:H c0=some (.cells (Z0.cg q0_1 a0))):ACalls Tryz.prog 32 [.d (.ptr c0 0),.d (.str a1),.d (.int .i64 a2)] H fun v h'=>v=.a (.d (.int .i64 r))/\h'=H:=by
 unfold Z18 at hE;refine ACalls.oW 35 [.tmp 6] Tryz.call32 Tryz.func32 ?_;refine seqR (S As (nil ?_));refine seqR (S Mv (S NP ?_));refine s0 (fieldP (TK rfl) rfl rfl (TK rfl) rfl rfl) rfl ?_;refine s0 (loadP (TK rfl) rfl rfl hpG rfl) rfl ?_;refine S Mv ?_;obtain⟨x3,gx3,hE⟩:=bO hE;refine Sc rfl rfl (Z114_walk gx3) ?_;refine S Mv (S EX (S EX ?_));refine Sl ?_;refine Sf ?_;refine S As (nil ?_);refine freezeA 7 _ rfl (KA 1 (KA 2 (KA 8 Keeps.nil))) ?_
 refine seqK fun K4 hK4=>?_;refine block ?_;refine seqR (S Mv (S NB (S Mv (G0 Mv ?_))));obtain⟨x6,gx6,hE⟩:=gO hE;refine Gc1 22 rfl rfl rfl rfl rfl (fun hC=>Z119_walk (gx6 hC)) ?_;refine G1 23 rfl NB ?_;refine S PA (S As (nil ?_));refine cE hE (fun hc7 hE=>?_) (fun hc7 hE=>?_)
 ·refine seqR (S As (nil ?_));exact rt hE
 refine seqR (S Mv (S NB (S Mv (G0 Fv ?_))));refine G1 30 rfl Ld ?_;refine G0 Mv ?_;refine G2 31 32 rfl rfl BI ?_;refine S PO (S As (nil ?_));refine cE hE (fun hc10 hE=>?_) (fun hc10 hE=>?_)
 ·refine seqR (S As (nil ?_));exact rt hE
 refine sk hK4 ?_;clear hK4 K4;refine seqR (S As (nil ?_));exact rt hE
end Go.Proofs

namespace Go.Proofs
open Go Go.Ab
open AOps Cert AWp Keeps KeepsT
variable {lou:Lou}
def Z16 (a0:Z0) (a1:Int) (a2:Bs):Option Z0:=(appC 24 a0.Fout (⟨false,[(Z4.mk a1 a2)]⟩:Sl Z4)).bind fun x1=>some (Z0.mk a0.Fd x1)
theorem Z16_walk {a0:Z0}{a1:Int}{a2:Bs}{c0 c0_1:Nat}{r:Z0}(hE:Z16 a0 a1 a2=some r) (H:Heap) (hc0:H c0=some (.cells (Z0.cg (some c0_1) a0))) (ht0_1:H c0_1=some (.tok 2 a0.Fout.l.length)):ACalls Tryz.prog 35 [.d (.ptr c0 0),.d (.int .i64 a1),.d (.str a2)] H fun v h'=>v=.tup []/\h'=((H.set c0_1 (some (.tok 2 r.Fout.l.length))).set c0 (some (.cells (Z0.cg (some c0_1) r)))):=by
 unfold Z16 at hE;refine ACalls.oW 18 [] Tryz.call35 Tryz.func35 ?_;have ne_c0_c0_1:c0≠c0_1:=fun e_=>by subst e_; simp_all
 refine AWp.heqA (h':=((H.set c0_1 (some (.tok 2 a0.Fout.l.length))).set c0 (some (.cells (Z0.cg (some c0_1) a0))))) (by funext n_; simp only [Heap.set]; (repeat' split)<;>simp_all) ?_;refine region ?_;refine S Mv (S Mv (S NP ?_));refine s0 (fieldP (TK rfl) rfl rfl (TK rfl) rfl rfl) rfl ?_;refine s0 (loadP (TK rfl) rfl rfl hpG rfl) rfl ?_;refine S Mv (S Mv (S BU (S BV ?_)));obtain⟨x1,gx1,hE⟩:=bO hE
 refine SH (am Z4.c (TK rfl) rfl (TK rfl) (TK rfl) gx1) ?_;refine hq ((H.set c0_1 (some (.tok 2 x1.l.length))).set c0 (some (.cells (Z0.cg (some c0_1) a0)))) ?_;refine S NP ?_;refine s0 (fieldP (TK rfl) rfl rfl (TK rfl) rfl rfl) rfl ?_;refine sHn (storeP1 (TK rfl) rfl rfl hpG rfl (by repeat (first|exact SetAt.zero|apply SetAt.succ))) rfl rfl ?_;refine hq ((H.set c0_1 (some (.tok 2 x1.l.length))).set c0 (some (.cells (Z0.cg (some c0_1) (Z0.mk a0.Fd x1))))) ?_
 refine nil ?_;repeat (first|refine xBlock_normal ?_|refine xThen_exit ?_|refine xBlock_exit ?_)
 obtain rfl:=Option.some.inj hE;refine retQ.normalF ((H.set c0_1 (some (.tok 2 x1.l.length))).set c0 (some (.cells (Z0.cg (some c0_1) (Z0.mk a0.Fd x1))))) (xs:=[]) rfl ⟨rfl,rfl⟩ ?_;exact(fun _ _ h=>h)
def Z136_j2  :Option Int:=some (-1:Int)
def Z136_l6 (a0:(Sl Bs)) (a1:Bs) :Nat->Nat->Option Int
 | 0,_=>none
 | n6+1,s8_7=>bif (decide (((s8_7:Nat):Int)<((a0.l.length:Nat):Int))) then((a0.l[s8_7]?).bind fun x14=>bif ((a1==x14)) then(some ((s8_7:Nat):Int)) else((Z136_l6 a0 a1 n6) (s8_7+1))) else(Z136_j2   )
def Z136 (a0:(Sl Bs)) (a1:Bs):Option Int:=Z136_l6 a0 a1 (a0.l.length+1) 0
theorem Z136_walk {a0:Sl Bs}{a1:Bs}{w0:Option Nat}{r:Int}(hE:Z136 a0 a1=some r) (H:Heap) :ACalls Tryz.prog 121 [.d (Sl.d 1 strE w0 a0),.d (.str a1)] H fun v h'=>v=.a (.d (.int .i64 r))/\h'=H:=by
 unfold Z136 at hE;refine ACalls.oW 19 [.tmp 4] Tryz.call121 Tryz.func121 ?_;refine seqR (S As (nil ?_));refine seqJH KeepsT.nil (fun(z:Unit)=>[]) (fun z=>H) (fun z=>Z136_j2 =some r) ?_ ?_
 ·intro K2 hK2;refine seqR (S Mv ?_);refine sLen (f:=strE) (s:=a0) (TK rfl) rfl rfl rfl rfl fun hL5=>?_;refine S Mv (nil ?_);refine block ?_;refine loopH (TA 0 (TA 1 (TA 7 KeepsT.nil))) (fun(z:Nat×Nat)=>[(8,.a (.d (.int .i64 ((z.2:Nat):Int))))]) (fun z=>H) (fun z=>z.1) (fun z=>Z136_l6 a0 a1 z.1 z.2=some r) ((a0.l.length+1),0) hE Weak.toA ?_;rintro ⟨n6,s8_7⟩ hE K6 hK6;try dsimp only at hE
  cases n6 with
  | zero=>cases hE
  | succ n6 =>
    rw [Z136_l6] at hE;refine seqR (S BI (nil ?_));refine seqK fun K9 hK9=>?_;refine cE hE (fun hc10 hE=>?_) (fun hc10 hE=>?_)
    ·try dsimp only at hc10
     have hf10:=of_decide_eq_true hc10;refine sk hK9 ?_;clear hK9 K9;refine seqK fun K11 hK11=>?_;refine block ?_;refine seqR (S Mv (S As (nil ?_)));refine seqR (S Mv (S Mv (S Mv ?_)));obtain⟨x14,gx14,hE⟩:=bO hE;refine S (ix strE s8_7 gx14) (S Ld (S BS (nil ?_)));refine cE hE (fun hc15 hE=>?_) (fun hc15 hE=>?_)
     ·refine seqR (S Mv (S As (nil ?_)));exact rt hE
     refine sk hK11 ?_;clear hK11 K11;refine region ?_;refine SI ?_;refine S Mv (nil ?_);exact hK6 _ (n6,(s8_7+1)) Weak.toA hE (Nat.lt_succ_self _)
    refine AWp.exit ?_;exact hK2 _ () Weak.toA hE
 rintro _ hE;try dsimp only at hE
 unfold Z136_j2 at hE;refine seqR (S As (nil ?_));exact rt hE
def Z133 (a0:(Sl Bs)) (a1:Bs):Option Bool:=(Z136 a0 a1).bind fun x3=>some (decide ((0:Int)<=x3))
theorem Z133_walk {a0:Sl Bs}{a1:Bs}{w0:Option Nat}{r:Bool}(hE:Z133 a0 a1=some r) (H:Heap) :ACalls Tryz.prog 76 [.d (Sl.d 1 strE w0 a0),.d (.str a1)] H fun v h'=>v=.a (.d (.bool r))/\h'=H:=by
 unfold Z133 at hE;refine ACalls.oW 9 [.tmp 4] Tryz.call76 Tryz.func76 ?_;refine seqR (S As (nil ?_));refine seqR (S Mv (S Mv ?_));obtain⟨x3,gx3,hE⟩:=bO hE;refine Sc rfl rfl (Z136_walk gx3) ?_;refine S BI (S As (nil ?_));exact rt hE
def Z113_j2  (y3_l0:Z5):Option (Z5×Bool):=some ((Z5.mk ([]:Bs) (Sl.nil:Sl Z7) TRef.zero (Sl.nil:Sl TDir)),false)
def Z113_l7 (a0:TDef) (a1:Bs) :Nat->Nat->Z5->Option (Z5×Bool)
 | 0,_,_=>none
 | n7+1,s11_8,y9_l0=>bif (decide (((s11_8:Nat):Int)<((a0.FFields.l.length:Nat):Int))) then((a0.FFields.l[s11_8]?).bind fun x15=>bif ((x15.FName==a1)) then(some (x15,true)) else((Z113_l7 a0 a1 n7) (s11_8+1) y9_l0)) else(Z113_j2   y9_l0)
def Z113 (a0:TDef) (a1:Bs):Option (Z5×Bool):=Z113_l7 a0 a1 (a0.FFields.l.length+1) 0 Z5.zero
theorem Z113_walk {a0:TDef}{a1:Bs}{r:Z5×Bool}(hE:Z113 a0 a1=some r) (H:Heap) :ACalls Tryz.prog 101 [.agg (TDef.c a0),.d (.str a1)] H fun v h'=>v=.tup [.agg (Z5.c r.1),.d (.bool r.2)]/\h'=H:=by
 unfold Z113 at hE;refine ACalls.oW 22 [.cell 4 42,.tmp 5] Tryz.call101 Tryz.func101 ?_;refine seqR (S BX ?_);refine Sl ?_;refine S As (nil ?_);refine seqJ (TA 4 KeepsT.nil) (fun(z:Z5)=>[]) (fun z=>[Z5.c z]) (fun z=>H) (fun z=>Z113_j2 z=some r) ?_ ?_
 ·intro K2 hK2;refine seqR (S Fv (S Ld ?_));refine sLen (f:=Z5.c) (s:=a0.FFields) (TK rfl) rfl rfl rfl rfl fun hL6=>?_;refine S Mv (nil ?_);refine block ?_;refine loopO (TA 1 (TA 4 (TA 9 (TA 10 KeepsT.nil)))) (fun(z:Nat×Nat×Z5)=>[(11,.a (.d (.int .i64 ((z.2.1:Nat):Int))))]) (fun z=>[Z5.c z.2.2]) (fun z=>H) (fun z=>z.1) (fun z=>Z113_l7 a0 a1 z.1 z.2.1 z.2.2=some r) ((a0.FFields.l.length+1),0,Z5.zero) hE Weak.toA ?_
  rintro ⟨n7,s11_8,y9_l0⟩ hE K7 hK7;try dsimp only at hE
  cases n7 with
  | zero=>cases hE
  | succ n7 =>
    rw [Z113_l7] at hE;refine seqR (S BI (nil ?_));refine seqK fun K11 hK11=>?_;refine cE hE (fun hc12 hE=>?_) (fun hc12 hE=>?_)
    ·try dsimp only at hc12
     have hf12:=of_decide_eq_true hc12;refine sk hK11 ?_;clear hK11 K11;refine seqK fun K13 hK13=>?_;refine block ?_;refine seqR ?_;obtain⟨x15,gx15,hE⟩:=bO hE;refine S (ix Z5.c s11_8 gx15) (S Ld ?_);refine Sl ?_;refine Sf ?_;refine nil ?_;refine freezeA 7 _ rfl (KA 1 (KA 4 (KA 9 (KA 10 (KA 11 Keeps.nil))))) ?_;refine seqR (S Fv (S Ld (S Mv (S BS (nil ?_)))));refine cE hE (fun hc17 hE=>?_) (fun hc17 hE=>?_)
     ·refine seqR (S Ld ?_);refine Sf ?_;refine S As (nil ?_);exact rt hE
     refine sk hK13 ?_;clear hK13 K13;refine region ?_;refine SI ?_;refine S Mv (nil ?_);exact hK7 _ (n7,(s11_8+1),y9_l0) Weak.toA hE (Nat.lt_succ_self _)
    refine AWp.exit ?_;exact hK2 _ y9_l0 Weak.toA hE
 rintro y3_l0 hE;try dsimp only at hE
 unfold Z113_j2 at hE;refine seqR (S BU ?_);refine Sf ?_;refine S As (nil ?_);exact rt hE
def Z144 (a0:TRef):Option Bool:=guardO ((decide ((0:Int)<((a0.FWraps.l.length:Nat):Int)))) (a0.FWraps.l[0]?) (0:Int) fun x4=>some ((decide ((0:Int)<((a0.FWraps.l.length:Nat):Int)))&&(decide (x4=(1:Int))))
theorem Z144_walk {a0:TRef}{r:Bool}(hE:Z144 a0=some r) (H:Heap) :ACalls Tryz.prog 125 [.agg (TRef.c a0)] H fun v h'=>v=.a (.d (.bool r))/\h'=H:=by
 unfold Z144 at hE;refine ACalls.oW 14 [.tmp 2] Tryz.call125 Tryz.func125 ?_;refine seqR (S BX (S As (nil ?_)));refine seqR (S Fv (S Ld ?_));refine sLen (f:=(intE .i64)) (s:=a0.FWraps) (TK rfl) rfl rfl rfl rfl fun hL3=>?_;refine S BI (S Mv (G0 Fv ?_));refine G1 8 rfl Ld ?_;obtain⟨x4,gx4,hE⟩:=gO hE;refine gC rfl rfl (fun hC=>ungdA (k:=9) rfl (idxMn (f:=(intE .i64)) (n:=0) (TK rfl) rfl (TK rfl) rfl rfl rfl (gx4 hC))) rfl ?_
 refine G1 10 rfl Ld ?_;refine G1 11 rfl BI ?_;refine S PA (S As (nil ?_));exact rt hE
def Z130 (a0:(Sl Int)):Option (Sl Int):=bif a0.nl then(some (Sl.nil:Sl Int)) else((appC 8 (⟨false,[]⟩:Sl Int) a0).bind fun x7=>some x7)
theorem Z130_walk {a0:Sl Int}{w0:Option Nat}{r:Sl Int}(hE:Z130 a0=some r) (H:Heap) :ACalls Tryz.prog 186 [.d (Sl.d 1 (intE .i64) w0 a0)] H fun v h'=>v=.a (.d (Sl.d 1 (intE .i64) none r))/\h'=H:=by
 unfold Z130 at hE;refine ACalls.oW 8 [.tmp 2] Tryz.call186 Tryz.func186 ?_;refine seqR ?_;refine s0 (assignNil (k':=1) rfl) rfl ?_;refine nil ?_;refine seqK fun K2 hK2=>?_;refine seqR (S Mv ?_);refine s0 (eqNil (TK rfl) rfl rfl) rfl ?_;refine nil ?_;refine cE hE (fun hc4 hE=>?_) (fun hc4 hE=>?_)
 ·refine seqR ?_;refine s0 (assignNil (k':=1) rfl) rfl ?_;refine nil ?_;exact rt hE
 refine sk hK2 ?_;clear hK2 K2;refine seqR ?_;refine s0 (buildSliceF (TK rfl) rfl (TK rfl) rfl rfl rfl rfl rfl rfl) rfl ?_;refine S Mv ?_;obtain⟨x7,gx7,hE⟩:=bO hE;refine s0 (appFM (f:=(intE .i64)) (TK rfl) rfl (TK rfl) (TK rfl) ⟨_,rfl⟩ rfl rfl (by decide) rfl rfl rfl (by intro q h; cases h<;>decide) rfl rfl gx7) rfl ?_;refine S As (nil ?_);exact rt hE
def Z145_j3 (a0:TRef)  (s3_4:(Sl Int)):Option TRef:=(Z130 s3_4).bind fun x6=>some (TRef.mk a0.FName x6)
def Z145 (a0:TRef):Option TRef:=(Z144 a0).bind fun x8=>bif x8 then((partC a0.FWraps (some (1:Int)) none).bind fun x10=>Z145_j3 a0  x10) else(Z145_j3 a0  a0.FWraps)
theorem Z145_walk {a0 r:TRef}(hE:Z145 a0=some r) (H:Heap) :ACalls Tryz.prog 162 [.agg (TRef.c a0)] H fun v h'=>v=.a (.agg (TRef.c r))/\h'=H:=by
 unfold Z145 at hE;refine ACalls.oW 15 [.cell 2 40] Tryz.call162 Tryz.func162 ?_;refine seqR (S BX ?_);refine Sl ?_;refine nil ?_;refine seqR (S Fv (S Ld (S As (nil ?_))));refine seqJH (TA 1 (TA 2 KeepsT.nil)) (fun(z:(Sl Int))=>[(3,.a (.d (Sl.d 1 (intE .i64) none z)))]) (fun z=>H) (fun z=>Z145_j3 a0 z=some r) ?_ ?_
 ·intro K3 hK3;refine seqR (S Ld ?_);obtain⟨x8,gx8,hE⟩:=bO hE;refine Sc rfl rfl (Z144_walk gx8) ?_;refine nil ?_;refine cE hE (fun hc9 hE=>?_) (fun hc9 hE=>?_)
  ·refine region ?_;refine S Mv ?_;obtain⟨x10,gx10,hE⟩:=bO hE;refine s0 (partM (f:=(intE .i64)) (l:=(some (1:Int))) (r:=none) (TK rfl) rfl (TK rfl) rfl rfl rfl trivial gx10) rfl ?_;refine S As (nil ?_);exact hK3 _ x10 Weak.toA hE
  refine AWp.skip ?_;exact hK3 _ a0.FWraps Weak.toA hE
 rintro s3_4 hE;try dsimp only at hE
 unfold Z145_j3 at hE;refine AWp.seqD (Sd Fv (Sd Ld (Sd Mv ?_)));obtain⟨x6,gx6,hE⟩:=bO hE;refine Scd rfl rfl (Z130_walk gx6) ?_;refine Sd BU ?_;refine DOps.sLn (storeLFA (TK rfl) rfl rfl rfl rfl rfl) ?_;refine DOps.nil (by decide +kernel) ?_;exact rt hE
def Z143 (a0:TRef):Option Bool:=(Z145 a0).bind fun x3=>guardO ((decide ((0:Int)<((x3.FWraps.l.length:Nat):Int)))) (x3.FWraps.l[0]?) (0:Int) fun x6=>some ((decide ((0:Int)<((x3.FWraps.l.length:Nat):Int)))&&(decide (x6=(2:Int))))
theorem Z143_walk {a0:TRef}{r:Bool}(hE:Z143 a0=some r) (H:Heap) :ACalls Tryz.prog 147 [.agg (TRef.c a0)] H fun v h'=>v=.a (.d (.bool r))/\h'=H:=by
 unfold Z143 at hE;refine ACalls.oW 16 [.tmp 2] Tryz.call147 Tryz.func147 ?_;refine seqR ?_;refine sL (boxL rfl (by repeat (first|exact Snoc.nil|apply Snoc.cons))) rfl ?_;refine S As (nil ?_);refine seqR (S LL ?_);obtain⟨x3,gx3,hE⟩:=bO hE;refine Sc rfl rfl (Z145_walk gx3) ?_;refine Sf ?_;refine nil ?_;refine seqR (S FL (S LL ?_));refine sLen (f:=(intE .i64)) (s:=x3.FWraps) (TK rfl) rfl rfl rfl rfl fun hL5=>?_
 refine S BI (S Mv (G0 FL ?_));refine gC rfl rfl (fun hC=>ungdLA (k:=10) rfl (loadL (TK rfl) rfl rfl rfl rfl)) rfl ?_;obtain⟨x6,gx6,hE⟩:=gO hE;refine gC rfl rfl (fun hC=>ungdA (k:=11) rfl (idxMn (f:=(intE .i64)) (n:=0) (TK rfl) rfl (TK rfl) rfl rfl rfl (gx6 hC))) rfl ?_;refine G1 12 rfl Ld ?_;refine G1 13 rfl BI ?_;refine S PA (S As (nil ?_));exact rt hE
def Z142 (a0:TRef):Option (TRef×Bool):=(Z143 a0).bind fun x4=>bif (!x4) then(some ((TRef.mk ([]:Bs) (Sl.nil:Sl Int)),false)) else((Z145 a0).bind fun x8=>(partC x8.FWraps (some (1:Int)) none).bind fun x10=>some ((TRef.mk x8.FName x10),true))
theorem Z142_walk {a0:TRef}{r:TRef×Bool}(hE:Z142 a0=some r) (H:Heap) :ACalls Tryz.prog 131 [.agg (TRef.c a0)] H fun v h'=>v=.tup [.agg (TRef.c r.1),.d (.bool r.2)]/\h'=H:=by
 unfold Z142 at hE;refine ACalls.oW 15 [.cell 2 40,.tmp 3] Tryz.call131 Tryz.func131 ?_;refine seqR ?_;refine sL (boxL rfl (by repeat (first|exact Snoc.nil|apply Snoc.cons))) rfl ?_;refine Sl ?_;refine S As (nil ?_);refine seqK fun K2 hK2=>?_;refine seqR (S LL ?_);obtain⟨x4,gx4,hE⟩:=bO hE;refine Sc rfl rfl (Z143_walk gx4) ?_;refine S NB (nil ?_);refine cE hE (fun hc5 hE=>?_) (fun hc5 hE=>?_)
 ·refine seqR (S BU ?_);refine Sf ?_;refine S As (nil ?_);exact rt hE
 refine sk hK2 ?_;clear hK2 K2;refine seqR (S LL ?_);obtain⟨x8,gx8,hE⟩:=bO hE;refine Sc rfl rfl (Z145_walk gx8) ?_;refine Sf ?_;refine nil ?_;refine seqR (S FL (S LL ?_));obtain⟨x10,gx10,hE⟩:=bO hE;refine s0 (partM (f:=(intE .i64)) (l:=(some (1:Int))) (r:=none) (TK rfl) rfl (TK rfl) rfl rfl rfl trivial gx10) rfl ?_;refine S FL ?_;refine Sf ?_;refine nil ?_;refine seqR (S LL ?_);refine Sf ?_;refine S As (nil ?_)
 exact rt hE
def Z20 (a0:TDef) (a1:Bs):Option Bool:=(Z133 a0.FImplements a1).bind fun x3=>some x3
theorem Z20_walk {a0:TDef}{a1:Bs}{r:Bool}(hE:Z20 a0 a1=some r) (H:Heap) :ACalls Tryz.prog 204 [.agg (TDef.c a0),.d (.str a1)] H fun v h'=>v=.a (.d (.bool r))/\h'=H:=by
 unfold Z20 at hE;refine ACalls.oW 9 [.tmp 4] Tryz.call204 Tryz.func204 ?_;refine seqR (S BX (S As (nil ?_)));refine seqR (S Fv (S Ld (S Mv ?_)));obtain⟨x3,gx3,hE⟩:=bO hE;refine Sc rfl rfl (Z133_walk gx3) ?_;refine S As (nil ?_);exact rt hE
end Go.Proofs

namespace Go.Proofs
open Go Go.Ab
open AOps Cert AWp Keeps KeepsT
variable {lou:Lou}
def Z14_j11  (s15_12:(Sl Bs)) (y13_id24_5:(List Bs)):Option (Sl Bs):=some s15_12
def Z14_j24 (s95_19:Nat) (k_next_17:(Sl Bs)->Nat->(List Bs)->Option (Sl Bs)) (s15_25:(Sl Bs)) (y26_id24_5:(List Bs)):Option (Sl Bs):=k_next_17 s15_25 (s95_19+1) y26_id24_5
def Z14_l17 (a0:TDoc) :Nat->(Sl Bs)->Nat->(List Bs)->Option (Sl Bs)
 | 0,_,_,_=>none
 | n17+1,s15_18,s95_19,y20_id24_5=>bif (decide (((s95_19:Nat):Int)<((a0.FDefs.l.length:Nat):Int))) then((a0.FDefs.l[s95_19]?).bind fun x28=>bif (y20_id24_5.contains x28.FName) then((appC 16 s15_18 (⟨false,[x28.FName]⟩:Sl Bs)).bind fun x32=>Z14_j24 s95_19 ((Z14_l17 a0 n17)) x32 (List.erase y20_id24_5 x28.FName)) else(Z14_j24 s95_19 ((Z14_l17 a0 n17)) s15_18 y20_id24_5)) else(Z14_j11   s15_18 y20_id24_5)
def Z14_j8 (a0:TDoc)  (y9_id24_5:(List Bs)):Option (Sl Bs):=Z14_l17 a0 (a0.FDefs.l.length+1) (Sl.nil:Sl Bs) 0 y9_id24_5
def Z14_k36 (a0:TDoc) (a1:Bs) (x3:(TDef×Bool))  (s_36:Bs):Option Bool:=(Z114 a0 s_36).bind fun x39=>guardO ((!((!x39.2)||(!decide (x39.1.FKind=(1:Int))))&&(decide (x3.1.FKind=(2:Int))))) (Z20 x39.1 a1) false fun x41=>bif (((!x39.2)||(!decide (x39.1.FKind=(1:Int))))||((decide (x3.1.FKind=(2:Int)))&&(!x41))) then(some false) else(some true)
def Z14_j6 (a0:TDoc) (a1:Bs) (x3:(TDef×Bool))  (y7_id24_5:(List Bs)):Option (Sl Bs):=Option.bind (filtO (Z14_k36 a0 a1 x3) y7_id24_5) fun l_36=>Z14_j8 a0  l_36
def Z14_j56 (s36_51:Nat) (k_next_50:Nat->(List Bs)->Option (Sl Bs)) (y57_id24_5:(List Bs)):Option (Sl Bs):=k_next_50 (s36_51+1) y57_id24_5
def Z14_l50 (a0:TDoc) (a1:Bs) (x3:(TDef×Bool)) :Nat->Nat->(List Bs)->Option (Sl Bs)
 | 0,_,_=>none
 | n50+1,s36_51,y52_id24_5=>bif (decide (((s36_51:Nat):Int)<((a0.FDefs.l.length:Nat):Int))) then((a0.FDefs.l[s36_51]?).bind fun x59=>(Z20 x59 a1).bind fun x61=>bif x61 then(Z14_j56 s36_51 ((Z14_l50 a0 a1 x3 n50)) (insS y52_id24_5 x59.FName)) else(Z14_j56 s36_51 ((Z14_l50 a0 a1 x3 n50)) y52_id24_5)) else(Z14_j6 a0 a1 x3  y52_id24_5)
def Z14_l67 (a0:TDoc) (a1:Bs) (x3:(TDef×Bool)) :Nat->Nat->(List Bs)->Option (Sl Bs)
 | 0,_,_=>none
 | n67+1,s52_68,y69_id24_5=>bif (decide (((s52_68:Nat):Int)<((x3.1.FMembers.l.length:Nat):Int))) then((x3.1.FMembers.l[s52_68]?).bind fun x75=>(Z14_l67 a0 a1 x3 n67) (s52_68+1) (insS y69_id24_5 x75.FName)) else(Z14_j6 a0 a1 x3  y69_id24_5)
def Z14 (a0:TDoc) (a1:Bs):Option (Sl Bs):=(Z114 a0 a1).bind fun x3=>bif (decide (x3.1.FKind=(1:Int))) then(Z14_j6 a0 a1 x3  (insS ([]:List Bs) a1)) else(bif (decide (x3.1.FKind=(2:Int))) then(Z14_l50 a0 a1 x3 (a0.FDefs.l.length+1) 0 ([]:List Bs)) else(bif (decide (x3.1.FKind=(3:Int))) then(Z14_l67 a0 a1 x3 (x3.1.FMembers.l.length+1) 0 ([]:List Bs)) else(Z14_j6 a0 a1 x3  ([]:List Bs))))
theorem Z14_walk {a0:TDoc}{a1:Bs}{r:Sl Bs}(hE:Z14 a0 a1=some r) (H:Heap) :ACalls Tryz.prog 180 [.agg (TDoc.c a0),.d (.str a1)] H fun v h'=>v=.a (.d (Sl.d 1 strE none r))/\h'=H:=by
 unfold Z14 at hE;refine ACalls.oW 113 [.tmp 4] Tryz.call180 Tryz.func180 ?_;refine AWp.tok 1 fun tk1 htk1=>?_;refine seqR (S BX ?_);refine s0 (assignNil (k':=1) rfl) rfl ?_;refine nil ?_;refine seqR (S Ld (S Mv ?_));obtain⟨x3,gx3,hE⟩:=bO hE;refine Sc rfl rfl (Z114_walk gx3) ?_;refine S Mv (S EX (S EX ?_));refine Sl ?_;refine Sf ?_;refine S As (nil ?_);refine freezeA 5 _ rfl (KA 1 (KA 2 Keeps.nil)) ?_
 refine seqR ?_;refine sE StepE.makeMap rfl (fun _ _ _ ⟨id24_5,hid24_5,e1,e2,e3⟩=>?_); subst e1 e2 e3;obtain⟨ne_id24_5_tk1,hid24_5⟩:=Heap.set_fresh hid24_5;refine hq ((H.set tk1 (some (.tok 1 0))).set id24_5 (some (.map (seenM ([]:List Bs))))) ?_;refine S As (nil ?_);refine seqJH (TA 1 (TA 2 (TA 5 (TA 7 KeepsT.nil)))) (fun(z:(List Bs))=>[]) (fun z=>((H.set tk1 (some (.tok 1 0))).set id24_5 (some (.map (seenM z))))) (fun z=>Z14_j6 a0 a1 x3 z=some r) ?_ ?_
 ·intro K6 hK6;refine seqR (S Fv (S Ld (nil ?_)));refine block ?_;refine seqR (S BI (S As (nil ?_)));refine cE hE (fun hc45 hE=>?_) (fun hc45 hE=>?_)
  ·refine region ?_;refine S Mv (S Mv ?_);refine sHn (mapUpdate (TK rfl) rfl (TK rfl) rfl rfl rfl rfl hpG (seen_upd _ _) rfl) rfl rfl ?_;refine hq ((H.set tk1 (some (.tok 1 0))).set id24_5 (some (.map (seenM (insS ([]:List Bs) a1))))) ?_;refine nil ?_;exact hK6 _ (insS ([]:List Bs) a1) Weak.toA hE
  refine seqR (S BI (S As (nil ?_)));refine cE hE (fun hc47 hE=>?_) (fun hc47 hE=>?_)
  ·refine seqR (S Fv (S Ld ?_));refine sLen (f:=TDef.c) (s:=a0.FDefs) (TK rfl) rfl rfl rfl rfl fun hL49=>?_;refine S Mv (nil ?_);refine block ?_;refine loopH (TA 1 (TA 2 (TA 5 (TA 7 (TA 34 (TA 35 KeepsT.nil)))))) (fun(z:Nat×Nat×(List Bs))=>[(36,.a (.d (.int .i64 ((z.2.1:Nat):Int))))]) (fun z=>((H.set tk1 (some (.tok 1 0))).set id24_5 (some (.map (seenM z.2.2))))) (fun z=>z.1) (fun z=>Z14_l50 a0 a1 x3 z.1 z.2.1 z.2.2=some r) ((a0.FDefs.l.length+1),0,([]:List Bs)) hE Weak.toA ?_
   rintro ⟨n50,s36_51,y52_id24_5⟩ hE K50 hK50;try dsimp only at hE
   cases n50 with
   | zero=>cases hE
   | succ n50 =>
     rw [Z14_l50] at hE;refine seqR (S BI (nil ?_));refine seqK fun K54 hK54=>?_;refine cE hE (fun hc55 hE=>?_) (fun hc55 hE=>?_)
     ·try dsimp only at hc55
      have hf55:=of_decide_eq_true hc55;refine sk hK54 ?_;clear hK54 K54;refine seqJH (TA 1 (TA 2 (TA 5 (TA 7 (TA 34 (TA 35 (TA 36 KeepsT.nil))))))) (fun(z:(List Bs))=>[]) (fun z=>((H.set tk1 (some (.tok 1 0))).set id24_5 (some (.map (seenM z))))) (fun z=>Z14_j56 s36_51 ((Z14_l50 a0 a1 x3 n50)) z=some r) ?_ ?_
      ·intro K56 hK56;refine block ?_;refine seqR ?_;obtain⟨x59,gx59,hE⟩:=bO hE;refine S (ix TDef.c s36_51 gx59) (S Ld ?_);refine Sl ?_;refine Sf ?_;refine nil ?_;refine freezeA 9 _ rfl (KA 1 (KA 2 (KA 5 (KA 7 (KA 34 (KA 35 (KA 36 Keeps.nil))))))) ?_;refine seqR (S Ld (S Mv ?_));obtain⟨x61,gx61,hE⟩:=bO hE;refine Sc rfl rfl (Z20_walk gx61) ?_;refine nil ?_;refine cE hE (fun hc62 hE=>?_) (fun hc62 hE=>?_)
       ·refine region ?_;refine S Mv (S Fv (S Ld ?_));refine sHn (mapUpdate (TK rfl) rfl (TK rfl) rfl rfl rfl rfl hpG (seen_upd _ _) rfl) rfl rfl ?_;refine hq ((H.set tk1 (some (.tok 1 0))).set id24_5 (some (.map (seenM (insS y52_id24_5 x59.FName))))) ?_;refine nil ?_;exact hK56 _ (insS y52_id24_5 x59.FName) Weak.toA hE
       refine AWp.skip ?_;exact hK56 _ y52_id24_5 Weak.toA hE
      rintro y57_id24_5 hE;try dsimp only at hE
      unfold Z14_j56 at hE;refine region ?_;refine SI ?_;refine S Mv (nil ?_);exact hK50 _ (n50,(s36_51+1),y57_id24_5) Weak.toA hE (Nat.lt_succ_self _)
     refine AWp.exit ?_;exact hK6 _ y52_id24_5 Weak.toA hE
  refine seqR (S BI (S As (nil ?_)));refine cE hE (fun hc64 hE=>?_) (fun hc64 hE=>?_)
  ·refine seqR (S Fv (S Ld ?_));refine sLen (f:=Z8.c) (s:=x3.1.FMembers) (TK rfl) rfl rfl rfl rfl fun hL66=>?_;refine S Mv (nil ?_);refine block ?_;refine loopH (TA 1 (TA 2 (TA 5 (TA 7 (TA 50 (TA 51 KeepsT.nil)))))) (fun(z:Nat×Nat×(List Bs))=>[(52,.a (.d (.int .i64 ((z.2.1:Nat):Int))))]) (fun z=>((H.set tk1 (some (.tok 1 0))).set id24_5 (some (.map (seenM z.2.2))))) (fun z=>z.1) (fun z=>Z14_l67 a0 a1 x3 z.1 z.2.1 z.2.2=some r) ((x3.1.FMembers.l.length+1),0,([]:List Bs)) hE Weak.toA ?_
   rintro ⟨n67,s52_68,y69_id24_5⟩ hE K67 hK67;try dsimp only at hE
   cases n67 with
   | zero=>cases hE
   | succ n67 =>
     rw [Z14_l67] at hE;refine seqR (S BI (nil ?_));refine seqK fun K71 hK71=>?_;refine cE hE (fun hc72 hE=>?_) (fun hc72 hE=>?_)
     ·try dsimp only at hc72
      have hf72:=of_decide_eq_true hc72;refine sk hK71 ?_;clear hK71 K71;refine seqK fun K73 hK73=>?_;refine block ?_;refine seqR ?_;obtain⟨x75,gx75,hE⟩:=bO hE;refine S (ix Z8.c s52_68 gx75) (S Ld ?_);refine Sl ?_;refine Sf ?_;refine nil ?_;refine freezeA 11 _ rfl (KA 1 (KA 2 (KA 5 (KA 7 (KA 50 (KA 51 (KA 52 Keeps.nil))))))) ?_;refine region ?_;refine S Mv (S Fv (S Ld ?_));refine sHn (mapUpdate (TK rfl) rfl (TK rfl) rfl rfl rfl rfl hpG (seen_upd _ _) rfl) rfl rfl ?_
      refine hq ((H.set tk1 (some (.tok 1 0))).set id24_5 (some (.map (seenM (insS y69_id24_5 x75.FName))))) ?_;refine nil ?_;refine hK73 _ ?_;clear hK73 K73;refine region ?_;refine SI ?_;refine S Mv (nil ?_);exact hK67 _ (n67,(s52_68+1),(insS y69_id24_5 x75.FName)) Weak.toA hE (Nat.lt_succ_self _)
     refine AWp.exit ?_;exact hK6 _ y69_id24_5 Weak.toA hE
  refine AWp.skip ?_;exact hK6 _ ([]:List Bs) Weak.toA hE
 rintro y7_id24_5 hE;try dsimp only at hE
 unfold Z14_j6 at hE;refine seqJH (TA 2 (TA 7 KeepsT.nil)) (fun(z:(List Bs))=>[]) (fun z=>((H.set tk1 (some (.tok 1 0))).set id24_5 (some (.map (seenM z))))) (fun z=>Z14_j8 a0 z=some r) ?_ ?_
 ·intro K8 hK8;refine seqK fun K33 hK33=>?_;refine AWp.exMap id24_5 (l:=y7_id24_5) hpG fun b34 p34 ck34 hp34=>?_;refine AWp.heqA (h':=((H.set tk1 (some (.tok 1 0))).set id24_5 (some (.fixt b34 (.map (mE p34).toArray ck34))))) (by first|rfl|(rw [Heap.set_set]; rfl)|(funext n_; simp only [Heap.set]; (repeat' split)<;>first|rfl|(exfalso; simp_all; done)|(simp_all; done))) ?_;refine region ?_;refine S Mv ?_
  refine sE (StepE.rangeM (TK rfl) rfl rfl hpG) rfl ?_;rintro _ _ _ ⟨it61_35,rit61_35,hit61_35,rfl,rfl,rfl⟩;obtain⟨ne_it61_35_id24_5,hit61_35⟩:=Heap.set_fresh hit61_35;obtain⟨ne_it61_35_tk1,hit61_35⟩:=Heap.set_fresh hit61_35;refine hq (((H.set tk1 (some (.tok 1 0))).set id24_5 (some (.fixt b34 (.map (mE p34).toArray ck34)))).set it61_35 (some (.fixt rit61_35 (.mapIter (some b34) ck34 (#[]) ck34)))) ?_
  refine nil ?_;refine hK33 _ ?_;clear hK33 K33;refine block ?_;obtain⟨l_36,gl_36,hE⟩:=bO hE;refine loopH (TA 1 (TA 2 (TA 5 (TA 7 (TA 61 KeepsT.nil))))) (fun(z:List (Bs×Nat)×Array Nat)=>[]) (fun z=>(((H.set tk1 (some (.tok 1 0))).set id24_5 (some (.fixt b34 (.map (mE z.1).toArray ck34)))).set it61_35 (some (.fixt rit61_35 (.mapIter (some b34) ck34 z.2 ck34))))) (fun z=>(leftP z.1 z.2).length) (fun z=>RInv (Z14_k36 a0 a1 x3) l_36 ck34 z) (p34,#[]) (RInv.start gl_36 hp34) Weak.toA ?_
  rintro ⟨p_36,sn_36⟩ hI K36 hK36;try dsimp only at hI
  refine seqK fun Ka36 hKa36=>?_;refine region ?_;refine sE (StepE.nextM (id:=id24_5) rfl hpG hpG hI.pop.lt (fun x hx=>hI.pop.len _ (List.mem_map_of_mem hx))) rfl ?_;rintro _ _ _ ⟨rfl,⟨hl0,rfl,rfl⟩|⟨s_36,n_36,hx_,rfl,rfl⟩⟩
  ·refine S EX (nil ?_);refine hKa36 _ ?_;refine seqK fun Kb36 hKb36=>?_;refine AWp.mapEx id24_5 hpG hI.pop ?_;rw [hI.done hl0];refine AWp.heqA (h':=(((H.set tk1 (some (.tok 1 0))).set id24_5 (some (.map (seenM l_36)))).set it61_35 (some (.fixt rit61_35 (.mapIter (some b34) ck34 sn_36 ck34))))) (by first|rfl|(rw [Heap.set_set]; rfl)|(funext n_; simp only [Heap.set]; (repeat' split)<;>first|rfl|(exfalso; simp_all; done)|(simp_all; done))) ?_
   refine AWp.cond rfl (fun h_=>by cases h_) fun _=>?_;refine AWp.exit ?_;exact hK8 _ l_36 (Weak.toFA (by(intro id_ o_ he_); (have e_it61_35:id_≠it61_35:=fun e_=>by rw [e_] at he_; simp [Heap.set,hit61_35,ne_it61_35_tk1,ne_it61_35_id24_5] at he_); (rw [<- he_]); (simp only [Heap.set,if_neg e_it61_35]); (first|done|rfl))) hE
  obtain⟨r,hb_⟩:=hI.told _ (leftP_mem hx_).1;have hE:=hb_;simp only at hE;unfold Z14_k36 at hE;refine hq (((H.set tk1 (some (.tok 1 0))).set id24_5 (some (.fixt b34 (.map (mE p_36).toArray ck34)))).set it61_35 (some (.fixt rit61_35 (.mapIter (some b34) ck34 (sn_36.push n_36) ck34)))) ?_;refine S EX (nil ?_);refine hKa36 _ ?_;refine seqK fun Kb36 hKb36=>?_;refine AWp.cond rfl (fun _=>?_) (fun h_=>by cases h_)
  refine AWp.skip ?_;refine hKb36 _ ?_;refine block ?_;refine seqR ?_;refine s0 (entryM (id:=id24_5) rfl hpG hpG (leftP_mem hx_).1 hI.pop.nodup (hI.pop.len _ (List.mem_map_of_mem (leftP_mem hx_).1))) rfl ?_;refine S EX (S As (nil ?_));refine seqR (S Ld (S Mv ?_));obtain⟨x39,gx39,hE⟩:=bO hE;refine Sc rfl rfl (Z114_walk gx39) ?_;refine S Mv (S EX (S EX ?_));refine Sl ?_;refine Sf ?_;refine S As (nil ?_)
  refine freezeA 13 _ rfl (KA 1 (KA 2 (KA 5 (KA 7 (KA 12 (KA 14 (KA 61 Keeps.nil))))))) ?_;refine seqR (S Mv (S NB (S Mv (G0 Fv ?_))));refine G1 75 rfl Ld ?_;refine G1 76 rfl BI ?_;refine S PO (S Mv (G0 Fv ?_));refine G1 80 rfl Ld ?_;refine G1 81 rfl BI ?_;refine G1 82 rfl Mv ?_;refine G0 Ld (G0 Mv ?_);obtain⟨x41,gx41,hE⟩:=gO hE;refine Gc2 84 85 rfl rfl rfl rfl rfl rfl (fun hC=>Z20_walk (gx41 hC)) ?_
  refine G1 86 rfl NB ?_;refine gC rfl rfl (fun hC=>ungdA (k:=83) rfl (pickAndA rfl rfl rfl)) rfl ?_;refine S PO (nil ?_);refine cE hE (fun hc42 hE=>?_) (fun hc42 hE=>?_)
  ·refine region ?_;refine S Mv (S Mv ?_);refine sHn (deleteF (TK rfl) rfl (TK rfl) rfl rfl rfl rfl hpG (fun x hx=>hI.pop.len _ (List.mem_map_of_mem hx))) rfl rfl ?_;refine hq (((H.set tk1 (some (.tok 1 0))).set id24_5 (some (.fixt b34 (.map (mE (delP p_36 s_36)).toArray ck34)))).set it61_35 (some (.fixt rit61_35 (.mapIter (some b34) ck34 (sn_36.push n_36) ck34)))) ?_;refine nil ?_;obtain rfl:=Option.some.inj hE
   obtain⟨hI2,hm2⟩:=hI.drop hx_ hb_;exact hK36 _ ((delP p_36 s_36),sn_36.push n_36) Weak.toA hI2 hm2
  refine AWp.skip ?_;obtain rfl:=Option.some.inj hE;obtain⟨hI2,hm2⟩:=hI.keep hx_ hb_;exact hK36 _ (p_36,sn_36.push n_36) Weak.toA hI2 hm2
 rintro y9_id24_5 hE;try dsimp only at hE
 unfold Z14_j8 at hE;refine seqR (S As (nil ?_));refine AWp.nilTok 15 1 tk1 rfl hpG ?_;refine seqJH KeepsT.nil (fun(z:(Sl Bs)×(List Bs))=>[(15,.a (.d (Sl.d 1 strE (some tk1) z.1)))]) (fun z=>((H.set tk1 (some (.tok 1 z.1.l.length))).set id24_5 (some (.map (seenM z.2))))) (fun z=>Z14_j11 z.1 z.2=some r) ?_ ?_
 ·intro K11 hK11;refine seqR (S Fv (S Ld ?_));refine sLen (f:=TDef.c) (s:=a0.FDefs) (TK rfl) rfl rfl rfl rfl fun hL16=>?_;refine S Mv (nil ?_);refine block ?_;refine loopH (TA 7 (TA 93 (TA 94 KeepsT.nil))) (fun(z:Nat×(Sl Bs)×Nat×(List Bs))=>[(15,.a (.d (Sl.d 1 strE (some tk1) z.2.1))),(95,.a (.d (.int .i64 ((z.2.2.1:Nat):Int))))]) (fun z=>((H.set tk1 (some (.tok 1 z.2.1.l.length))).set id24_5 (some (.map (seenM z.2.2.2))))) (fun z=>z.1) (fun z=>Z14_l17 a0 z.1 z.2.1 z.2.2.1 z.2.2.2=some r) ((a0.FDefs.l.length+1),(Sl.nil:Sl Bs),0,y9_id24_5) hE Weak.toA ?_
  rintro ⟨n17,s15_18,s95_19,y20_id24_5⟩ hE K17 hK17;try dsimp only at hE
  cases n17 with
  | zero=>cases hE
  | succ n17 =>
    rw [Z14_l17] at hE;refine seqR (S BI (nil ?_));refine seqK fun K22 hK22=>?_;refine cE hE (fun hc23 hE=>?_) (fun hc23 hE=>?_)
    ·try dsimp only at hc23
     have hf23:=of_decide_eq_true hc23;refine sk hK22 ?_;clear hK22 K22;refine seqJH (TA 7 (TA 93 (TA 94 (TA 95 KeepsT.nil)))) (fun(z:(Sl Bs)×(List Bs))=>[(15,.a (.d (Sl.d 1 strE (some tk1) z.1)))]) (fun z=>((H.set tk1 (some (.tok 1 z.1.l.length))).set id24_5 (some (.map (seenM z.2))))) (fun z=>Z14_j24 s95_19 ((Z14_l17 a0 n17)) z.1 z.2=some r) ?_ ?_
     ·intro K24 hK24;refine block ?_;refine seqR ?_;obtain⟨x28,gx28,hE⟩:=bO hE;refine S (ix TDef.c s95_19 gx28) (S Ld ?_);refine Sl ?_;refine Sf ?_;refine nil ?_;refine freezeA 17 _ rfl (KA 7 (KA 15 (KA 93 (KA 94 (KA 95 Keeps.nil))))) ?_;refine seqR (S Mv (S Fv (S Ld ?_)));refine s0 (lookupSeen (TK rfl) rfl (TK rfl) (TK rfl) rfl rfl rfl rfl hpG) rfl ?_;refine nil ?_;refine cE hE (fun hc30 hE=>?_) (fun hc30 hE=>?_)
      ·refine seqR (S Mv (S Fv (S Ld (S BV ?_))));obtain⟨x32,gx32,hE⟩:=bO hE;refine SH (am strE (TK rfl) rfl (TK rfl) (TK rfl) gx32) ?_;refine hq ((H.set tk1 (some (.tok 1 x32.l.length))).set id24_5 (some (.map (seenM y20_id24_5)))) ?_;refine S As (nil ?_);refine region ?_;refine S Mv (S Fv (S Ld ?_));refine sHn (deleteM (TK rfl) rfl (TK rfl) rfl rfl rfl rfl hpG) rfl rfl ?_;refine hq ((H.set tk1 (some (.tok 1 x32.l.length))).set id24_5 (some (.map (seenM (List.erase y20_id24_5 x28.FName))))) ?_
       refine nil ?_;exact hK24 _ (x32,(List.erase y20_id24_5 x28.FName)) Weak.toA hE
      refine AWp.skip ?_;exact hK24 _ (s15_18,y20_id24_5) Weak.toA hE
     rintro ⟨s15_25,y26_id24_5⟩ hE;try dsimp only at hE
     unfold Z14_j24 at hE;refine region ?_;refine SI ?_;refine S Mv (nil ?_);exact hK17 _ (n17,s15_25,(s95_19+1),y26_id24_5) Weak.toA hE (Nat.lt_succ_self _)
    refine AWp.exit ?_;exact hK11 _ (s15_18,y20_id24_5) Weak.toA hE
 rintro ⟨s15_12,y13_id24_5⟩ hE;try dsimp only at hE
 unfold Z14_j11 at hE;refine seqR (S Mv (S As (nil ?_)));refine AWp.dropTok 4 rfl ?_;refine AWp.ret ?_;repeat (first|refine xBlock_ret ?_|refine xThen_ret ?_)
 obtain rfl:=Option.some.inj hE;refine retQ.retF H rfl ⟨rfl,rfl⟩ ?_;intro id_ o_ he_;have e_tk1:id_≠tk1:=fun e_=>by subst e_; simp_all [Heap.set]
 have e_id24_5:id_≠id24_5:=fun e_=>by subst e_; simp_all [Heap.set]
 rw [<- he_];simp only [Heap.set] at he_ ⊢
 (repeat' split)<;>simp_all
def Z13 (a0:TDoc) (a1:Bs) (a2:Bs):Option Bool:=(Z14 a0 a2).bind fun x3=>(Z133 x3 a1).bind fun x4=>some x4
theorem Z13_walk {a0:TDoc}{a1 a2:Bs}{r:Bool}(hE:Z13 a0 a1 a2=some r) (H:Heap) :ACalls Tryz.prog 163 [.agg (TDoc.c a0),.d (.str a1),.d (.str a2)] H fun v h'=>v=.a (.d (.bool r))/\h'=H:=by
 unfold Z13 at hE;refine ACalls.oW 12 [.tmp 6] Tryz.call163 Tryz.func163 ?_;refine seqR (S BX (S As (nil ?_)));refine seqR (S Ld (S Mv ?_));obtain⟨x3,gx3,hE⟩:=bO hE;refine Sc rfl rfl (Z14_walk gx3) ?_;refine S Mv ?_;obtain⟨x4,gx4,hE⟩:=bO hE;refine Sc rfl rfl (Z133_walk gx4) ?_;refine S As (nil ?_);exact rt hE
def Z15_n:Nat->TDoc->TRef->TRef->Option Bool
 | 0,_,_,_=>none
 | n+1,a0,a1,a2=>(Z144 a2).bind fun x4=>bif x4 then((Z144 a1).bind fun x7=>guardO (x7) (Z145 a1) TRef.zero fun x8=>guardO (x7) (Z145 a2) TRef.zero fun x9=>guardO (x7) ((Z15_n n) a0 x8 x9) false fun x10=>some (x7&&x10)) else((Z144 a1).bind fun x13=>bif x13 then((Z145 a1).bind fun x16=>((Z15_n n) a0 x16 a2).bind fun x17=>some x17) else((Z142 a1).bind fun x19=>(Z142 a2).bind fun x21=>bif (x19.2||x21.2) then(guardO ((x19.2&&x21.2)) ((Z15_n n) a0 x19.1 x21.1) false fun x26=>some ((x19.2&&x21.2)&&x26)) else(guardO (!((a1.FName==a2.FName))) (Z13 a0 a1.FName a2.FName) false fun x28=>some (((a1.FName==a2.FName))||x28))))
theorem Z15_step (n:Nat) (ih_122:∀{a0:TDoc}{a1 a2:TRef}{r:Bool},Z15_n n a0 a1 a2=some r->∀(H:Heap),ACalls Tryz.prog 122 [.agg (TDoc.c a0),.agg (TRef.c a1),.agg (TRef.c a2)] H fun v h'=>v=.a (.d (.bool r))/\h'=H):∀{a0:TDoc}{a1 a2:TRef}{r:Bool},Z15_n (n+1) a0 a1 a2=some r->∀(H:Heap),ACalls Tryz.prog 122 [.agg (TDoc.c a0),.agg (TRef.c a1),.agg (TRef.c a2)] H fun v h'=>v=.a (.d (.bool r))/\h'=H:=by
 intro a0 a1 a2   r hE H ;rw [Z15_n] at hE;refine ACalls.oW 67 [.tmp 6] Tryz.call122 Tryz.func122 ?_;refine seqR (S BX (S BX (S BX (S As (nil ?_)))));refine seqK fun K2 hK2=>?_;refine seqR (S Ld ?_);obtain⟨x4,gx4,hE⟩:=bO hE;refine Sc rfl rfl (Z144_walk gx4) ?_;refine nil ?_;refine cE hE (fun hc5 hE=>?_) (fun hc5 hE=>?_)
 ·refine AWp.seqD (Sd Ld ?_);obtain⟨x7,gx7,hE⟩:=bO hE;refine Scd rfl rfl (Z144_walk gx7) ?_;refine Sd Mv (G0d Ld (G0d Ld ?_));obtain⟨x8,gx8,hE⟩:=gO hE;refine Gc1d 17 rfl rfl rfl rfl rfl (fun hC=>Z145_walk (gx8 hC)) ?_;refine G0d Ld ?_;obtain⟨x9,gx9,hE⟩:=gO hE;refine Gc1d 19 rfl rfl rfl rfl rfl (fun hC=>Z145_walk (gx9 hC)) ?_;obtain⟨x10,gx10,hE⟩:=gO hE;refine DOps.gC rfl rfl (fun hC=>ungdA (k:=16) rfl (ungdA (k:=18) rfl (ungdA (k:=20) rfl (callP rfl rfl (fun H=>ih_122 (gx10 hC) H))))) rfl ?_
  refine Sd PA (Sd As ?_);refine DOps.nil (by decide +kernel) ?_;exact rt hE
 refine sk hK2 ?_;clear hK2 K2;refine seqK fun K11 hK11=>?_;refine seqR (S Ld ?_);obtain⟨x13,gx13,hE⟩:=bO hE;refine Sc rfl rfl (Z144_walk gx13) ?_;refine nil ?_;refine cE hE (fun hc14 hE=>?_) (fun hc14 hE=>?_)
 ·refine AWp.seqD (Sd Ld (Sd Ld ?_));obtain⟨x16,gx16,hE⟩:=bO hE;refine Scd rfl rfl (Z145_walk gx16) ?_;refine Sd Ld ?_;obtain⟨x17,gx17,hE⟩:=bO hE;refine Scd rfl rfl (ih_122 gx17) ?_;refine Sd As ?_;refine DOps.nil (by decide +kernel) ?_;exact rt hE
 refine sk hK11 ?_;clear hK11 K11;refine seqR (S Ld ?_);obtain⟨x19,gx19,hE⟩:=bO hE;refine Sc rfl rfl (Z142_walk gx19) ?_;refine S Mv (S EX (S EX ?_));refine Sl ?_;refine Sf ?_;refine S As (nil ?_);refine freezeA 7 _ rfl (KA 3 (KA 4 (KA 5 (KA 8 Keeps.nil)))) ?_;refine seqR (S Ld ?_);obtain⟨x21,gx21,hE⟩:=bO hE;refine Sc rfl rfl (Z142_walk gx21) ?_;refine S Mv (S EX (S EX ?_));refine Sl ?_;refine Sf ?_
 refine S As (nil ?_);refine freezeA 9 _ rfl (KA 3 (KA 4 (KA 5 (KA 7 (KA 8 (KA 10 Keeps.nil)))))) ?_;refine seqK fun K22 hK22=>?_;refine seqR (S Mv (S Mv (G0 Mv (S PO (nil ?_)))));refine cE hE (fun hc24 hE=>?_) (fun hc24 hE=>?_)
 ·refine seqR (S Mv (S Mv (G0 Mv (S PA (S Mv (G0 Ld (G0 Ld (G0 Ld ?_))))))));obtain⟨x26,gx26,hE⟩:=gO hE;refine gC rfl rfl (fun hC=>ungdA (k:=49) rfl (ungdA (k:=50) rfl (ungdA (k:=51) rfl (callP rfl rfl (fun H=>ih_122 (gx26 hC) H))))) rfl ?_;refine S PA (S As (nil ?_));exact rt hE
 refine sk hK22 ?_;clear hK22 K22;refine seqR (S Fv (S Ld (S Fv (S Ld (S BS (S Mv (G0 Ld (G0 Fv ?_))))))));refine G1 61 rfl Ld ?_;refine G0 Fv ?_;refine G1 63 rfl Ld ?_;obtain⟨x28,gx28,hE⟩:=gO hE;refine gC rfl rfl (fun hC=>ungdA (k:=60) rfl (ungdA (k:=62) rfl (ungdA (k:=64) rfl (callP rfl rfl (fun H=>Z13_walk (gx28 hC) H))))) rfl ?_;refine S PO (S As (nil ?_));exact rt hE
theorem Z15_all:∀(n:Nat),(∀{a0:TDoc}{a1 a2:TRef}{r:Bool},Z15_n n a0 a1 a2=some r->∀(H:Heap),ACalls Tryz.prog 122 [.agg (TDoc.c a0),.agg (TRef.c a1),.agg (TRef.c a2)] H fun v h'=>v=.a (.d (.bool r))/\h'=H)
 | 0=>fun hE=>by first|cases hE|(rw [Z15_n] at hE; cases hE)
 | n+1=>Z15_step n (Z15_all n)
def Z15 (a0:TDoc) (a1:TRef) (a2:TRef):Option Bool:=Z15_n F0 a0 a1 a2
theorem Z15_walk {a0:TDoc}{a1 a2:TRef}{r:Bool}(hE:Z15 a0 a1 a2=some r) (H:Heap) :ACalls Tryz.prog 122 [.agg (TDoc.c a0),.agg (TRef.c a1),.agg (TRef.c a2)] H fun v h'=>v=.a (.d (.bool r))/\h'=H:=(Z15_all F0) hE H 
def Z115_j2  (y3_l0:Z7):Option (Z7×Bool):=some ((Z7.mk ([]:Bs) TRef.zero false Z10.zero (Sl.nil:Sl TDir)),false)
def Z115_l7 (a0:(Sl Z7)) (a1:Bs) :Nat->Nat->Z7->Option (Z7×Bool)
 | 0,_,_=>none
 | n7+1,s10_8,y9_l0=>bif (decide (((s10_8:Nat):Int)<((a0.l.length:Nat):Int))) then((a0.l[s10_8]?).bind fun x15=>bif ((x15.FName==a1)) then(some (x15,true)) else((Z115_l7 a0 a1 n7) (s10_8+1) y9_l0)) else(Z115_j2   y9_l0)
def Z115 (a0:(Sl Z7)) (a1:Bs):Option (Z7×Bool):=Z115_l7 a0 a1 (a0.l.length+1) 0 Z7.zero
theorem Z115_walk {a0:Sl Z7}{a1:Bs}{w0:Option Nat}{r:Z7×Bool}(hE:Z115 a0 a1=some r) (H:Heap) :ACalls Tryz.prog 123 [.d (Sl.d 10 Z7.c w0 a0),.d (.str a1)] H fun v h'=>v=.tup [.agg (Z7.c r.1),.d (.bool r.2)]/\h'=H:=by
 unfold Z115 at hE;refine ACalls.oW 21 [.cell 4 88,.tmp 5] Tryz.call123 Tryz.func123 ?_;refine seqR ?_;refine Sl ?_;refine S As (nil ?_);refine seqJ (TA 4 KeepsT.nil) (fun(z:Z7)=>[]) (fun z=>[Z7.c z]) (fun z=>H) (fun z=>Z115_j2 z=some r) ?_ ?_
 ·intro K2 hK2;refine seqR (S Mv ?_);refine sLen (f:=Z7.c) (s:=a0) (TK rfl) rfl rfl rfl rfl fun hL6=>?_;refine S Mv (nil ?_);refine block ?_;refine loopO (TA 1 (TA 4 (TA 8 (TA 9 KeepsT.nil)))) (fun(z:Nat×Nat×Z7)=>[(10,.a (.d (.int .i64 ((z.2.1:Nat):Int))))]) (fun z=>[Z7.c z.2.2]) (fun z=>H) (fun z=>z.1) (fun z=>Z115_l7 a0 a1 z.1 z.2.1 z.2.2=some r) ((a0.l.length+1),0,Z7.zero) hE Weak.toA ?_;rintro ⟨n7,s10_8,y9_l0⟩ hE K7 hK7
  try dsimp only at hE
  cases n7 with
  | zero=>cases hE
  | succ n7 =>
    rw [Z115_l7] at hE;refine seqR (S BI (nil ?_));refine seqK fun K11 hK11=>?_;refine cE hE (fun hc12 hE=>?_) (fun hc12 hE=>?_)
    ·try dsimp only at hc12
     have hf12:=of_decide_eq_true hc12;refine sk hK11 ?_;clear hK11 K11;refine seqK fun K13 hK13=>?_;refine block ?_;refine seqR ?_;obtain⟨x15,gx15,hE⟩:=bO hE;refine S (ix Z7.c s10_8 gx15) (S Ld ?_);refine Sl ?_;refine Sf ?_;refine nil ?_;refine freezeA 7 _ rfl (KA 1 (KA 4 (KA 8 (KA 9 (KA 10 Keeps.nil))))) ?_;refine seqR (S Fv (S Ld (S Mv (S BS (nil ?_)))));refine cE hE (fun hc17 hE=>?_) (fun hc17 hE=>?_)
     ·refine seqR (S Ld ?_);refine Sf ?_;refine S As (nil ?_);exact rt hE
     refine sk hK13 ?_;clear hK13 K13;refine region ?_;refine SI ?_;refine S Mv (nil ?_);exact hK7 _ (n7,(s10_8+1),y9_l0) Weak.toA hE (Nat.lt_succ_self _)
    refine AWp.exit ?_;exact hK2 _ y9_l0 Weak.toA hE
 rintro y3_l0 hE;try dsimp only at hE
 unfold Z115_j2 at hE;refine seqR (S BU ?_);refine Sf ?_;refine S As (nil ?_);exact rt hE
def Z134_j8  :Option Bool:=some true
def Z134_l12 (a0:(Sl Int)) (a1:(Sl Int)) :Nat->Nat->Option Bool
 | 0,_=>none
 | n12+1,s13_13=>bif (decide (((s13_13:Nat):Int)<((a0.l.length:Nat):Int))) then((a0.l[s13_13]?).bind fun x20=>(a1.l[s13_13]?).bind fun x21=>bif (!decide (x20=x21)) then(some false) else((Z134_l12 a0 a1 n12) (s13_13+1))) else(Z134_j8   )
def Z134 (a0:(Sl Int)) (a1:(Sl Int)):Option Bool:=bif (!decide (((a0.l.length:Nat):Int)=((a1.l.length:Nat):Int))) then(some false) else(Z134_l12 a0 a1 (a0.l.length+1) 0)
theorem Z134_walk {a0 a1:Sl Int}{w0 w1:Option Nat}{r:Bool}(hE:Z134 a0 a1=some r) (H:Heap) :ACalls Tryz.prog 164 [.d (Sl.d 1 (intE .i64) w0 a0),.d (Sl.d 1 (intE .i64) w1 a1)] H fun v h'=>v=.a (.d (.bool r))/\h'=H:=by
 unfold Z134 at hE;refine ACalls.oW 26 [.tmp 4] Tryz.call164 Tryz.func164 ?_;refine seqR (S As (nil ?_));refine seqK fun K2 hK2=>?_;refine seqR (S Mv ?_);refine sLen (f:=(intE .i64)) (s:=a0) (TK rfl) rfl rfl rfl rfl fun hL4=>?_;refine S Mv ?_;refine sLen (f:=(intE .i64)) (s:=a1) (TK rfl) rfl rfl rfl rfl fun hL5=>?_;refine S BI (nil ?_);refine cE hE (fun hc6 hE=>?_) (fun hc6 hE=>?_)
 ·refine seqR (S As (nil ?_));exact rt hE
 refine sk hK2 ?_;clear hK2 K2;refine seqJH KeepsT.nil (fun(z:Unit)=>[]) (fun z=>H) (fun z=>Z134_j8 =some r) ?_ ?_
 ·intro K8 hK8;refine seqR (S Mv ?_);refine sLen (f:=(intE .i64)) (s:=a0) (TK rfl) rfl rfl rfl rfl fun hL11=>?_;refine S Mv (nil ?_);refine block ?_;refine loopH (TA 0 (TA 1 (TA 12 KeepsT.nil))) (fun(z:Nat×Nat)=>[(13,.a (.d (.int .i64 ((z.2:Nat):Int))))]) (fun z=>H) (fun z=>z.1) (fun z=>Z134_l12 a0 a1 z.1 z.2=some r) ((a0.l.length+1),0) hE Weak.toA ?_;rintro ⟨n12,s13_13⟩ hE K12 hK12;try dsimp only at hE
  cases n12 with
  | zero=>cases hE
  | succ n12 =>
    rw [Z134_l12] at hE;refine seqR (S BI (nil ?_));refine seqK fun K15 hK15=>?_;refine cE hE (fun hc16 hE=>?_) (fun hc16 hE=>?_)
    ·try dsimp only at hc16
     have hf16:=of_decide_eq_true hc16;refine sk hK15 ?_;clear hK15 K15;refine seqK fun K17 hK17=>?_;refine block ?_;refine seqR (S Mv (S As (nil ?_)));refine AWp.seqD (Sd Mv (Sd Mv ?_));obtain⟨x20,gx20,hE⟩:=bO hE;refine Sd (ix (intE .i64) s13_13 gx20) ?_;refine Sd Ld (Sd Mv (Sd Mv ?_));obtain⟨x21,gx21,hE⟩:=bO hE;refine Sd (ix (intE .i64) s13_13 gx21) ?_;refine Sd Ld (Sd BI ?_);refine DOps.nil (by decide +kernel) ?_
     refine cE hE (fun hc22 hE=>?_) (fun hc22 hE=>?_)
     ·refine seqR (S As (nil ?_));exact rt hE
     refine sk hK17 ?_;clear hK17 K17;refine region ?_;refine SI ?_;refine S Mv (nil ?_);exact hK12 _ (n12,(s13_13+1)) Weak.toA hE (Nat.lt_succ_self _)
    refine AWp.exit ?_;exact hK8 _ () Weak.toA hE
 rintro _ hE;try dsimp only at hE
 unfold Z134_j8 at hE;refine seqR (S As (nil ?_));exact rt hE
end Go.Proofs
