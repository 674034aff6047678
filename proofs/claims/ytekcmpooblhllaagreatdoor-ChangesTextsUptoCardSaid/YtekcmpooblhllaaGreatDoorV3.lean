import Derived.Test.YtekcmpooblhllaaGreatDoorV2
set_option maxRecDepth 100000
set_option maxHeartbeats 2000000
set_option linter.unusedVariables false
set_option linter.unusedSimpArgs false
namespace Go.Proofs
open Go Go.Ab
open AOps Cert AWp Keeps KeepsT
variable {lou:Lou}
section
variable [IsLoud lou]
def Z14_l18 (x16:(Sl Bs)) :Nat->Nat->Z0->Option Z0
 | 0,_,_=>none
 | n18+1,s77_19,y20_c0=>bif (decide (((s77_19:Nat):Int)<((x16.l.length:Nat):Int))) then((x16.l[s77_19]?).bind fun x26=>(Z13 y20_c0 (18:Int) ([]:Bs) ([]:Bs) ([]:Bs) x26).bind fun x27=>(Z14_l18 x16 n18) (s77_19+1) x27) else(some y20_c0)
def Z14_j13 (a1:TDef) (a2:TDef)  (y14_c0:Z0):Option Z0:=(Z21 a2.FImplements a1.FImplements).bind fun x16=>Z14_l18 x16 (x16.l.length+1) 0 y14_c0
def Z14_l31 (a1:TDef) (a2:TDef) (x29:(Sl Bs)) :Nat->Nat->Z0->Option Z0
 | 0,_,_=>none
 | n31+1,s63_32,y33_c0=>bif (decide (((s63_32:Nat):Int)<((x29.l.length:Nat):Int))) then((x29.l[s63_32]?).bind fun x39=>(Z13 y33_c0 (17:Int) ([]:Bs) ([]:Bs) x39 ([]:Bs)).bind fun x40=>(Z14_l31 a1 a2 x29 n31) (s63_32+1) x40) else(Z14_j13 a1 a2  y33_c0)
def Z14_j9 (a1:TDef) (a2:TDef)  (y10_c0:Z0):Option Z0:=(Z18 y10_c0 a1.FInputs a2.FInputs (Z1.mk (13:Int) (14:Int) (15:Int) (16:Int)) Z15).bind fun x12=>(Z21 a1.FImplements a2.FImplements).bind fun x29=>Z14_l31 a1 a2 x29 (x29.l.length+1) 0 x12
def Z14_l44 (a1:TDef) (a2:TDef) (x42:(Sl Bs)) :Nat->Nat->Z0->Option Z0
 | 0,_,_=>none
 | n44+1,s42_45,y46_c0=>bif (decide (((s42_45:Nat):Int)<((x42.l.length:Nat):Int))) then((x42.l[s42_45]?).bind fun x52=>(Z13 y46_c0 (12:Int) x52 ([]:Bs) ([]:Bs) ([]:Bs)).bind fun x53=>(Z14_l44 a1 a2 x42 n44) (s42_45+1) x53) else(Z14_j9 a1 a2  y46_c0)
def Z14_j7 (a1:TDef) (a2:TDef) (x5:(Sl Bs)) (x6:(Sl Bs))  (y8_c0:Z0):Option Z0:=(Z21 x6 x5).bind fun x42=>Z14_l44 a1 a2 x42 (x42.l.length+1) 0 y8_c0
def Z14_l57 (a1:TDef) (a2:TDef) (x5:(Sl Bs)) (x6:(Sl Bs)) (x55:(Sl Bs)) :Nat->Nat->Z0->Option Z0
 | 0,_,_=>none
 | n57+1,s30_58,y59_c0=>bif (decide (((s30_58:Nat):Int)<((x55.l.length:Nat):Int))) then((x55.l[s30_58]?).bind fun x65=>(Z13 y59_c0 (11:Int) x65 ([]:Bs) ([]:Bs) ([]:Bs)).bind fun x66=>(Z14_l57 a1 a2 x5 x6 x55 n57) (s30_58+1) x66) else(Z14_j7 a1 a2 x5 x6  y59_c0)
def Z14 (a0:Z0) (a1:TDef) (a2:TDef):Option Z0:=(Z16 a0 a1 a2).bind fun x3=>(Z23 a1.FMembers).bind fun x5=>(Z23 a2.FMembers).bind fun x6=>(Z21 x5 x6).bind fun x55=>Z14_l57 a1 a2 x5 x6 x55 (x55.l.length+1) 0 x3
theorem Z14_walk {a0:Z0}{a1 a2:TDef}{oT:Ab.Obj}{c0 c0_1 gT:Nat}{r:Z0}(hE:Z14 a0 a1 a2=some r) (H:Heap) (hc0:H c0=some (.cells (Z0.cg (some c0_1) a0))) (ht0_1:H c0_1=some (.tok 6 a0.Fout.l.length)) (hgT:H gT=some oT) (hoT:IsTab Tryz.prog oT):AC Tryz.prog 25 [.d (.ptr c0 0),.agg (TDef.c a1),.agg (TDef.c a2)] H fun v h'=>v=.tup []/\h'=((H.set c0_1 (some (.tok 6 r.Fout.l.length))).set c0 (some (.cells (Z0.cg (some c0_1) r)))):=by
 unfold Z14 at hE;refine AC.oW 85 [] Tryz.call25 Tryz.func25 ?_;have ne_c0_c0_1:c0≠c0_1:=fun e_=>by subst e_; simp_all
 have ne_gT_c0_1:gT≠c0_1:=fun e_=>by subst e_; obtain⟨_,_,_,e2_,_⟩:=hoT; simp_all
 have ne_gT_c0:gT≠c0:=fun e_=>by subst e_; obtain⟨_,_,_,e2_,_⟩:=hoT; simp_all
 refine AWp.heqA (h':=((H.set c0_1 (some (.tok 6 a0.Fout.l.length))).set c0 (some (.cells (Z0.cg (some c0_1) a0))))) (by funext n_; simp only [Heap.set]; (repeat' split)<;>simp_all) ?_;refine seqR (S BX (S BX (nil ?_)));refine seqR (S Mv (S Ld (S Ld ?_)));obtain⟨x3,gx3,hE⟩:=bO hE;refine sH (callH rfl rfl (Z16_walk (gT:=gT) (oT:=oT) gx3 _ hpG hpG hpG (by assumption))) rfl ?_;refine hq ((H.set c0_1 (some (.tok 6 x3.Fout.l.length))).set c0 (some (.cells (Z0.cg (some c0_1) x3)))) ?_
 refine nil ?_;refine AWp.seqD (Sd Fv (Sd Ld ?_));obtain⟨x5,gx5,hE⟩:=bO hE;refine Scd rfl rfl (Z23_walk gx5) ?_;refine Sd Fv (Sd Ld ?_);obtain⟨x6,gx6,hE⟩:=bO hE;refine Scd rfl rfl (Z23_walk gx6) ?_;refine Sd As (Sd As ?_);refine DOps.nil (by decide +kernel) ?_;refine seqJH (TA 0 (TA 4 (TA 5 (TA 6 (TA 7 kN))))) (fun(z:Z0)=>[]) (fun z=>((H.set c0_1 (some (.tok 6 z.Fout.l.length))).set c0 (some (.cells (Z0.cg (some c0_1) z))))) (fun z=>Z14_j7 a1 a2 x5 x6 z=some r) ?_ ?_
 ·intro K7 hK7;refine seqR (S Mv (S Mv ?_));obtain⟨x55,gx55,hE⟩:=bO hE;refine Sc rfl rfl (Z21_walk gx55) ?_;refine sLen (f:=strE) (s:=x55) (TK rfl) rfl rfl rfl rfl fun hL56=>?_;refine S Mv (nil ?_);refine block ?_;refine loopH (TA 0 (TA 4 (TA 5 (TA 6 (TA 7 (TA 28 (TA 29 kN))))))) (fun(z:Nat×Nat×Z0)=>[(30,.a (.d (.int .i64 ((z.2.1:Nat):Int))))]) (fun z=>((H.set c0_1 (some (.tok 6 z.2.2.Fout.l.length))).set c0 (some (.cells (Z0.cg (some c0_1) z.2.2))))) (fun z=>z.1) (fun z=>Z14_l57 a1 a2 x5 x6 x55 z.1 z.2.1 z.2.2=some r) ((x55.l.length+1),0,x3) hE wA ?_
  rintro ⟨n57,s30_58,y59_c0⟩ hE K57 hK57;try dsimp only at hE
  cases n57 with
  | zero=>cases hE
  | succ n57 =>
    rw [Z14_l57] at hE;refine seqR (S BI (nil ?_));refine seqK fun K61 hK61=>?_;refine cE hE (fun hc62 hE=>?_) (fun hc62 hE=>?_)
    ·try dsimp only at hc62
     have hf62:=oD hc62;refine sk hK61 ?_;clear hK61 K61;refine seqK fun K63 hK63=>?_;refine block ?_;refine seqR ?_;obtain⟨x65,gx65,hE⟩:=bO hE;refine S (ix strE s30_58 gx65) (S Ld (S As (nil ?_)));refine region ?_;refine S Mv (S Mv ?_);obtain⟨x66,gx66,hE⟩:=bO hE;refine sH (callH rfl rfl (Z13_walk gx66 _ hpG hpG)) rfl ?_;refine hq ((H.set c0_1 (some (.tok 6 x66.Fout.l.length))).set c0 (some (.cells (Z0.cg (some c0_1) x66)))) ?_
     refine nil ?_;refine hK63 _ ?_;clear hK63 K63;refine region ?_;refine SI ?_;refine S Mv (nil ?_);exact hK57 _ (n57,(s30_58+1),x66) wA hE (nS _)
    refine AWp.exit ?_;exact hK7 _ y59_c0 wA hE
 rintro y8_c0 hE;try dsimp only at hE
 unfold Z14_j7 at hE;refine seqJH (TA 0 (TA 4 (TA 5 kN))) (fun(z:Z0)=>[]) (fun z=>((H.set c0_1 (some (.tok 6 z.Fout.l.length))).set c0 (some (.cells (Z0.cg (some c0_1) z))))) (fun z=>Z14_j9 a1 a2 z=some r) ?_ ?_
 ·intro K9 hK9;refine seqR (S Mv (S Mv ?_));obtain⟨x42,gx42,hE⟩:=bO hE;refine Sc rfl rfl (Z21_walk gx42) ?_;refine sLen (f:=strE) (s:=x42) (TK rfl) rfl rfl rfl rfl fun hL43=>?_;refine S Mv (nil ?_);refine block ?_;refine loopH (TA 0 (TA 4 (TA 5 (TA 40 (TA 41 kN))))) (fun(z:Nat×Nat×Z0)=>[(42,.a (.d (.int .i64 ((z.2.1:Nat):Int))))]) (fun z=>((H.set c0_1 (some (.tok 6 z.2.2.Fout.l.length))).set c0 (some (.cells (Z0.cg (some c0_1) z.2.2))))) (fun z=>z.1) (fun z=>Z14_l44 a1 a2 x42 z.1 z.2.1 z.2.2=some r) ((x42.l.length+1),0,y8_c0) hE wA ?_
  rintro ⟨n44,s42_45,y46_c0⟩ hE K44 hK44;try dsimp only at hE
  cases n44 with
  | zero=>cases hE
  | succ n44 =>
    rw [Z14_l44] at hE;refine seqR (S BI (nil ?_));refine seqK fun K48 hK48=>?_;refine cE hE (fun hc49 hE=>?_) (fun hc49 hE=>?_)
    ·try dsimp only at hc49
     have hf49:=oD hc49;refine sk hK48 ?_;clear hK48 K48;refine seqK fun K50 hK50=>?_;refine block ?_;refine seqR ?_;obtain⟨x52,gx52,hE⟩:=bO hE;refine S (ix strE s42_45 gx52) (S Ld (S As (nil ?_)));refine region ?_;refine S Mv (S Mv ?_);obtain⟨x53,gx53,hE⟩:=bO hE;refine sH (callH rfl rfl (Z13_walk gx53 _ hpG hpG)) rfl ?_;refine hq ((H.set c0_1 (some (.tok 6 x53.Fout.l.length))).set c0 (some (.cells (Z0.cg (some c0_1) x53)))) ?_
     refine nil ?_;refine hK50 _ ?_;clear hK50 K50;refine region ?_;refine SI ?_;refine S Mv (nil ?_);exact hK44 _ (n44,(s42_45+1),x53) wA hE (nS _)
    refine AWp.exit ?_;exact hK9 _ y46_c0 wA hE
 rintro y10_c0 hE;try dsimp only at hE
 unfold Z14_j9 at hE;refine seqR (S Mv (S Fv (S Ld (S Fv (S Ld (S BU ?_))))));obtain⟨x12,gx12,hE⟩:=bO hE;refine sH (callH rfl rfl (Z18_walk (gT:=gT) (oT:=oT) gx12 _ hpG hpG (fun _ _ hx=>Z15_walk hx) hpG (by assumption))) rfl ?_;refine hq ((H.set c0_1 (some (.tok 6 x12.Fout.l.length))).set c0 (some (.cells (Z0.cg (some c0_1) x12)))) ?_;refine nil ?_;refine seqJH (TA 0 (TA 4 (TA 5 kN))) (fun(z:Z0)=>[]) (fun z=>((H.set c0_1 (some (.tok 6 z.Fout.l.length))).set c0 (some (.cells (Z0.cg (some c0_1) z))))) (fun z=>Z14_j13 a1 a2 z=some r) ?_ ?_
 ·intro K13 hK13;refine seqR (S Fv (S Ld (S Fv (S Ld ?_))));obtain⟨x29,gx29,hE⟩:=bO hE;refine Sc rfl rfl (Z21_walk gx29) ?_;refine sLen (f:=strE) (s:=x29) (TK rfl) rfl rfl rfl rfl fun hL30=>?_;refine S Mv (nil ?_);refine block ?_;refine loopH (TA 0 (TA 4 (TA 5 (TA 61 (TA 62 kN))))) (fun(z:Nat×Nat×Z0)=>[(63,.a (.d (.int .i64 ((z.2.1:Nat):Int))))]) (fun z=>((H.set c0_1 (some (.tok 6 z.2.2.Fout.l.length))).set c0 (some (.cells (Z0.cg (some c0_1) z.2.2))))) (fun z=>z.1) (fun z=>Z14_l31 a1 a2 x29 z.1 z.2.1 z.2.2=some r) ((x29.l.length+1),0,x12) hE wA ?_
  rintro ⟨n31,s63_32,y33_c0⟩ hE K31 hK31;try dsimp only at hE
  cases n31 with
  | zero=>cases hE
  | succ n31 =>
    rw [Z14_l31] at hE;refine seqR (S BI (nil ?_));refine seqK fun K35 hK35=>?_;refine cE hE (fun hc36 hE=>?_) (fun hc36 hE=>?_)
    ·try dsimp only at hc36
     have hf36:=oD hc36;refine sk hK35 ?_;clear hK35 K35;refine seqK fun K37 hK37=>?_;refine block ?_;refine seqR ?_;obtain⟨x39,gx39,hE⟩:=bO hE;refine S (ix strE s63_32 gx39) (S Ld (S As (nil ?_)));refine region ?_;refine S Mv (S Mv ?_);obtain⟨x40,gx40,hE⟩:=bO hE;refine sH (callH rfl rfl (Z13_walk gx40 _ hpG hpG)) rfl ?_;refine hq ((H.set c0_1 (some (.tok 6 x40.Fout.l.length))).set c0 (some (.cells (Z0.cg (some c0_1) x40)))) ?_
     refine nil ?_;refine hK37 _ ?_;clear hK37 K37;refine region ?_;refine SI ?_;refine S Mv (nil ?_);exact hK31 _ (n31,(s63_32+1),x40) wA hE (nS _)
    refine AWp.exit ?_;exact hK13 _ y33_c0 wA hE
 rintro y14_c0 hE;try dsimp only at hE
 unfold Z14_j13 at hE;refine seqR (S Fv (S Ld (S Fv (S Ld ?_))));obtain⟨x16,gx16,hE⟩:=bO hE;refine Sc rfl rfl (Z21_walk gx16) ?_;refine sLen (f:=strE) (s:=x16) (TK rfl) rfl rfl rfl rfl fun hL17=>?_;refine S Mv (nil ?_);refine block ?_;refine loopH (TA 0 (TA 75 (TA 76 kN))) (fun(z:Nat×Nat×Z0)=>[(77,.a (.d (.int .i64 ((z.2.1:Nat):Int))))]) (fun z=>((H.set c0_1 (some (.tok 6 z.2.2.Fout.l.length))).set c0 (some (.cells (Z0.cg (some c0_1) z.2.2))))) (fun z=>z.1) (fun z=>Z14_l18 x16 z.1 z.2.1 z.2.2=some r) ((x16.l.length+1),0,y14_c0) hE wA ?_
 rintro ⟨n18,s77_19,y20_c0⟩ hE K18 hK18;try dsimp only at hE
 cases n18 with
 | zero=>cases hE
 | succ n18 =>
   rw [Z14_l18] at hE;refine seqR (S BI (nil ?_));refine seqK fun K22 hK22=>?_;refine cE hE (fun hc23 hE=>?_) (fun hc23 hE=>?_)
   ·try dsimp only at hc23
    have hf23:=oD hc23;refine sk hK22 ?_;clear hK22 K22;refine seqK fun K24 hK24=>?_;refine block ?_;refine seqR ?_;obtain⟨x26,gx26,hE⟩:=bO hE;refine S (ix strE s77_19 gx26) (S Ld (S As (nil ?_)));refine region ?_;refine S Mv (S Mv ?_);obtain⟨x27,gx27,hE⟩:=bO hE;refine sH (callH rfl rfl (Z13_walk gx27 _ hpG hpG)) rfl ?_;refine hq ((H.set c0_1 (some (.tok 6 x27.Fout.l.length))).set c0 (some (.cells (Z0.cg (some c0_1) x27)))) ?_
    refine nil ?_;refine hK24 _ ?_;clear hK24 K24;refine region ?_;refine SI ?_;refine S Mv (nil ?_);exact hK18 _ (n18,(s77_19+1),x27) wA hE (nS _)
   refine AWp.exit ?_;repeat (first|refine xBlock_normal ?_|refine xThen_exit ?_|refine xBlock_exit ?_)
   obtain rfl:=oJ hE;refine retQ.normalF ((H.set c0_1 (some (.tok 6 y20_c0.Fout.l.length))).set c0 (some (.cells (Z0.cg (some c0_1) y20_c0)))) (xs:=[]) rfl ⟨rfl,rfl⟩ ?_;exact(fun _ _ h=>h)
end
section
variable [IsLoud lou]
def Z10_j9  (y10_id19_3:Z0):Option (Sl Z3):=some y10_id19_3.Fout
def Z10_j20 (s91_15:Nat) (k_next_14:Nat->Z0->Option (Sl Z3)) (y21_id19_3:Z0):Option (Sl Z3):=k_next_14 (s91_15+1) y21_id19_3
def Z10_l14 (a0:TDoc) (a1:TDoc) :Nat->Nat->Z0->Option (Sl Z3)
 | 0,_,_=>none
 | n14+1,s91_15,y16_id19_3=>bif (decide (((s91_15:Nat):Int)<((a1.FDefs.l.length:Nat):Int))) then((a1.FDefs.l[s91_15]?).bind fun x23=>(Z72 a0 x23.FName).bind fun x26=>bif (!x26.2) then((Z20 x23.FKind).bind fun x29=>(Z13 (Z0.mk x23.FName y16_id19_3.Fout) (2:Int) ([]:Bs) ([]:Bs) ([]:Bs) x29).bind fun x30=>Z10_j20 s91_15 ((Z10_l14 a0 a1 n14)) x30) else(Z10_j20 s91_15 ((Z10_l14 a0 a1 n14)) (Z0.mk x23.FName y16_id19_3.Fout))) else(Z10_j9   y16_id19_3)
def Z10_j7 (a0:TDoc) (a1:TDoc)  (y8_id19_3:Z0):Option (Sl Z3):=Z10_l14 a0 a1 (a1.FDefs.l.length+1) 0 y8_id19_3
def Z10_j39 (s50_34:Nat) (k_next_33:Nat->Z0->Option (Sl Z3)) (y40_id19_3:Z0):Option (Sl Z3):=k_next_33 (s50_34+1) y40_id19_3
def Z10_l33 (a0:TDoc) (a1:TDoc) :Nat->Nat->Z0->Option (Sl Z3)
 | 0,_,_=>none
 | n33+1,s50_34,y35_id19_3=>bif (decide (((s50_34:Nat):Int)<((a0.FDefs.l.length:Nat):Int))) then((a0.FDefs.l[s50_34]?).bind fun x42=>(Z72 a1 x42.FName).bind fun x45=>bif (!x45.2) then(Z10_j39 s50_34 ((Z10_l33 a0 a1 n33)) (Z0.mk x42.FName y35_id19_3.Fout)) else(bif (!decide (x42.FKind=x45.1.FKind)) then((Z20 x42.FKind).bind fun x50=>(Z20 x45.1.FKind).bind fun x51=>(Z13 (Z0.mk x42.FName y35_id19_3.Fout) (3:Int) ([]:Bs) ([]:Bs) x50 x51).bind fun x52=>Z10_j39 s50_34 ((Z10_l33 a0 a1 n33)) x52) else((Z14 (Z0.mk x42.FName y35_id19_3.Fout) x42 x45.1).bind fun x53=>Z10_j39 s50_34 ((Z10_l33 a0 a1 n33)) x53))) else(Z10_j7 a0 a1  y35_id19_3)
def Z10_j5 (a0:TDoc) (a1:TDoc)  (y6_id19_3:Z0):Option (Sl Z3):=Z10_l33 a0 a1 (a0.FDefs.l.length+1) 0 y6_id19_3
def Z10_j62 (s23_57:Nat) (k_next_56:Nat->Z0->Option (Sl Z3)) (y63_id19_3:Z0):Option (Sl Z3):=k_next_56 (s23_57+1) y63_id19_3
def Z10_l56 (a0:TDoc) (a1:TDoc) :Nat->Nat->Z0->Option (Sl Z3)
 | 0,_,_=>none
 | n56+1,s23_57,y58_id19_3=>bif (decide (((s23_57:Nat):Int)<((a0.FDefs.l.length:Nat):Int))) then((a0.FDefs.l[s23_57]?).bind fun x65=>(Z72 a1 x65.FName).bind fun x68=>bif (!x68.2) then((Z20 x65.FKind).bind fun x71=>(Z13 (Z0.mk x65.FName y58_id19_3.Fout) (1:Int) ([]:Bs) ([]:Bs) x71 ([]:Bs)).bind fun x72=>Z10_j62 s23_57 ((Z10_l56 a0 a1 n56)) x72) else(Z10_j62 s23_57 ((Z10_l56 a0 a1 n56)) (Z0.mk x65.FName y58_id19_3.Fout))) else(Z10_j5 a0 a1  y58_id19_3)
def Z10 (a0:TDoc) (a1:TDoc):Option (Sl Z3):=Z10_l56 a0 a1 (a0.FDefs.l.length+1) 0 (Z0.mk ([]:Bs) (Sl.nil:Sl Z3))
theorem Z10_walk {a0 a1:TDoc}{oT:Ab.Obj}{gT:Nat}{r:Sl Z3}(hE:Z10 a0 a1=some r) (H:Heap) (hgT:H gT=some oT) (hoT:IsTab Tryz.prog oT):AC Tryz.prog 9 [.agg (TDoc.c a0),.agg (TDoc.c a1)] H fun v h'=>v=.a (.d (Sl.d 6 Z3.c none r))/\h'=H:=by
 unfold Z10 at hE;refine AC.oW 119 [.tmp 4] Tryz.call9 Tryz.func9 ?_;refine seqR (S BX (S BX ?_));refine s0 (assignNil (k':=6) rfl) rfl ?_;refine nil ?_;refine seqR (S BU ?_);refine AOps.tok 6 fun tk19_4 htk19_4=>?_;have ne_tk19_4_gT:tk19_4≠gT:=fun e_=>by subst e_; simp_all
 refine sE (StepE.boxO rfl) rfl (fun _ _ _ ⟨id19_3,hid19_3,e1,e2,e3⟩=>?_); subst e1 e2 e3;obtain⟨ne_id19_3_tk19_4,hid19_3⟩:=Heap.set_fresh hid19_3;have ne_id19_3_gT:id19_3≠gT:=fun e_=>by subst e_; simp_all
 refine AOps.recell id19_3 _ hpG (fun j w cs hh hx=>tok_cell 1 6 6 hh (t:=tk19_4) hpG hx rfl) ?_;refine hq ((H.set tk19_4 (some (.tok 6 0))).set id19_3 (some (.cells (Z0.cg (some tk19_4) (Z0.mk ([]:Bs) (Sl.nil:Sl Z3)))))) ?_;refine S As (nil ?_);refine seqJH (TA 2 (TA 3 (TA 5 kN))) (fun(z:Z0)=>[]) (fun z=>((H.set tk19_4 (some (.tok 6 z.Fout.l.length))).set id19_3 (some (.cells (Z0.cg (some tk19_4) z))))) (fun z=>Z10_j5 a0 a1 z=some r) ?_ ?_
 ·intro K5 hK5;refine seqR (S Fv (S Ld ?_));refine sLen (f:=TDef.c) (s:=a0.FDefs) (TK rfl) rfl rfl rfl rfl fun hL55=>?_;refine S Mv (nil ?_);refine block ?_;refine loopH (TA 2 (TA 3 (TA 5 (TA 21 (TA 22 kN))))) (fun(z:Nat×Nat×Z0)=>[(23,.a (.d (.int .i64 ((z.2.1:Nat):Int))))]) (fun z=>((H.set tk19_4 (some (.tok 6 z.2.2.Fout.l.length))).set id19_3 (some (.cells (Z0.cg (some tk19_4) z.2.2))))) (fun z=>z.1) (fun z=>Z10_l56 a0 a1 z.1 z.2.1 z.2.2=some r) ((a0.FDefs.l.length+1),0,(Z0.mk ([]:Bs) (Sl.nil:Sl Z3))) hE wA ?_
  rintro ⟨n56,s23_57,y58_id19_3⟩ hE K56 hK56;try dsimp only at hE
  cases n56 with
  | zero=>cases hE
  | succ n56 =>
    rw [Z10_l56] at hE;refine seqR (S BI (nil ?_));refine seqK fun K60 hK60=>?_;refine cE hE (fun hc61 hE=>?_) (fun hc61 hE=>?_)
    ·try dsimp only at hc61
     have hf61:=oD hc61;refine sk hK60 ?_;clear hK60 K60;refine seqJH (TA 2 (TA 3 (TA 5 (TA 21 (TA 22 (TA 23 kN)))))) (fun(z:Z0)=>[]) (fun z=>((H.set tk19_4 (some (.tok 6 z.Fout.l.length))).set id19_3 (some (.cells (Z0.cg (some tk19_4) z))))) (fun z=>Z10_j62 s23_57 ((Z10_l56 a0 a1 n56)) z=some r) ?_ ?_
     ·intro K62 hK62;refine block ?_;refine seqR ?_;obtain⟨x65,gx65,hE⟩:=bO hE;refine S (ix TDef.c s23_57 gx65) (S Ld ?_);refine Sl ?_;refine Sf ?_;refine nil ?_;refine freezeA 7 _ rfl (KA 2 (KA 3 (KA 5 (KA 21 (KA 22 (KA 23 Keeps.nil)))))) ?_;refine seqR (S Mv (S Fv (S Ld (S NP ?_))));refine s0 (fieldP (TK rfl) rfl rfl (TK rfl) rfl rfl) rfl ?_;refine sHn (storeP1 (TK rfl) rfl rfl hpG rfl (by repeat (first|exact SetAt.zero|apply SetAt.succ))) rfl rfl ?_
      refine hq ((H.set tk19_4 (some (.tok 6 y58_id19_3.Fout.l.length))).set id19_3 (some (.cells (Z0.cg (some tk19_4) (Z0.mk x65.FName y58_id19_3.Fout))))) ?_;refine nil ?_;refine seqR (S Ld (S Fv (S Ld ?_)));obtain⟨x68,gx68,hE⟩:=bO hE;refine Sc rfl rfl (Z72_walk gx68) ?_;refine S Mv (S EX (S EX ?_));refine Sl ?_;refine Sf ?_;refine S As (nil ?_);refine freezeA 8 _ rfl (KA 2 (KA 3 (KA 5 (KA 7 (KA 9 (KA 21 (KA 22 (KA 23 Keeps.nil)))))))) ?_
      refine seqR (S Mv (S NB (nil ?_)));refine cE hE (fun hc70 hE=>?_) (fun hc70 hE=>?_)
      ·refine region ?_;refine S Mv (S Fv (S Ld ?_));obtain⟨x71,gx71,hE⟩:=bO hE;refine Sc rfl rfl (Z20_walk gx71) ?_;obtain⟨x72,gx72,hE⟩:=bO hE;refine sH (callH rfl rfl (Z13_walk gx72 _ hpG hpG)) rfl ?_;refine hq ((H.set tk19_4 (some (.tok 6 x72.Fout.l.length))).set id19_3 (some (.cells (Z0.cg (some tk19_4) x72)))) ?_;refine nil ?_;exact hK62 _ x72 wA hE
      refine AWp.skip ?_;exact hK62 _ (Z0.mk x65.FName y58_id19_3.Fout) wA hE
     rintro y63_id19_3 hE;try dsimp only at hE
     unfold Z10_j62 at hE;refine region ?_;refine SI ?_;refine S Mv (nil ?_);exact hK56 _ (n56,(s23_57+1),y63_id19_3) wA hE (nS _)
    refine AWp.exit ?_;exact hK5 _ y58_id19_3 wA hE
 rintro y6_id19_3 hE;try dsimp only at hE
 unfold Z10_j5 at hE;refine seqJH (TA 2 (TA 3 (TA 5 kN))) (fun(z:Z0)=>[]) (fun z=>((H.set tk19_4 (some (.tok 6 z.Fout.l.length))).set id19_3 (some (.cells (Z0.cg (some tk19_4) z))))) (fun z=>Z10_j7 a0 a1 z=some r) ?_ ?_
 ·intro K7 hK7;refine seqR (S Fv (S Ld ?_));refine sLen (f:=TDef.c) (s:=a0.FDefs) (TK rfl) rfl rfl rfl rfl fun hL32=>?_;refine S Mv (nil ?_);refine block ?_;refine loopH (TA 2 (TA 3 (TA 5 (TA 48 (TA 49 kN))))) (fun(z:Nat×Nat×Z0)=>[(50,.a (.d (.int .i64 ((z.2.1:Nat):Int))))]) (fun z=>((H.set tk19_4 (some (.tok 6 z.2.2.Fout.l.length))).set id19_3 (some (.cells (Z0.cg (some tk19_4) z.2.2))))) (fun z=>z.1) (fun z=>Z10_l33 a0 a1 z.1 z.2.1 z.2.2=some r) ((a0.FDefs.l.length+1),0,y6_id19_3) hE wA ?_
  rintro ⟨n33,s50_34,y35_id19_3⟩ hE K33 hK33;try dsimp only at hE
  cases n33 with
  | zero=>cases hE
  | succ n33 =>
    rw [Z10_l33] at hE;refine seqR (S BI (nil ?_));refine seqK fun K37 hK37=>?_;refine cE hE (fun hc38 hE=>?_) (fun hc38 hE=>?_)
    ·try dsimp only at hc38
     have hf38:=oD hc38;refine sk hK37 ?_;clear hK37 K37;refine seqJH (TA 2 (TA 3 (TA 5 (TA 48 (TA 49 (TA 50 kN)))))) (fun(z:Z0)=>[]) (fun z=>((H.set tk19_4 (some (.tok 6 z.Fout.l.length))).set id19_3 (some (.cells (Z0.cg (some tk19_4) z))))) (fun z=>Z10_j39 s50_34 ((Z10_l33 a0 a1 n33)) z=some r) ?_ ?_
     ·intro K39 hK39;refine block ?_;refine seqR ?_;obtain⟨x42,gx42,hE⟩:=bO hE;refine S (ix TDef.c s50_34 gx42) (S Ld ?_);refine Sl ?_;refine Sf ?_;refine nil ?_;refine freezeA 11 _ rfl (KA 2 (KA 3 (KA 5 (KA 48 (KA 49 (KA 50 Keeps.nil)))))) ?_;refine seqR (S Mv (S Fv (S Ld (S NP ?_))));refine s0 (fieldP (TK rfl) rfl rfl (TK rfl) rfl rfl) rfl ?_;refine sHn (storeP1 (TK rfl) rfl rfl hpG rfl (by repeat (first|exact SetAt.zero|apply SetAt.succ))) rfl rfl ?_
      refine hq ((H.set tk19_4 (some (.tok 6 y35_id19_3.Fout.l.length))).set id19_3 (some (.cells (Z0.cg (some tk19_4) (Z0.mk x42.FName y35_id19_3.Fout))))) ?_;refine nil ?_;refine seqR (S Ld (S Fv (S Ld ?_)));obtain⟨x45,gx45,hE⟩:=bO hE;refine Sc rfl rfl (Z72_walk gx45) ?_;refine S Mv (S EX (S EX ?_));refine Sl ?_;refine Sf ?_;refine S As (nil ?_);refine freezeA 12 _ rfl (KA 2 (KA 3 (KA 5 (KA 11 (KA 13 (KA 48 (KA 49 (KA 50 Keeps.nil)))))))) ?_
      refine block ?_;refine seqR (S Mv (S NB (S As (nil ?_))));refine cE hE (fun hc47 hE=>?_) (fun hc47 hE=>?_)
      ·refine AWp.skip ?_;exact hK39 _ (Z0.mk x42.FName y35_id19_3.Fout) wA hE
      refine seqR (S Fv (S Ld (S Fv (S Ld (S BI (S As (nil ?_)))))));refine cE hE (fun hc49 hE=>?_) (fun hc49 hE=>?_)
      ·refine AWp.draw rfl ?_;refine Sd Mv (Sd Fv (Sd Ld ?_));obtain⟨x50,gx50,hE⟩:=bO hE;refine Scd rfl rfl (Z20_walk gx50) ?_;refine Sd Fv (Sd Ld ?_);obtain⟨x51,gx51,hE⟩:=bO hE;refine Scd rfl rfl (Z20_walk gx51) ?_;obtain⟨x52,gx52,hE⟩:=bO hE;refine DOps.sH (callH rfl rfl (Z13_walk gx52 _ hpG hpG)) rfl ?_;refine DOps.Dh ((H.set tk19_4 (some (.tok 6 x52.Fout.l.length))).set id19_3 (some (.cells (Z0.cg (some tk19_4) x52)))) ?_
       refine DOps.nil (by decide +kernel) ?_;exact hK39 _ x52 wA hE
      refine region ?_;refine S Mv (S Ld (S Ld ?_));obtain⟨x53,gx53,hE⟩:=bO hE;refine sH (callH rfl rfl (Z14_walk (gT:=gT) (oT:=oT) gx53 _ hpG hpG hpG (by assumption))) rfl ?_;refine hq ((H.set tk19_4 (some (.tok 6 x53.Fout.l.length))).set id19_3 (some (.cells (Z0.cg (some tk19_4) x53)))) ?_;refine nil ?_;exact hK39 _ x53 wA hE
     rintro y40_id19_3 hE;try dsimp only at hE
     unfold Z10_j39 at hE;refine region ?_;refine SI ?_;refine S Mv (nil ?_);exact hK33 _ (n33,(s50_34+1),y40_id19_3) wA hE (nS _)
    refine AWp.exit ?_;exact hK7 _ y35_id19_3 wA hE
 rintro y8_id19_3 hE;try dsimp only at hE
 unfold Z10_j7 at hE;refine seqJH (TA 5 kN) (fun(z:Z0)=>[]) (fun z=>((H.set tk19_4 (some (.tok 6 z.Fout.l.length))).set id19_3 (some (.cells (Z0.cg (some tk19_4) z))))) (fun z=>Z10_j9 z=some r) ?_ ?_
 ·intro K9 hK9;refine seqR (S Fv (S Ld ?_));refine sLen (f:=TDef.c) (s:=a1.FDefs) (TK rfl) rfl rfl rfl rfl fun hL13=>?_;refine S Mv (nil ?_);refine block ?_;refine loopH (TA 2 (TA 5 (TA 89 (TA 90 kN)))) (fun(z:Nat×Nat×Z0)=>[(91,.a (.d (.int .i64 ((z.2.1:Nat):Int))))]) (fun z=>((H.set tk19_4 (some (.tok 6 z.2.2.Fout.l.length))).set id19_3 (some (.cells (Z0.cg (some tk19_4) z.2.2))))) (fun z=>z.1) (fun z=>Z10_l14 a0 a1 z.1 z.2.1 z.2.2=some r) ((a1.FDefs.l.length+1),0,y8_id19_3) hE wA ?_
  rintro ⟨n14,s91_15,y16_id19_3⟩ hE K14 hK14;try dsimp only at hE
  cases n14 with
  | zero=>cases hE
  | succ n14 =>
    rw [Z10_l14] at hE;refine seqR (S BI (nil ?_));refine seqK fun K18 hK18=>?_;refine cE hE (fun hc19 hE=>?_) (fun hc19 hE=>?_)
    ·try dsimp only at hc19
     have hf19:=oD hc19;refine sk hK18 ?_;clear hK18 K18;refine seqJH (TA 2 (TA 5 (TA 89 (TA 90 (TA 91 kN))))) (fun(z:Z0)=>[]) (fun z=>((H.set tk19_4 (some (.tok 6 z.Fout.l.length))).set id19_3 (some (.cells (Z0.cg (some tk19_4) z))))) (fun z=>Z10_j20 s91_15 ((Z10_l14 a0 a1 n14)) z=some r) ?_ ?_
     ·intro K20 hK20;refine block ?_;refine seqR ?_;obtain⟨x23,gx23,hE⟩:=bO hE;refine S (ix TDef.c s91_15 gx23) (S Ld ?_);refine Sl ?_;refine Sf ?_;refine nil ?_;refine freezeA 15 _ rfl (KA 2 (KA 5 (KA 89 (KA 90 (KA 91 Keeps.nil))))) ?_;refine seqR (S Mv (S Fv (S Ld (S NP ?_))));refine s0 (fieldP (TK rfl) rfl rfl (TK rfl) rfl rfl) rfl ?_;refine sHn (storeP1 (TK rfl) rfl rfl hpG rfl (by repeat (first|exact SetAt.zero|apply SetAt.succ))) rfl rfl ?_
      refine hq ((H.set tk19_4 (some (.tok 6 y16_id19_3.Fout.l.length))).set id19_3 (some (.cells (Z0.cg (some tk19_4) (Z0.mk x23.FName y16_id19_3.Fout))))) ?_;refine nil ?_;refine seqR (S Ld (S Fv (S Ld ?_)));obtain⟨x26,gx26,hE⟩:=bO hE;refine Sc rfl rfl (Z72_walk gx26) ?_;refine S Mv (S EX (S EX ?_));refine Sl ?_;refine Sf ?_;refine S As (nil ?_);refine freezeA 16 _ rfl (KA 2 (KA 5 (KA 15 (KA 17 (KA 89 (KA 90 (KA 91 Keeps.nil))))))) ?_
      refine seqR (S Mv (S NB (nil ?_)));refine cE hE (fun hc28 hE=>?_) (fun hc28 hE=>?_)
      ·refine region ?_;refine S Mv (S Fv (S Ld ?_));obtain⟨x29,gx29,hE⟩:=bO hE;refine Sc rfl rfl (Z20_walk gx29) ?_;obtain⟨x30,gx30,hE⟩:=bO hE;refine sH (callH rfl rfl (Z13_walk gx30 _ hpG hpG)) rfl ?_;refine hq ((H.set tk19_4 (some (.tok 6 x30.Fout.l.length))).set id19_3 (some (.cells (Z0.cg (some tk19_4) x30)))) ?_;refine nil ?_;exact hK20 _ x30 wA hE
      refine AWp.skip ?_;exact hK20 _ (Z0.mk x23.FName y16_id19_3.Fout) wA hE
     rintro y21_id19_3 hE;try dsimp only at hE
     unfold Z10_j20 at hE;refine region ?_;refine SI ?_;refine S Mv (nil ?_);exact hK14 _ (n14,(s91_15+1),y21_id19_3) wA hE (nS _)
    refine AWp.exit ?_;exact hK9 _ y16_id19_3 wA hE
 rintro y10_id19_3 hE;try dsimp only at hE
 unfold Z10_j9 at hE;refine seqR (S Mv (S NP ?_));refine s0 (fieldP (TK rfl) rfl rfl (TK rfl) rfl rfl) rfl ?_;refine s0 (loadP (TK rfl) rfl rfl hpG rfl) rfl ?_;refine S As (nil ?_);refine AWp.dropTok 4 rfl ?_;refine AWp.ret ?_;repeat (first|refine xBlock_ret ?_|refine xThen_ret ?_)
 obtain rfl:=oJ hE;refine retQ.retF H rfl ⟨rfl,rfl⟩ ?_;intro id_ o_ he_;have e_tk19_4:id_≠tk19_4:=fun e_=>by subst e_; simp_all [Heap.set]
 have e_id19_3:id_≠id19_3:=fun e_=>by subst e_; simp_all [Heap.set]
 rw [<- he_];simp only [Heap.set] at he_ ⊢
 (repeat' split)<;>simp_all
end
def Z33 (a0:TRef) (a1:Bs):Option TDoc:=some (TDoc.mk (⟨false,[(TDef.mk (1:Int) ([65]:Bs) (Sl.nil:Sl Bs) (Sl.nil:Sl TDir) (⟨false,[(Z4.mk ([120]:Bs) (⟨false,[(Z5.mk ([110]:Bs) a0 false Z7.zero (Sl.nil:Sl TDir))]⟩:Sl Z5) (TRef.mk ([73,110,116]:Bs) (Sl.nil:Sl Int)) (Sl.nil:Sl TDir)),(Z4.mk a1 (Sl.nil:Sl Z5) (TRef.mk ([73,110,116]:Bs) (Sl.nil:Sl Int)) (Sl.nil:Sl TDir))]⟩:Sl Z4) (Sl.nil:Sl Z6) (Sl.nil:Sl Z5))]⟩:Sl TDef))
theorem Z33_walk {a0:TRef}{a1:Bs}{r:TDoc}(hE:Z33 a0 a1=some r) (H:Heap) :AC Tryz.prog 10 [.agg (TRef.c a0),.d (.str a1)] H fun v h'=>v=.a (.agg (TDoc.c r))/\h'=H:=by
 unfold Z33 at hE;refine AC.oW 19 [.cell 4 34] Tryz.call10 Tryz.func10 ?_;refine seqR (S BX ?_);refine Sl ?_;refine nil ?_;refine seqR (S BU ?_);refine Sl ?_;refine Sf ?_;refine nil ?_;refine freezeA 5 _ rfl (KA 1 (KA 2 (KA 4 Keeps.nil))) ?_;refine seqR (S Ld (S Ld (S BU (S BV (S BU (S Mv (S Ld (S BU (S BV (S BU (S BV (S BU ?_))))))))))));refine Sf ?_;refine nil ?_;exact rt hE
section
variable [IsLoud lou]
theorem eqt_23:eqTab Tryz.prog 23=some [.int .i64,.str,.str,.str,.str,.str]:=by kernel_rfl
def Z32 :Option Bool:=(Z33 (TRef.mk ([73,110,116]:Bs) (Sl.nil:Sl Int)) ([121]:Bs)).bind fun x4=>(Z33 (TRef.mk ([73,110,116]:Bs) (⟨false,[(1:Int)]⟩:Sl Int)) ([122]:Bs)).bind fun x5=>(Z10 x4 x5).bind fun x6=>bif (!decide (((x6.l.length:Nat):Int)=(3:Int))) then(some false) else((x6.l[0]?).bind fun x13=>guardO ((decide (x13.FKind=(Z3.mk (9:Int) ([65]:Bs) ([120]:Bs) ([110]:Bs) ([73,110,116]:Bs) ([73,110,116,33]:Bs)).FKind)&&((x13.FType==(Z3.mk (9:Int) ([65]:Bs) ([120]:Bs) ([110]:Bs) ([73,110,116]:Bs) ([73,110,116,33]:Bs)).FType)&&((x13.FField==(Z3.mk (9:Int) ([65]:Bs) ([120]:Bs) ([110]:Bs) ([73,110,116]:Bs) ([73,110,116,33]:Bs)).FField)&&((x13.FArg==(Z3.mk (9:Int) ([65]:Bs) ([120]:Bs) ([110]:Bs) ([73,110,116]:Bs) ([73,110,116,33]:Bs)).FArg)&&((x13.FFrom==(Z3.mk (9:Int) ([65]:Bs) ([120]:Bs) ([110]:Bs) ([73,110,116]:Bs) ([73,110,116,33]:Bs)).FFrom)&&((x13.FTo==(Z3.mk (9:Int) ([65]:Bs) ([120]:Bs) ([110]:Bs) ([73,110,116]:Bs) ([73,110,116,33]:Bs)).FTo)&&true))))))) (x6.l[1]?) Z3.zero fun x14=>guardO (((decide (x13.FKind=(Z3.mk (9:Int) ([65]:Bs) ([120]:Bs) ([110]:Bs) ([73,110,116]:Bs) ([73,110,116,33]:Bs)).FKind)&&((x13.FType==(Z3.mk (9:Int) ([65]:Bs) ([120]:Bs) ([110]:Bs) ([73,110,116]:Bs) ([73,110,116,33]:Bs)).FType)&&((x13.FField==(Z3.mk (9:Int) ([65]:Bs) ([120]:Bs) ([110]:Bs) ([73,110,116]:Bs) ([73,110,116,33]:Bs)).FField)&&((x13.FArg==(Z3.mk (9:Int) ([65]:Bs) ([120]:Bs) ([110]:Bs) ([73,110,116]:Bs) ([73,110,116,33]:Bs)).FArg)&&((x13.FFrom==(Z3.mk (9:Int) ([65]:Bs) ([120]:Bs) ([110]:Bs) ([73,110,116]:Bs) ([73,110,116,33]:Bs)).FFrom)&&((x13.FTo==(Z3.mk (9:Int) ([65]:Bs) ([120]:Bs) ([110]:Bs) ([73,110,116]:Bs) ([73,110,116,33]:Bs)).FTo)&&true))))))&&(decide (x14.FKind=(4:Int))))) (x6.l[2]?) Z3.zero fun x15=>guardO ((((decide (x13.FKind=(Z3.mk (9:Int) ([65]:Bs) ([120]:Bs) ([110]:Bs) ([73,110,116]:Bs) ([73,110,116,33]:Bs)).FKind)&&((x13.FType==(Z3.mk (9:Int) ([65]:Bs) ([120]:Bs) ([110]:Bs) ([73,110,116]:Bs) ([73,110,116,33]:Bs)).FType)&&((x13.FField==(Z3.mk (9:Int) ([65]:Bs) ([120]:Bs) ([110]:Bs) ([73,110,116]:Bs) ([73,110,116,33]:Bs)).FField)&&((x13.FArg==(Z3.mk (9:Int) ([65]:Bs) ([120]:Bs) ([110]:Bs) ([73,110,116]:Bs) ([73,110,116,33]:Bs)).FArg)&&((x13.FFrom==(Z3.mk (9:Int) ([65]:Bs) ([120]:Bs) ([110]:Bs) ([73,110,116]:Bs) ([73,110,116,33]:Bs)).FFrom)&&((x13.FTo==(Z3.mk (9:Int) ([65]:Bs) ([120]:Bs) ([110]:Bs) ([73,110,116]:Bs) ([73,110,116,33]:Bs)).FTo)&&true))))))&&(decide (x14.FKind=(4:Int))))&&(decide (x15.FKind=(Z3.mk (5:Int) ([65]:Bs) ([122]:Bs) ([]:Bs) ([]:Bs) ([73,110,116]:Bs)).FKind)&&((x15.FType==(Z3.mk (5:Int) ([65]:Bs) ([122]:Bs) ([]:Bs) ([]:Bs) ([73,110,116]:Bs)).FType)&&((x15.FField==(Z3.mk (5:Int) ([65]:Bs) ([122]:Bs) ([]:Bs) ([]:Bs) ([73,110,116]:Bs)).FField)&&((x15.FArg==(Z3.mk (5:Int) ([65]:Bs) ([122]:Bs) ([]:Bs) ([]:Bs) ([73,110,116]:Bs)).FArg)&&((x15.FFrom==(Z3.mk (5:Int) ([65]:Bs) ([122]:Bs) ([]:Bs) ([]:Bs) ([73,110,116]:Bs)).FFrom)&&((x15.FTo==(Z3.mk (5:Int) ([65]:Bs) ([122]:Bs) ([]:Bs) ([]:Bs) ([73,110,116]:Bs)).FTo)&&true)))))))) (x6.l[0]?) Z3.zero fun x16=>guardO ((((decide (x13.FKind=(Z3.mk (9:Int) ([65]:Bs) ([120]:Bs) ([110]:Bs) ([73,110,116]:Bs) ([73,110,116,33]:Bs)).FKind)&&((x13.FType==(Z3.mk (9:Int) ([65]:Bs) ([120]:Bs) ([110]:Bs) ([73,110,116]:Bs) ([73,110,116,33]:Bs)).FType)&&((x13.FField==(Z3.mk (9:Int) ([65]:Bs) ([120]:Bs) ([110]:Bs) ([73,110,116]:Bs) ([73,110,116,33]:Bs)).FField)&&((x13.FArg==(Z3.mk (9:Int) ([65]:Bs) ([120]:Bs) ([110]:Bs) ([73,110,116]:Bs) ([73,110,116,33]:Bs)).FArg)&&((x13.FFrom==(Z3.mk (9:Int) ([65]:Bs) ([120]:Bs) ([110]:Bs) ([73,110,116]:Bs) ([73,110,116,33]:Bs)).FFrom)&&((x13.FTo==(Z3.mk (9:Int) ([65]:Bs) ([120]:Bs) ([110]:Bs) ([73,110,116]:Bs) ([73,110,116,33]:Bs)).FTo)&&true))))))&&(decide (x14.FKind=(4:Int))))&&(decide (x15.FKind=(Z3.mk (5:Int) ([65]:Bs) ([122]:Bs) ([]:Bs) ([]:Bs) ([73,110,116]:Bs)).FKind)&&((x15.FType==(Z3.mk (5:Int) ([65]:Bs) ([122]:Bs) ([]:Bs) ([]:Bs) ([73,110,116]:Bs)).FType)&&((x15.FField==(Z3.mk (5:Int) ([65]:Bs) ([122]:Bs) ([]:Bs) ([]:Bs) ([73,110,116]:Bs)).FField)&&((x15.FArg==(Z3.mk (5:Int) ([65]:Bs) ([122]:Bs) ([]:Bs) ([]:Bs) ([73,110,116]:Bs)).FArg)&&((x15.FFrom==(Z3.mk (5:Int) ([65]:Bs) ([122]:Bs) ([]:Bs) ([]:Bs) ([73,110,116]:Bs)).FFrom)&&((x15.FTo==(Z3.mk (5:Int) ([65]:Bs) ([122]:Bs) ([]:Bs) ([]:Bs) ([73,110,116]:Bs)).FTo)&&true)))))))) (Z11 x16) ([]:Bs) fun x17=>guardO (((((decide (x13.FKind=(Z3.mk (9:Int) ([65]:Bs) ([120]:Bs) ([110]:Bs) ([73,110,116]:Bs) ([73,110,116,33]:Bs)).FKind)&&((x13.FType==(Z3.mk (9:Int) ([65]:Bs) ([120]:Bs) ([110]:Bs) ([73,110,116]:Bs) ([73,110,116,33]:Bs)).FType)&&((x13.FField==(Z3.mk (9:Int) ([65]:Bs) ([120]:Bs) ([110]:Bs) ([73,110,116]:Bs) ([73,110,116,33]:Bs)).FField)&&((x13.FArg==(Z3.mk (9:Int) ([65]:Bs) ([120]:Bs) ([110]:Bs) ([73,110,116]:Bs) ([73,110,116,33]:Bs)).FArg)&&((x13.FFrom==(Z3.mk (9:Int) ([65]:Bs) ([120]:Bs) ([110]:Bs) ([73,110,116]:Bs) ([73,110,116,33]:Bs)).FFrom)&&((x13.FTo==(Z3.mk (9:Int) ([65]:Bs) ([120]:Bs) ([110]:Bs) ([73,110,116]:Bs) ([73,110,116,33]:Bs)).FTo)&&true))))))&&(decide (x14.FKind=(4:Int))))&&(decide (x15.FKind=(Z3.mk (5:Int) ([65]:Bs) ([122]:Bs) ([]:Bs) ([]:Bs) ([73,110,116]:Bs)).FKind)&&((x15.FType==(Z3.mk (5:Int) ([65]:Bs) ([122]:Bs) ([]:Bs) ([]:Bs) ([73,110,116]:Bs)).FType)&&((x15.FField==(Z3.mk (5:Int) ([65]:Bs) ([122]:Bs) ([]:Bs) ([]:Bs) ([73,110,116]:Bs)).FField)&&((x15.FArg==(Z3.mk (5:Int) ([65]:Bs) ([122]:Bs) ([]:Bs) ([]:Bs) ([73,110,116]:Bs)).FArg)&&((x15.FFrom==(Z3.mk (5:Int) ([65]:Bs) ([122]:Bs) ([]:Bs) ([]:Bs) ([73,110,116]:Bs)).FFrom)&&((x15.FTo==(Z3.mk (5:Int) ([65]:Bs) ([122]:Bs) ([]:Bs) ([]:Bs) ([73,110,116]:Bs)).FTo)&&true)))))))&&((x17==([65,114,103,84,121,112,101,32,65,46,120,40,110,41,58,32,73,110,116,32,45,62,32,73,110,116,33]:Bs))))) (x6.l[0]?) Z3.zero fun x18=>guardO (((((decide (x13.FKind=(Z3.mk (9:Int) ([65]:Bs) ([120]:Bs) ([110]:Bs) ([73,110,116]:Bs) ([73,110,116,33]:Bs)).FKind)&&((x13.FType==(Z3.mk (9:Int) ([65]:Bs) ([120]:Bs) ([110]:Bs) ([73,110,116]:Bs) ([73,110,116,33]:Bs)).FType)&&((x13.FField==(Z3.mk (9:Int) ([65]:Bs) ([120]:Bs) ([110]:Bs) ([73,110,116]:Bs) ([73,110,116,33]:Bs)).FField)&&((x13.FArg==(Z3.mk (9:Int) ([65]:Bs) ([120]:Bs) ([110]:Bs) ([73,110,116]:Bs) ([73,110,116,33]:Bs)).FArg)&&((x13.FFrom==(Z3.mk (9:Int) ([65]:Bs) ([120]:Bs) ([110]:Bs) ([73,110,116]:Bs) ([73,110,116,33]:Bs)).FFrom)&&((x13.FTo==(Z3.mk (9:Int) ([65]:Bs) ([120]:Bs) ([110]:Bs) ([73,110,116]:Bs) ([73,110,116,33]:Bs)).FTo)&&true))))))&&(decide (x14.FKind=(4:Int))))&&(decide (x15.FKind=(Z3.mk (5:Int) ([65]:Bs) ([122]:Bs) ([]:Bs) ([]:Bs) ([73,110,116]:Bs)).FKind)&&((x15.FType==(Z3.mk (5:Int) ([65]:Bs) ([122]:Bs) ([]:Bs) ([]:Bs) ([73,110,116]:Bs)).FType)&&((x15.FField==(Z3.mk (5:Int) ([65]:Bs) ([122]:Bs) ([]:Bs) ([]:Bs) ([73,110,116]:Bs)).FField)&&((x15.FArg==(Z3.mk (5:Int) ([65]:Bs) ([122]:Bs) ([]:Bs) ([]:Bs) ([73,110,116]:Bs)).FArg)&&((x15.FFrom==(Z3.mk (5:Int) ([65]:Bs) ([122]:Bs) ([]:Bs) ([]:Bs) ([73,110,116]:Bs)).FFrom)&&((x15.FTo==(Z3.mk (5:Int) ([65]:Bs) ([122]:Bs) ([]:Bs) ([]:Bs) ([73,110,116]:Bs)).FTo)&&true)))))))&&((x17==([65,114,103,84,121,112,101,32,65,46,120,40,110,41,58,32,73,110,116,32,45,62,32,73,110,116,33]:Bs))))) (Z9 x18) false fun x19=>guardO ((((((decide (x13.FKind=(Z3.mk (9:Int) ([65]:Bs) ([120]:Bs) ([110]:Bs) ([73,110,116]:Bs) ([73,110,116,33]:Bs)).FKind)&&((x13.FType==(Z3.mk (9:Int) ([65]:Bs) ([120]:Bs) ([110]:Bs) ([73,110,116]:Bs) ([73,110,116,33]:Bs)).FType)&&((x13.FField==(Z3.mk (9:Int) ([65]:Bs) ([120]:Bs) ([110]:Bs) ([73,110,116]:Bs) ([73,110,116,33]:Bs)).FField)&&((x13.FArg==(Z3.mk (9:Int) ([65]:Bs) ([120]:Bs) ([110]:Bs) ([73,110,116]:Bs) ([73,110,116,33]:Bs)).FArg)&&((x13.FFrom==(Z3.mk (9:Int) ([65]:Bs) ([120]:Bs) ([110]:Bs) ([73,110,116]:Bs) ([73,110,116,33]:Bs)).FFrom)&&((x13.FTo==(Z3.mk (9:Int) ([65]:Bs) ([120]:Bs) ([110]:Bs) ([73,110,116]:Bs) ([73,110,116,33]:Bs)).FTo)&&true))))))&&(decide (x14.FKind=(4:Int))))&&(decide (x15.FKind=(Z3.mk (5:Int) ([65]:Bs) ([122]:Bs) ([]:Bs) ([]:Bs) ([73,110,116]:Bs)).FKind)&&((x15.FType==(Z3.mk (5:Int) ([65]:Bs) ([122]:Bs) ([]:Bs) ([]:Bs) ([73,110,116]:Bs)).FType)&&((x15.FField==(Z3.mk (5:Int) ([65]:Bs) ([122]:Bs) ([]:Bs) ([]:Bs) ([73,110,116]:Bs)).FField)&&((x15.FArg==(Z3.mk (5:Int) ([65]:Bs) ([122]:Bs) ([]:Bs) ([]:Bs) ([73,110,116]:Bs)).FArg)&&((x15.FFrom==(Z3.mk (5:Int) ([65]:Bs) ([122]:Bs) ([]:Bs) ([]:Bs) ([73,110,116]:Bs)).FFrom)&&((x15.FTo==(Z3.mk (5:Int) ([65]:Bs) ([122]:Bs) ([]:Bs) ([]:Bs) ([73,110,116]:Bs)).FTo)&&true)))))))&&((x17==([65,114,103,84,121,112,101,32,65,46,120,40,110,41,58,32,73,110,116,32,45,62,32,73,110,116,33]:Bs))))&&(!x19))) (x6.l[2]?) Z3.zero fun x20=>guardO ((((((decide (x13.FKind=(Z3.mk (9:Int) ([65]:Bs) ([120]:Bs) ([110]:Bs) ([73,110,116]:Bs) ([73,110,116,33]:Bs)).FKind)&&((x13.FType==(Z3.mk (9:Int) ([65]:Bs) ([120]:Bs) ([110]:Bs) ([73,110,116]:Bs) ([73,110,116,33]:Bs)).FType)&&((x13.FField==(Z3.mk (9:Int) ([65]:Bs) ([120]:Bs) ([110]:Bs) ([73,110,116]:Bs) ([73,110,116,33]:Bs)).FField)&&((x13.FArg==(Z3.mk (9:Int) ([65]:Bs) ([120]:Bs) ([110]:Bs) ([73,110,116]:Bs) ([73,110,116,33]:Bs)).FArg)&&((x13.FFrom==(Z3.mk (9:Int) ([65]:Bs) ([120]:Bs) ([110]:Bs) ([73,110,116]:Bs) ([73,110,116,33]:Bs)).FFrom)&&((x13.FTo==(Z3.mk (9:Int) ([65]:Bs) ([120]:Bs) ([110]:Bs) ([73,110,116]:Bs) ([73,110,116,33]:Bs)).FTo)&&true))))))&&(decide (x14.FKind=(4:Int))))&&(decide (x15.FKind=(Z3.mk (5:Int) ([65]:Bs) ([122]:Bs) ([]:Bs) ([]:Bs) ([73,110,116]:Bs)).FKind)&&((x15.FType==(Z3.mk (5:Int) ([65]:Bs) ([122]:Bs) ([]:Bs) ([]:Bs) ([73,110,116]:Bs)).FType)&&((x15.FField==(Z3.mk (5:Int) ([65]:Bs) ([122]:Bs) ([]:Bs) ([]:Bs) ([73,110,116]:Bs)).FField)&&((x15.FArg==(Z3.mk (5:Int) ([65]:Bs) ([122]:Bs) ([]:Bs) ([]:Bs) ([73,110,116]:Bs)).FArg)&&((x15.FFrom==(Z3.mk (5:Int) ([65]:Bs) ([122]:Bs) ([]:Bs) ([]:Bs) ([73,110,116]:Bs)).FFrom)&&((x15.FTo==(Z3.mk (5:Int) ([65]:Bs) ([122]:Bs) ([]:Bs) ([]:Bs) ([73,110,116]:Bs)).FTo)&&true)))))))&&((x17==([65,114,103,84,121,112,101,32,65,46,120,40,110,41,58,32,73,110,116,32,45,62,32,73,110,116,33]:Bs))))&&(!x19))) (Z9 x20) false fun x21=>some ((((((decide (x13.FKind=(Z3.mk (9:Int) ([65]:Bs) ([120]:Bs) ([110]:Bs) ([73,110,116]:Bs) ([73,110,116,33]:Bs)).FKind)&&((x13.FType==(Z3.mk (9:Int) ([65]:Bs) ([120]:Bs) ([110]:Bs) ([73,110,116]:Bs) ([73,110,116,33]:Bs)).FType)&&((x13.FField==(Z3.mk (9:Int) ([65]:Bs) ([120]:Bs) ([110]:Bs) ([73,110,116]:Bs) ([73,110,116,33]:Bs)).FField)&&((x13.FArg==(Z3.mk (9:Int) ([65]:Bs) ([120]:Bs) ([110]:Bs) ([73,110,116]:Bs) ([73,110,116,33]:Bs)).FArg)&&((x13.FFrom==(Z3.mk (9:Int) ([65]:Bs) ([120]:Bs) ([110]:Bs) ([73,110,116]:Bs) ([73,110,116,33]:Bs)).FFrom)&&((x13.FTo==(Z3.mk (9:Int) ([65]:Bs) ([120]:Bs) ([110]:Bs) ([73,110,116]:Bs) ([73,110,116,33]:Bs)).FTo)&&true))))))&&(decide (x14.FKind=(4:Int))))&&(decide (x15.FKind=(Z3.mk (5:Int) ([65]:Bs) ([122]:Bs) ([]:Bs) ([]:Bs) ([73,110,116]:Bs)).FKind)&&((x15.FType==(Z3.mk (5:Int) ([65]:Bs) ([122]:Bs) ([]:Bs) ([]:Bs) ([73,110,116]:Bs)).FType)&&((x15.FField==(Z3.mk (5:Int) ([65]:Bs) ([122]:Bs) ([]:Bs) ([]:Bs) ([73,110,116]:Bs)).FField)&&((x15.FArg==(Z3.mk (5:Int) ([65]:Bs) ([122]:Bs) ([]:Bs) ([]:Bs) ([73,110,116]:Bs)).FArg)&&((x15.FFrom==(Z3.mk (5:Int) ([65]:Bs) ([122]:Bs) ([]:Bs) ([]:Bs) ([73,110,116]:Bs)).FFrom)&&((x15.FTo==(Z3.mk (5:Int) ([65]:Bs) ([122]:Bs) ([]:Bs) ([]:Bs) ([73,110,116]:Bs)).FTo)&&true)))))))&&((x17==([65,114,103,84,121,112,101,32,65,46,120,40,110,41,58,32,73,110,116,32,45,62,32,73,110,116,33]:Bs))))&&(!x19))&&x21))
theorem Z32_walk  {oT oE oM:Ab.Obj}{gT gE gM:Nat}{r:Bool}(hE:Z32 =some r) (H:Heap) (hgT:H gT=some oT) (hoT:IsTab Tryz.prog oT) (hgE:H gE=some oE) (hoE:IsErr Tryz.prog oE) (hgM:H gM=some oM) (hoM:IsMax Tryz.prog oM):AC Tryz.prog 4 [] H fun v h'=>v=.a (.d (.bool r))/\h'=H:=by
 unfold Z32 at hE;refine AC.oW 52 [.tmp 0] Tryz.call4 Tryz.func4 ?_;refine seqR (S As (nil ?_));refine seqR (S BV (S BU ?_));refine Sl ?_;refine Sf ?_;refine nil ?_;refine freezeA 1 _ rfl Keeps.nil ?_;refine AWp.seqD (Sd BU ?_);obtain⟨x4,gx4,hE⟩:=bO hE;refine Scd rfl rfl (Z33_walk gx4) ?_;refine Sd Ld ?_;obtain⟨x5,gx5,hE⟩:=bO hE;refine Scd rfl rfl (Z33_walk gx5) ?_;obtain⟨x6,gx6,hE⟩:=bO hE;refine DOps.s0 (callR rfl rfl (Z10_walk (gT:=gT) (oT:=oT) gx6 _ hpG (by assumption))) rfl ?_
 refine Sd As ?_;refine DOps.nil (by decide +kernel) ?_;refine seqK fun K7 hK7=>?_;refine seqR (S Mv ?_);refine sLen (f:=Z3.c) (s:=x6) (TK rfl) rfl rfl rfl rfl fun hL9=>?_;refine S BI (nil ?_);refine cE hE (fun hc10 hE=>?_) (fun hc10 hE=>?_)
 ·refine seqR (S As (nil ?_));exact rt hE
 refine sk hK7 ?_;clear hK7 K7;refine seqR (S Mv ?_);obtain⟨x13,gx13,hE⟩:=bO hE;refine S (ix Z3.c 0 gx13) (S Ld (S BU ?_));refine s0 (eqStruct eqt_23 rfl rfl rfl rfl) rfl ?_;refine S Mv (G0 Mv ?_);obtain⟨x14,gx14,hE⟩:=gO hE;refine gC rfl rfl (fun hC=>ungdA (k:=19) rfl (idxMn (f:=Z3.c) (n:=1) (TK rfl) rfl (TK rfl) rfl rfl rfl (gx14 hC))) rfl ?_;refine G1 20 rfl Fv ?_;refine G1 21 rfl Ld ?_;refine G1 22 rfl BI ?_
 refine S PA (S Mv (G0 Mv ?_));obtain⟨x15,gx15,hE⟩:=gO hE;refine gC rfl rfl (fun hC=>ungdA (k:=26) rfl (idxMn (f:=Z3.c) (n:=2) (TK rfl) rfl (TK rfl) rfl rfl rfl (gx15 hC))) rfl ?_;refine G1 27 rfl Ld ?_;refine G0 BU ?_;refine gC rfl rfl (fun hC=>ungdA (k:=28) rfl (ungdA (k:=29) rfl (eqStruct eqt_23 rfl rfl rfl rfl))) rfl ?_;refine S PA (S Mv (G0 Mv ?_));obtain⟨x16,gx16,hE⟩:=gO hE;refine gC rfl rfl (fun hC=>ungdA (k:=33) rfl (idxMn (f:=Z3.c) (n:=0) (TK rfl) rfl (TK rfl) rfl rfl rfl (gx16 hC))) rfl ?_
 refine G1 34 rfl Ld ?_;obtain⟨x17,gx17,hE⟩:=gO hE;refine gC rfl rfl (fun hC=>ungdA (k:=35) rfl (callR rfl rfl (Z11_walk (gT:=gT) (oT:=oT) (gx17 hC) _ hpG (by assumption)))) rfl ?_;refine G1 36 rfl BS ?_;refine S PA (S Mv (G0 Mv ?_));obtain⟨x18,gx18,hE⟩:=gO hE;refine gC rfl rfl (fun hC=>ungdA (k:=40) rfl (idxMn (f:=Z3.c) (n:=0) (TK rfl) rfl (TK rfl) rfl rfl rfl (gx18 hC))) rfl ?_;refine G1 41 rfl Ld ?_
 obtain⟨x19,gx19,hE⟩:=gO hE;refine gC rfl rfl (fun hC=>ungdA (k:=42) rfl (callR rfl rfl (Z9_walk (gE:=gE) (oE:=oE) (gM:=gM) (oM:=oM) (gx19 hC) _ hpG (by assumption) hpG (by assumption)))) rfl ?_;refine G1 43 rfl NB ?_;refine S PA (S Mv (G0 Mv ?_));obtain⟨x20,gx20,hE⟩:=gO hE;refine gC rfl rfl (fun hC=>ungdA (k:=47) rfl (idxMn (f:=Z3.c) (n:=2) (TK rfl) rfl (TK rfl) rfl rfl rfl (gx20 hC))) rfl ?_;refine G1 48 rfl Ld ?_
 obtain⟨x21,gx21,hE⟩:=gO hE;refine gC rfl rfl (fun hC=>ungdA (k:=49) rfl (callR rfl rfl (Z9_walk (gE:=gE) (oE:=oE) (gM:=gM) (oM:=oM) (gx21 hC) _ hpG (by assumption) hpG (by assumption)))) rfl ?_;refine S PA (S As (nil ?_));exact rt hE
end
end Go.Proofs

namespace Go.Proofs
open Go Go.Ab
open AOps Cert AWp Keeps KeepsT
variable {lou:Lou}
def Z39_n:Nat->Int->Option Bs
 | 0,_=>none
 | n+1,a0=>(subC (48:Int) (Int.tmod a0 (10:Int))).bind fun x3=>bif (decide ((-10:Int)<a0)) then(some (bytesC (⟨false,[(IntKind.wrap .u8 x3)]⟩:Sl Int))) else(((Z39_n n) (IntKind.wrap .i64 (Int.tdiv a0 (10:Int)))).bind fun x9=>(catC x9 (bytesC (⟨false,[(IntKind.wrap .u8 x3)]⟩:Sl Int))).bind fun x10=>some x10)
theorem Z39_step (n:Nat) (ih_45:∀{a0:Int}{r:Bs},Z39_n n a0=some r->∀(H:Heap),AC Tryz.prog 45 [.d (.int .i64 a0)] H fun v h'=>v=.a (.d (.str r))/\h'=H):∀{a0:Int}{r:Bs},Z39_n (n+1) a0=some r->∀(H:Heap),AC Tryz.prog 45 [.d (.int .i64 a0)] H fun v h'=>v=.a (.d (.str r))/\h'=H:=by
 intro a0   r hE H ;rw [Z39_n] at hE;refine AC.oW 18 [.tmp 2] Tryz.call45 Tryz.func45 ?_;refine seqR (S As (nil ?_));refine seqR (S Mv ?_);refine s0 (remI rfl rfl (by decide)) rfl ?_;obtain⟨x3,gx3,hE⟩:=bO hE;refine s0 (subM rfl rfl gx3) rfl ?_;refine s0 (convI (TK rfl) (TK rfl) rfl rfl) rfl ?_;refine S BV ?_;refine s0 (convB (y:=(⟨false,[(IntKind.wrap .u8 x3)]⟩:Sl Int)) (TK rfl) rfl (TK rfl) rfl (TK rfl) rfl rfl) rfl ?_
 refine S As (nil ?_);refine seqK fun K4 hK4=>?_;refine seqR (S Mv (S BI (nil ?_)));refine cE hE (fun hc6 hE=>?_) (fun hc6 hE=>?_)
 ·refine seqR (S Mv (S As (nil ?_)));exact rt hE
 refine sk hK4 ?_;clear hK4 K4;refine seqR (S Mv ?_);refine s0 (quoI rfl rfl (by decide)) rfl ?_;obtain⟨x9,gx9,hE⟩:=bO hE;refine Sc rfl rfl (ih_45 gx9) ?_;refine S Mv ?_;obtain⟨x10,gx10,hE⟩:=bO hE;refine s0 (catM rfl rfl gx10) rfl ?_;refine S As (nil ?_);exact rt hE
theorem Z39_all:∀(n:Nat),(∀{a0:Int}{r:Bs},Z39_n n a0=some r->∀(H:Heap),AC Tryz.prog 45 [.d (.int .i64 a0)] H fun v h'=>v=.a (.d (.str r))/\h'=H)
 | 0=>fun hE=>by first|cases hE|(rw [Z39_n] at hE; cases hE)
 | n+1=>Z39_step n (Z39_all n)
def Z39 (a0:Int):Option Bs:=Z39_n F0 a0
theorem Z39_walk {a0:Int}{r:Bs}(hE:Z39 a0=some r) (H:Heap) :AC Tryz.prog 45 [.d (.int .i64 a0)] H fun v h'=>v=.a (.d (.str r))/\h'=H:=(Z39_all F0) hE H 
def Z34 (a0:Int):Option Bs:=bif (decide (a0<(0:Int))) then((Z39 a0).bind fun x6=>(catC ([45]:Bs) x6).bind fun x7=>some x7) else((Z39 (IntKind.wrap .i64 (0-a0))).bind fun x9=>some x9)
theorem Z34_walk {a0:Int}{r:Bs}(hE:Z34 a0=some r) (H:Heap) :AC Tryz.prog 27 [.d (.int .i64 a0)] H fun v h'=>v=.a (.d (.str r))/\h'=H:=by
 unfold Z34 at hE;refine AC.oW 11 [.tmp 2] Tryz.call27 Tryz.func27 ?_;refine seqR (S As (nil ?_));refine seqK fun K2 hK2=>?_;refine seqR (S Mv (S BI (nil ?_)));refine cE hE (fun hc4 hE=>?_) (fun hc4 hE=>?_)
 ·refine seqR (S Mv ?_);obtain⟨x6,gx6,hE⟩:=bO hE;refine Sc rfl rfl (Z39_walk gx6) ?_;obtain⟨x7,gx7,hE⟩:=bO hE;refine s0 (catM rfl rfl gx7) rfl ?_;refine S As (nil ?_);exact rt hE
 refine sk hK2 ?_;clear hK2 K2;refine seqR (S Mv ?_);refine s0 (negI rfl) rfl ?_;obtain⟨x9,gx9,hE⟩:=bO hE;refine Sc rfl rfl (Z39_walk gx9) ?_;refine S As (nil ?_);exact rt hE
def Z68 (a0:Int):Option Bs:=bif ((decide ((1:Int)<=a0))&&(decide (a0<=(((⟨false,[([84,121,112,101,71,111,110,101]:Bs),([84,121,112,101,78,101,119]:Bs),([84,121,112,101,75,105,110,100]:Bs),([70,105,101,108,100,71,111,110,101]:Bs),([70,105,101,108,100,78,101,119]:Bs),([70,105,101,108,100,84,121,112,101]:Bs),([65,114,103,71,111,110,101]:Bs),([65,114,103,78,101,119]:Bs),([65,114,103,84,121,112,101]:Bs),([65,114,103,68,101,102,97,117,108,116]:Bs),([77,101,109,98,101,114,71,111,110,101]:Bs),([77,101,109,98,101,114,78,101,119]:Bs),([73,110,112,117,116,71,111,110,101]:Bs),([73,110,112,117,116,78,101,119]:Bs),([73,110,112,117,116,84,121,112,101]:Bs),([73,110,112,117,116,68,101,102,97,117,108,116]:Bs),([70,97,99,101,71,111,110,101]:Bs),([70,97,99,101,78,101,119]:Bs)]⟩:Sl Bs).l.length:Nat):Int)))) then((subC a0 (1:Int)).bind fun x7=>(idxC (⟨false,[([84,121,112,101,71,111,110,101]:Bs),([84,121,112,101,78,101,119]:Bs),([84,121,112,101,75,105,110,100]:Bs),([70,105,101,108,100,71,111,110,101]:Bs),([70,105,101,108,100,78,101,119]:Bs),([70,105,101,108,100,84,121,112,101]:Bs),([65,114,103,71,111,110,101]:Bs),([65,114,103,78,101,119]:Bs),([65,114,103,84,121,112,101]:Bs),([65,114,103,68,101,102,97,117,108,116]:Bs),([77,101,109,98,101,114,71,111,110,101]:Bs),([77,101,109,98,101,114,78,101,119]:Bs),([73,110,112,117,116,71,111,110,101]:Bs),([73,110,112,117,116,78,101,119]:Bs),([73,110,112,117,116,84,121,112,101]:Bs),([73,110,112,117,116,68,101,102,97,117,108,116]:Bs),([70,97,99,101,71,111,110,101]:Bs),([70,97,99,101,78,101,119]:Bs)]⟩:Sl Bs).l x7).bind fun x8=>some x8) else((Z34 a0).bind fun x10=>(catC ([67,104,97,110,103,101,32]:Bs) x10).bind fun x11=>some x11)
theorem Z68_walk {a0:Int}{r:Bs}(hE:Z68 a0=some r) (H:Heap) :AC Tryz.prog 13 [.d (.int .i64 a0)] H fun v h'=>v=.a (.d (.str r))/\h'=H:=by
 unfold Z68 at hE;refine AC.oW 21 [.tmp 2] Tryz.call13 Tryz.func13 ?_;refine seqR (S As (nil ?_));refine seqR (S BV (S As (nil ?_)));refine seqK fun K3 hK3=>?_;refine seqR (S Mv (S BI (S Mv (G0 Mv (G0 Mv ?_)))));refine gC rfl rfl (fun hC=>ungdA (k:=9) rfl (lenM' (f:=strE) (s:=(⟨false,[([84,121,112,101,71,111,110,101]:Bs),([84,121,112,101,78,101,119]:Bs),([84,121,112,101,75,105,110,100]:Bs),([70,105,101,108,100,71,111,110,101]:Bs),([70,105,101,108,100,78,101,119]:Bs),([70,105,101,108,100,84,121,112,101]:Bs),([65,114,103,71,111,110,101]:Bs),([65,114,103,78,101,119]:Bs),([65,114,103,84,121,112,101]:Bs),([65,114,103,68,101,102,97,117,108,116]:Bs),([77,101,109,98,101,114,71,111,110,101]:Bs),([77,101,109,98,101,114,78,101,119]:Bs),([73,110,112,117,116,71,111,110,101]:Bs),([73,110,112,117,116,78,101,119]:Bs),([73,110,112,117,116,84,121,112,101]:Bs),([73,110,112,117,116,68,101,102,97,117,108,116]:Bs),([70,97,99,101,71,111,110,101]:Bs),([70,97,99,101,78,101,119]:Bs)]⟩:Sl Bs)) (TK rfl) rfl rfl rfl)) rfl ?_
 refine G2 8 10 rfl rfl BI ?_;refine S PA (nil ?_);refine cE hE (fun hc5 hE=>?_) (fun hc5 hE=>?_)
 ·refine seqR (S Mv (S Mv ?_));obtain⟨x7,gx7,hE⟩:=bO hE;refine s0 (subM rfl rfl gx7) rfl ?_;obtain⟨x8,gx8,hE⟩:=bO hE;refine s0 (idxM (f:=strE) (TK rfl) rfl (TK rfl) rfl rfl rfl gx8) rfl ?_;refine S Ld (S As (nil ?_));exact rt hE
 refine sk hK3 ?_;clear hK3 K3;refine seqR (S Mv ?_);obtain⟨x10,gx10,hE⟩:=bO hE;refine Sc rfl rfl (Z34_walk gx10) ?_;obtain⟨x11,gx11,hE⟩:=bO hE;refine s0 (catM rfl rfl gx11) rfl ?_;refine S As (nil ?_);exact rt hE
def Z70 (a0:Bs):Option Bs:=bif ((a0==([]:Bs))) then(some ([110,111,110,101]:Bs)) else(some a0)
theorem Z70_walk {a0 r:Bs}(hE:Z70 a0=some r) (H:Heap) :AC Tryz.prog 14 [.d (.str a0)] H fun v h'=>v=.a (.d (.str r))/\h'=H:=by
 unfold Z70 at hE;refine AC.oW 6 [.tmp 2] Tryz.call14 Tryz.func14 ?_;refine seqR (S As (nil ?_));refine seqK fun K2 hK2=>?_;refine seqR (S Mv (S BS (nil ?_)));refine cE hE (fun hc4 hE=>?_) (fun hc4 hE=>?_)
 ·refine seqR (S As (nil ?_));exact rt hE
 refine sk hK2 ?_;clear hK2 K2;refine seqR (S Mv (S As (nil ?_)));exact rt hE
def Z67_j10  (s3_11:Bs):Option Bs:=some s3_11
def Z67_j8 (a0:Z3)  (s3_9:Bs):Option Bs:=bif ((!(a0.FFrom==([]:Bs)))||(!(a0.FTo==([]:Bs)))) then((catC s3_9 ([58,32]:Bs)).bind fun x15=>(Z70 a0.FFrom).bind fun x16=>(catC x15 x16).bind fun x17=>(catC x17 ([32,45,62,32]:Bs)).bind fun x18=>(Z70 a0.FTo).bind fun x19=>(catC x18 x19).bind fun x20=>Z67_j10   x20) else(Z67_j10   s3_9)
def Z67_j6 (a0:Z3)  (s3_7:Bs):Option Bs:=bif (!(a0.FArg==([]:Bs))) then((catC s3_7 ([40]:Bs)).bind fun x23=>(catC x23 a0.FArg).bind fun x24=>(catC x24 ([41]:Bs)).bind fun x25=>Z67_j8 a0  x25) else(Z67_j8 a0  s3_7)
def Z67 (a0:Z3):Option Bs:=(Z68 a0.FKind).bind fun x3=>(catC x3 ([32]:Bs)).bind fun x4=>(catC x4 a0.FType).bind fun x5=>bif (!(a0.FField==([]:Bs))) then((catC x5 ([46]:Bs)).bind fun x28=>(catC x28 a0.FField).bind fun x29=>Z67_j6 a0  x29) else(Z67_j6 a0  x5)
theorem Z67_walk {a0:Z3}{r:Bs}(hE:Z67 a0=some r) (H:Heap) :AC Tryz.prog 6 [.agg (Z3.c a0)] H fun v h'=>v=.a (.d (.str r))/\h'=H:=by
 unfold Z67 at hE;refine AC.oW 48 [.tmp 2] Tryz.call6 Tryz.func6 ?_;refine seqR (S BX (S As (nil ?_)));refine AWp.seqD (Sd Fv (Sd Ld ?_));obtain⟨x3,gx3,hE⟩:=bO hE;refine Scd rfl rfl (Z68_walk gx3) ?_;obtain⟨x4,gx4,hE⟩:=bO hE;refine DOps.s0 (catM rfl rfl gx4) rfl ?_;refine Sd Fv (Sd Ld ?_);obtain⟨x5,gx5,hE⟩:=bO hE;refine DOps.s0 (catM rfl rfl gx5) rfl ?_;refine Sd As ?_;refine DOps.nil (by decide +kernel) ?_
 refine seqJH (TA 1 kN) (fun(z:Bs)=>[(3,.a (.d (.str z)))]) (fun z=>H) (fun z=>Z67_j6 a0 z=some r) ?_ ?_
 ·intro K6 hK6;refine seqR (S Fv (S Ld (S BS (nil ?_))));refine cE hE (fun hc27 hE=>?_) (fun hc27 hE=>?_)
  ·refine region ?_;refine S Mv ?_;obtain⟨x28,gx28,hE⟩:=bO hE;refine s0 (catM rfl rfl gx28) rfl ?_;refine S Fv (S Ld ?_);obtain⟨x29,gx29,hE⟩:=bO hE;refine s0 (catM rfl rfl gx29) rfl ?_;refine S As (nil ?_);exact hK6 _ x29 wA hE
  refine AWp.skip ?_;exact hK6 _ x5 wA hE
 rintro s3_7 hE;try dsimp only at hE
 unfold Z67_j6 at hE;refine seqJH (TA 1 kN) (fun(z:Bs)=>[(3,.a (.d (.str z)))]) (fun z=>H) (fun z=>Z67_j8 a0 z=some r) ?_ ?_
 ·intro K8 hK8;refine seqR (S Fv (S Ld (S BS (nil ?_))));refine cE hE (fun hc22 hE=>?_) (fun hc22 hE=>?_)
  ·refine region ?_;refine S Mv ?_;obtain⟨x23,gx23,hE⟩:=bO hE;refine s0 (catM rfl rfl gx23) rfl ?_;refine S Fv (S Ld ?_);obtain⟨x24,gx24,hE⟩:=bO hE;refine s0 (catM rfl rfl gx24) rfl ?_;obtain⟨x25,gx25,hE⟩:=bO hE;refine s0 (catM rfl rfl gx25) rfl ?_;refine S As (nil ?_);exact hK8 _ x25 wA hE
  refine AWp.skip ?_;exact hK8 _ s3_7 wA hE
 rintro s3_9 hE;try dsimp only at hE
 unfold Z67_j8 at hE;refine seqJH kN (fun(z:Bs)=>[(3,.a (.d (.str z)))]) (fun z=>H) (fun z=>Z67_j10 z=some r) ?_ ?_
 ·intro K10 hK10;refine seqR (S Fv (S Ld (S BS (S Mv (G0 Fv ?_)))));refine G1 32 rfl Ld ?_;refine G1 33 rfl BS ?_;refine S PO (nil ?_);refine cE hE (fun hc14 hE=>?_) (fun hc14 hE=>?_)
  ·refine AWp.draw rfl ?_;refine Sd Mv ?_;obtain⟨x15,gx15,hE⟩:=bO hE;refine DOps.s0 (catM rfl rfl gx15) rfl ?_;refine Sd Fv (Sd Ld ?_);obtain⟨x16,gx16,hE⟩:=bO hE;refine Scd rfl rfl (Z70_walk gx16) ?_;obtain⟨x17,gx17,hE⟩:=bO hE;refine DOps.s0 (catM rfl rfl gx17) rfl ?_;obtain⟨x18,gx18,hE⟩:=bO hE;refine DOps.s0 (catM rfl rfl gx18) rfl ?_;refine Sd Fv (Sd Ld ?_);obtain⟨x19,gx19,hE⟩:=bO hE;refine Scd rfl rfl (Z70_walk gx19) ?_
   obtain⟨x20,gx20,hE⟩:=bO hE;refine DOps.s0 (catM rfl rfl gx20) rfl ?_;refine Sd As ?_;refine DOps.nil (by decide +kernel) ?_;exact hK10 _ x20 wA hE
  refine AWp.skip ?_;exact hK10 _ s3_9 wA hE
 rintro s3_11 hE;try dsimp only at hE
 unfold Z67_j10 at hE;refine seqR (S Mv (S As (nil ?_)));exact rt hE
def Z69_j2 (a0:Bs)  :Option Bool:=guardO (!(decide (((a0.length:Nat):Int)=(0:Int)))) (subC ((a0.length:Nat):Int) (1:Int)) (0:Int) fun x5=>guardO (!(decide (((a0.length:Nat):Int)=(0:Int)))) (idxC a0 x5) (0:UInt8) fun x6=>some ((decide (((a0.length:Nat):Int)=(0:Int)))||(!decide (((x6.toNat:Nat):Int)=(33:Int))))
def Z69_l8 (a0:Bs) :Nat->Int->Option Bool
 | 0,_=>none
 | n8+1,s3_9=>(addC s3_9 (3:Int)).bind fun x12=>bif (decide (x12<=((a0.length:Nat):Int))) then((addC s3_9 (3:Int)).bind fun x17=>(cutC a0 (some s3_9) (some x17)).bind fun x18=>bif ((x18==([32,61,32]:Bs))) then(some false) else((addC s3_9 (1:Int)).bind fun x21=>(Z69_l8 a0 n8) x21)) else(Z69_j2 a0  )
def Z69 (a0:Bs):Option Bool:=Z69_l8 a0 F0 (0:Int)
theorem Z69_walk {a0:Bs}{r:Bool}(hE:Z69 a0=some r) (H:Heap) :AC Tryz.prog 19 [.d (.str a0)] H fun v h'=>v=.a (.d (.bool r))/\h'=H:=by
 unfold Z69 at hE;refine AC.oW 28 [.tmp 2] Tryz.call19 Tryz.func19 ?_;refine seqR (S As (nil ?_));refine seqJH (TA 0 kN) (fun(z:Unit)=>[]) (fun z=>H) (fun z=>Z69_j2 a0 =some r) ?_ ?_
 ·intro K2 hK2;refine seqR (S As (nil ?_));refine block ?_;refine loopH (TA 0 kN) (fun(z:Nat×Int)=>[(3,.a (.d (.int .i64 z.2)))]) (fun z=>H) (fun z=>z.1) (fun z=>Z69_l8 a0 z.1 z.2=some r) (F0,(0:Int)) hE wA ?_;rintro ⟨n8,s3_9⟩ hE K8 hK8;try dsimp only at hE
  cases n8 with
  | zero=>cases hE
  | succ n8 =>
    rw [Z69_l8] at hE;refine seqK fun K10 hK10=>?_;refine seqR (S Mv ?_);obtain⟨x12,gx12,hE⟩:=bO hE;refine s0 (addM rfl rfl gx12) rfl ?_;refine S Mv ?_;refine sLenS (TK rfl) rfl rfl rfl rfl fun hL13=>?_;refine S BI (nil ?_);refine cE hE (fun hc14 hE=>?_) (fun hc14 hE=>?_)
    ·refine sk hK10 ?_;clear hK10 K10;refine seqK fun K15 hK15=>?_;refine block ?_;refine seqR (S Mv (S Mv (S Mv ?_)));obtain⟨x17,gx17,hE⟩:=bO hE;refine s0 (addM rfl rfl gx17) rfl ?_;obtain⟨x18,gx18,hE⟩:=bO hE;refine s0 (cutM (l:=(some s3_9)) (r:=(some x17)) (TK rfl) rfl rfl rfl rfl (by simp) gx18) rfl ?_;refine S BS (nil ?_);refine cE hE (fun hc19 hE=>?_) (fun hc19 hE=>?_)
     ·refine seqR (S As (nil ?_));exact rt hE
     refine sk hK15 ?_;clear hK15 K15;refine region ?_;refine S Mv ?_;obtain⟨x21,gx21,hE⟩:=bO hE;refine s0 (addM rfl rfl gx21) rfl ?_;refine S As (nil ?_);exact hK8 _ (n8,x21) wA hE (nS _)
    refine AWp.exit ?_;exact hK2 _ () wA hE
 rintro _ hE;try dsimp only at hE
 unfold Z69_j2 at hE;refine seqR (S Mv ?_);refine sLenS (TK rfl) rfl rfl rfl rfl fun hL4=>?_;refine S BI (S Mv (G0 Mv (G0 Mv ?_)));refine gC rfl rfl (fun hC=>ungdA (k:=22) rfl (lenS (TK rfl) rfl rfl rfl)) rfl ?_;obtain⟨x5,gx5,hE⟩:=gO hE;refine gC rfl rfl (fun hC=>ungdA (k:=23) rfl (subM rfl rfl (gx5 hC))) rfl ?_;obtain⟨x6,gx6,hE⟩:=gO hE;refine gC rfl rfl (fun hC=>ungdA (k:=21) rfl (ungdA (k:=24) rfl (idxS (TK rfl) rfl rfl rfl (gx6 hC)))) rfl ?_
 refine G1 25 rfl BI ?_;refine S PO (S As (nil ?_));exact rt hE
def Z49 (a0:Int):Option Bool:=some (((((decide (a0=(32:Int)))||(decide (a0=(9:Int))))||(decide (a0=(10:Int))))||(decide (a0=(13:Int))))||(decide (a0=(44:Int))))
theorem Z49_walk {a0:Int}{r:Bool}(hE:Z49 a0=some r) (H:Heap) :AC Tryz.prog 90 [.d (.int .u8 a0)] H fun v h'=>v=.a (.d (.bool r))/\h'=H:=by
 unfold Z49 at hE;refine AC.oW 21 [.tmp 2] Tryz.call90 Tryz.func90 ?_;refine seqR (S As (nil ?_));refine seqR (S Mv (S BI (S Mv (G0 Mv ?_))));refine G1 6 rfl BI ?_;refine S PO (S Mv (G0 Mv ?_));refine G1 10 rfl BI ?_;refine S PO (S Mv (G0 Mv ?_));refine G1 14 rfl BI ?_;refine S PO (S Mv (G0 Mv ?_));refine G1 18 rfl BI ?_;refine S PO (S As (nil ?_));exact rt hE
def Z48_j2  (s1_3:Int):Option Int:=some s1_3
def Z48_l23 (a0:Bs) (k_next_5:Int->Option Int):Nat->Int->Option Int
 | 0,_=>none
 | n23+1,s1_24=>guardO ((decide (s1_24<((a0.length:Nat):Int)))) (idxC a0 s1_24) (0:UInt8) fun x28=>guardO (((decide (s1_24<((a0.length:Nat):Int)))&&(!decide (((x28.toNat:Nat):Int)=(10:Int))))) (idxC a0 s1_24) (0:UInt8) fun x29=>bif (((decide (s1_24<((a0.length:Nat):Int)))&&(!decide (((x28.toNat:Nat):Int)=(10:Int))))&&(!decide (((x29.toNat:Nat):Int)=(13:Int)))) then((addC s1_24 (1:Int)).bind fun x31=>(Z48_l23 a0 k_next_5 n23) x31) else(k_next_5 s1_24)
def Z48_l5 (a0:Bs) :Nat->Int->Option Int
 | 0,_=>none
 | n5+1,s1_6=>bif (decide (s1_6<((a0.length:Nat):Int))) then((idxC a0 s1_6).bind fun x13=>(Z49 ((x13.toNat:Nat):Int)).bind fun x14=>bif x14 then((addC s1_6 (1:Int)).bind fun x17=>(Z48_l5 a0 n5) x17) else((idxC a0 s1_6).bind fun x20=>bif (!decide (((x20.toNat:Nat):Int)=(35:Int))) then(some s1_6) else(Z48_l23 a0 ((Z48_l5 a0 n5)) F0 s1_6))) else(Z48_j2   s1_6)
def Z48 (a0:Bs) (a1:Int):Option Int:=Z48_l5 a0 F0 a1
theorem Z48_walk {a0:Bs}{a1 r:Int}(hE:Z48 a0 a1=some r) (H:Heap) :AC Tryz.prog 53 [.d (.str a0),.d (.int .i64 a1)] H fun v h'=>v=.a (.d (.int .i64 r))/\h'=H:=by
 unfold Z48 at hE;refine AC.oW 39 [.tmp 4] Tryz.call53 Tryz.func53 ?_;refine seqR (S As (nil ?_));refine seqJH kN (fun(z:Int)=>[(1,.a (.d (.int .i64 z)))]) (fun z=>H) (fun z=>Z48_j2 z=some r) ?_ ?_
 ·intro K2 hK2;refine block ?_;refine loopH (TA 0 kN) (fun(z:Nat×Int)=>[(1,.a (.d (.int .i64 z.2)))]) (fun z=>H) (fun z=>z.1) (fun z=>Z48_l5 a0 z.1 z.2=some r) (F0,a1) hE wA ?_;rintro ⟨n5,s1_6⟩ hE K5 hK5;try dsimp only at hE
  cases n5 with
  | zero=>cases hE
  | succ n5 =>
    rw [Z48_l5] at hE;refine seqK fun K7 hK7=>?_;refine seqR (S Mv (S Mv ?_));refine sLenS (TK rfl) rfl rfl rfl rfl fun hL9=>?_;refine S BI (nil ?_);refine cE hE (fun hc10 hE=>?_) (fun hc10 hE=>?_)
    ·refine sk hK7 ?_;clear hK7 K7;refine block ?_;refine seqK fun K11 hK11=>?_;refine seqR (S Mv (S Mv ?_));obtain⟨x13,gx13,hE⟩:=bO hE;refine s0 (idxS (TK rfl) rfl rfl rfl gx13) rfl ?_;obtain⟨x14,gx14,hE⟩:=bO hE;refine Sc rfl rfl (Z49_walk gx14) ?_;refine nil ?_;refine cE hE (fun hc15 hE=>?_) (fun hc15 hE=>?_)
     ·refine seqR (S Mv ?_);obtain⟨x17,gx17,hE⟩:=bO hE;refine s0 (addM rfl rfl gx17) rfl ?_;refine S As (nil ?_);refine AWp.exit ?_;exact hK5 _ (n5,x17) wA hE (nS _)
     refine sk hK11 ?_;clear hK11 K11;refine seqK fun K18 hK18=>?_;refine seqR (S Mv (S Mv ?_));obtain⟨x20,gx20,hE⟩:=bO hE;refine s0 (idxS (TK rfl) rfl rfl rfl gx20) rfl ?_;refine S BI (nil ?_);refine cE hE (fun hc21 hE=>?_) (fun hc21 hE=>?_)
     ·refine seqR (S Mv (S As (nil ?_)));exact rt hE
     refine sk hK18 ?_;clear hK18 K18;refine block ?_;refine loopH (TA 0 kN) (fun(z:Nat×Int)=>[(1,.a (.d (.int .i64 z.2)))]) (fun z=>H) (fun z=>z.1) (fun z=>Z48_l23 a0 ((Z48_l5 a0 n5)) z.1 z.2=some r) (F0,s1_6) hE wA ?_;rintro ⟨n23,s1_24⟩ hE K23 hK23;try dsimp only at hE
     cases n23 with
     | zero=>cases hE
     | succ n23 =>
       rw [Z48_l23] at hE;refine seqK fun K25 hK25=>?_;refine seqR (S Mv (S Mv ?_));refine sLenS (TK rfl) rfl rfl rfl rfl fun hL27=>?_;refine S BI (S Mv (G0 Mv (G0 Mv ?_)));obtain⟨x28,gx28,hE⟩:=gO hE;refine gC rfl rfl (fun hC=>ungdA (k:=25) rfl (ungdA (k:=26) rfl (idxS (TK rfl) rfl rfl rfl (gx28 hC)))) rfl ?_;refine G1 27 rfl BI ?_;refine S PA (S Mv (G0 Mv (G0 Mv ?_)));obtain⟨x29,gx29,hE⟩:=gO hE;refine gC rfl rfl (fun hC=>ungdA (k:=31) rfl (ungdA (k:=32) rfl (idxS (TK rfl) rfl rfl rfl (gx29 hC)))) rfl ?_
       refine G1 33 rfl BI ?_;refine S PA (nil ?_);refine cE hE (fun hc30 hE=>?_) (fun hc30 hE=>?_)
       ·refine sk hK25 ?_;clear hK25 K25;refine block ?_;refine region ?_;refine S Mv ?_;obtain⟨x31,gx31,hE⟩:=bO hE;refine s0 (addM rfl rfl gx31) rfl ?_;refine S As (nil ?_);exact hK23 _ (n23,x31) wA hE (nS _)
       refine AWp.exit ?_;exact hK5 _ (n5,s1_24) wA hE (nS _)
    refine AWp.exit ?_;exact hK2 _ s1_6 wA hE
 rintro s1_3 hE;try dsimp only at hE
 unfold Z48_j2 at hE;refine seqR (S Mv (S As (nil ?_)));exact rt hE
def Z47_j3  :Option Bool:=some false
def Z47_l6 (a0:Int) :Nat->Nat->Option Bool
 | 0,_=>none
 | n6+1,s4_7=>bif (decide (((s4_7:Nat):Int)<((([33,36,38,40,41,58,61,64,91,93,123,124,125]:Bs).length:Nat):Int))) then((([33,36,38,40,41,58,61,64,91,93,123,124,125]:Bs)[s4_7]?).bind fun x14=>bif (decide (((x14.toNat:Nat):Int)=a0)) then(some true) else((Z47_l6 a0 n6) (s4_7+1))) else(Z47_j3   )
def Z47 (a0:Int):Option Bool:=Z47_l6 a0 ((Int.toNat ((([33,36,38,40,41,58,61,64,91,93,123,124,125]:Bs).length:Nat):Int))+1) 0
theorem Z47_walk {a0:Int}{r:Bool}(hE:Z47 a0=some r) (H:Heap) :AC Tryz.prog 91 [.d (.int .u8 a0)] H fun v h'=>v=.a (.d (.bool r))/\h'=H:=by
 unfold Z47 at hE;refine AC.oW 16 [.tmp 2] Tryz.call91 Tryz.func91 ?_;refine seqR (S As (nil ?_));refine seqR (S As (nil ?_));refine seqJH kN (fun(z:Unit)=>[]) (fun z=>H) (fun z=>Z47_j3 =some r) ?_ ?_
 ·intro K3 hK3;refine seqR (S As (nil ?_));refine block ?_;refine loopH (TA 0 (TA 3 kN)) (fun(z:Nat×Nat)=>[(4,.a (.d (.int .i64 ((z.2:Nat):Int))))]) (fun z=>H) (fun z=>z.1) (fun z=>Z47_l6 a0 z.1 z.2=some r) (((Int.toNat ((([33,36,38,40,41,58,61,64,91,93,123,124,125]:Bs).length:Nat):Int))+1),0) hE wA ?_;rintro ⟨n6,s4_7⟩ hE K6 hK6;try dsimp only at hE
  cases n6 with
  | zero=>cases hE
  | succ n6 =>
    rw [Z47_l6] at hE;refine seqK fun K8 hK8=>?_;refine seqR (S Mv (S Mv ?_));refine sLenS (TK rfl) rfl rfl rfl rfl fun hL10=>?_;refine S BI (nil ?_);refine cE hE (fun hc11 hE=>?_) (fun hc11 hE=>?_)
    ·try dsimp only at hc11
     have hf11:=oD hc11;refine sk hK8 ?_;clear hK8 K8;refine seqK fun K12 hK12=>?_;refine block ?_;refine seqR (S Mv (S Mv ?_));obtain⟨x14,gx14,hE⟩:=bO hE;refine s0 (idxSn (n:=s4_7) (TK rfl) rfl rfl rfl gx14) rfl ?_;refine S Mv (S BI (nil ?_));refine cE hE (fun hc15 hE=>?_) (fun hc15 hE=>?_)
     ·refine seqR (S As (nil ?_));exact rt hE
     refine sk hK12 ?_;clear hK12 K12;refine region ?_;refine S Mv ?_;refine SI ?_;refine S As (nil ?_);exact hK6 _ (n6,(s4_7+1)) wA hE (nS _)
    refine AWp.exit ?_;exact hK3 _ () wA hE
 rintro _ hE;try dsimp only at hE
 unfold Z47_j3 at hE;refine seqR (S As (nil ?_));exact rt hE
def Z45 (a0:Int):Option Bool:=some ((((decide ((65:Int)<=a0))&&(decide (a0<=(90:Int))))||((decide ((97:Int)<=a0))&&(decide (a0<=(122:Int)))))||(decide (a0=(95:Int))))
theorem Z45_walk {a0:Int}{r:Bool}(hE:Z45 a0=some r) (H:Heap) :AC Tryz.prog 92 [.d (.int .u8 a0)] H fun v h'=>v=.a (.d (.bool r))/\h'=H:=by
 unfold Z45 at hE;refine AC.oW 21 [.tmp 2] Tryz.call92 Tryz.func92 ?_;refine seqR (S As (nil ?_));refine seqR (S Mv (S BI (S Mv (G0 Mv ?_))));refine G1 6 rfl BI ?_;refine S PA (S Mv (G0 Mv ?_));refine G1 10 rfl BI ?_;refine G1 11 rfl Mv ?_;refine G0 Mv ?_;refine G1 13 rfl BI ?_;refine gC rfl rfl (fun hC=>ungdA (k:=12) rfl (pickAndA rfl rfl rfl)) rfl ?_;refine S PO (S Mv (G0 Mv ?_));refine G1 18 rfl BI ?_
 refine S PO (S As (nil ?_));exact rt hE
def Z44 (a0:Int):Option Bool:=some ((decide ((48:Int)<=a0))&&(decide (a0<=(57:Int))))
theorem Z44_walk {a0:Int}{r:Bool}(hE:Z44 a0=some r) (H:Heap) :AC Tryz.prog 94 [.d (.int .u8 a0)] H fun v h'=>v=.a (.d (.bool r))/\h'=H:=by
 unfold Z44 at hE;refine AC.oW 9 [.tmp 2] Tryz.call94 Tryz.func94 ?_;refine seqR (S As (nil ?_));refine seqR (S Mv (S BI (S Mv (G0 Mv ?_))));refine G1 6 rfl BI ?_;refine S PA (S As (nil ?_));exact rt hE
end Go.Proofs

namespace Go.Proofs
open Go Go.Ab
open AOps Cert AWp Keeps KeepsT
variable {lou:Lou}
def Z50_j2  (s1_3:Int):Option Int:=some s1_3
def Z50_l5 (a0:Bs) :Nat->Int->Option Int
 | 0,_=>none
 | n5+1,s1_6=>guardO ((decide (s1_6<((a0.length:Nat):Int)))) (idxC a0 s1_6) (0:UInt8) fun x10=>guardO ((decide (s1_6<((a0.length:Nat):Int)))) (Z45 ((x10.toNat:Nat):Int)) false fun x11=>guardO (((decide (s1_6<((a0.length:Nat):Int)))&&!x11)) (idxC a0 s1_6) (0:UInt8) fun x12=>guardO (((decide (s1_6<((a0.length:Nat):Int)))&&!x11)) (Z44 ((x12.toNat:Nat):Int)) false fun x13=>bif ((decide (s1_6<((a0.length:Nat):Int)))&&(x11||x13)) then((addC s1_6 (1:Int)).bind fun x15=>(Z50_l5 a0 n5) x15) else(Z50_j2   s1_6)
def Z50 (a0:Bs) (a1:Int):Option Int:=Z50_l5 a0 F0 a1
theorem Z50_walk {a0:Bs}{a1 r:Int}(hE:Z50 a0 a1=some r) (H:Heap) :AC Tryz.prog 93 [.d (.str a0),.d (.int .i64 a1)] H fun v h'=>v=.a (.d (.int .i64 r))/\h'=H:=by
 unfold Z50 at hE;refine AC.oW 24 [.tmp 4] Tryz.call93 Tryz.func93 ?_;refine seqR (S As (nil ?_));refine seqJH kN (fun(z:Int)=>[(1,.a (.d (.int .i64 z)))]) (fun z=>H) (fun z=>Z50_j2 z=some r) ?_ ?_
 ·intro K2 hK2;refine block ?_;refine loopH (TA 0 kN) (fun(z:Nat×Int)=>[(1,.a (.d (.int .i64 z.2)))]) (fun z=>H) (fun z=>z.1) (fun z=>Z50_l5 a0 z.1 z.2=some r) (F0,a1) hE wA ?_;rintro ⟨n5,s1_6⟩ hE K5 hK5;try dsimp only at hE
  cases n5 with
  | zero=>cases hE
  | succ n5 =>
    rw [Z50_l5] at hE;refine seqK fun K7 hK7=>?_;refine seqR (S Mv (S Mv ?_));refine sLenS (TK rfl) rfl rfl rfl rfl fun hL9=>?_;refine S BI (S Mv (G0 Mv (G0 Mv ?_)));obtain⟨x10,gx10,hE⟩:=gO hE;refine gC rfl rfl (fun hC=>ungdA (k:=10) rfl (ungdA (k:=11) rfl (idxS (TK rfl) rfl rfl rfl (gx10 hC)))) rfl ?_;obtain⟨x11,gx11,hE⟩:=gO hE;refine Gc1 12 rfl rfl rfl rfl rfl (fun hC=>Z45_walk (gx11 hC)) ?_;refine G1 13 rfl Mv ?_
    refine G0 Mv (G0 Mv ?_);obtain⟨x12,gx12,hE⟩:=gO hE;refine gC rfl rfl (fun hC=>ungdA (k:=15) rfl (ungdA (k:=16) rfl (idxS (TK rfl) rfl rfl rfl (gx12 hC)))) rfl ?_;obtain⟨x13,gx13,hE⟩:=gO hE;refine Gc1 17 rfl rfl rfl rfl rfl (fun hC=>Z44_walk (gx13 hC)) ?_;refine gC rfl rfl (fun hC=>ungdA (k:=14) rfl (pickOrA rfl rfl rfl)) rfl ?_;refine S PA (nil ?_);refine cE hE (fun hc14 hE=>?_) (fun hc14 hE=>?_)
    ·refine sk hK7 ?_;clear hK7 K7;refine block ?_;refine region ?_;refine S Mv ?_;obtain⟨x15,gx15,hE⟩:=bO hE;refine s0 (addM rfl rfl gx15) rfl ?_;refine S As (nil ?_);exact hK5 _ (n5,x15) wA hE (nS _)
    refine AWp.exit ?_;exact hK2 _ s1_6 wA hE
 rintro s1_3 hE;try dsimp only at hE
 unfold Z50_j2 at hE;refine seqR (S Mv (S As (nil ?_)));exact rt hE
def Z38 (a0:Int):Option Bool:=some ((decide ((48:Int)<=a0))&&(decide (a0<=(57:Int))))
theorem Z38_walk {a0:Int}{r:Bool}(hE:Z38 a0=some r) (H:Heap) :AC Tryz.prog 121 [.d (.int .u8 a0)] H fun v h'=>v=.a (.d (.bool r))/\h'=H:=by
 unfold Z38 at hE;refine AC.oW 9 [.tmp 2] Tryz.call121 Tryz.func121 ?_;refine seqR (S As (nil ?_));refine seqR (S Mv (S BI (S Mv (G0 Mv ?_))));refine G1 6 rfl BI ?_;refine S PA (S As (nil ?_));exact rt hE
def Z35_j16 (a0:Bs) (x5:UInt8)  (s7_17:Int):Option (Int×Int):=bif ((decide ((0:Int)<((a0.length:Nat):Int)))&&(decide (((x5.toNat:Nat):Int)=(45:Int)))) then(some (s7_17,(0:Int))) else(bif (decide (s7_17=(-9223372036854775808:Int))) then(some ((0:Int),(4:Int))) else(some ((IntKind.wrap .i64 (0-s7_17)),(0:Int))))
def Z35_l28 (a0:Bs) (x5:UInt8) (s4_7:Bs) :Nat->Int->Nat->Option (Int×Int)
 | 0,_,_=>none
 | n28+1,s7_29,s8_30=>bif (decide (((s8_30:Nat):Int)<((s4_7.length:Nat):Int))) then((s4_7[s8_30]?).bind fun x37=>(subC (IntKind.wrap .i64 ((x37.toNat:Nat):Int)) (48:Int)).bind fun x38=>(addC (-9223372036854775808:Int) x38).bind fun x41=>bif (decide (s7_29<(IntKind.wrap .i64 (Int.tdiv x41 (10:Int))))) then(some ((0:Int),(4:Int))) else((mulC (10:Int) s7_29).bind fun x44=>(subC x44 x38).bind fun x45=>(Z35_l28 a0 x5 s4_7 n28) x45 (s8_30+1))) else(Z35_j16 a0 x5  s7_29)
def Z35_j14 (a0:Bs) (x5:UInt8) (s4_7:Bs)  :Option (Int×Int):=Z35_l28 a0 x5 s4_7 (s4_7.length+1) (0:Int) 0
def Z35_l47 (a0:Bs) (x5:UInt8) (s4_7:Bs) :Nat->Nat->Option (Int×Int)
 | 0,_=>none
 | n47+1,s6_48=>bif (decide (((s6_48:Nat):Int)<((s4_7.length:Nat):Int))) then((s4_7[s6_48]?).bind fun x55=>(Z38 ((x55.toNat:Nat):Int)).bind fun x56=>bif (!x56) then(some ((0:Int),(3:Int))) else((Z35_l47 a0 x5 s4_7 n47) (s6_48+1))) else(Z35_j14 a0 x5 s4_7  )
def Z35_j6 (a0:Bs) (x5:UInt8)  (s4_7:Bs):Option (Int×Int):=guardO (!(decide (((s4_7.length:Nat):Int)=(0:Int)))) (s4_7[0]?) (0:UInt8) fun x11=>bif ((decide (((s4_7.length:Nat):Int)=(0:Int)))||((decide (((x11.toNat:Nat):Int)=(48:Int)))&&((decide ((1:Int)<((s4_7.length:Nat):Int)))||((decide ((0:Int)<((a0.length:Nat):Int)))&&(decide (((x5.toNat:Nat):Int)=(45:Int))))))) then(some ((0:Int),(3:Int))) else(Z35_l47 a0 x5 s4_7 (s4_7.length+1) 0)
def Z35 (a0:Bs):Option (Int×Int):=guardO ((decide ((0:Int)<((a0.length:Nat):Int)))) (a0[0]?) (0:UInt8) fun x5=>bif ((decide ((0:Int)<((a0.length:Nat):Int)))&&(decide (((x5.toNat:Nat):Int)=(45:Int)))) then((cutC a0 (some (1:Int)) none).bind fun x61=>Z35_j6 a0 x5  x61) else(Z35_j6 a0 x5  a0)
theorem Z35_walk {a0:Bs}{r:Int×Int}(hE:Z35 a0=some r) (H:Heap) :AC Tryz.prog 95 [.d (.str a0)] H fun v h'=>v=.tup [.d (.int .i64 r.1),.d (.int .i64 r.2)]/\h'=H:=by
 unfold Z35 at hE;refine AC.oW 75 [.tmp 2,.tmp 3] Tryz.call95 Tryz.func95 ?_;refine seqR (S As (S As (nil ?_)));refine seqR (S Mv (S As (nil ?_)));refine seqR (S Mv ?_);refine sLenS (TK rfl) rfl rfl rfl rfl fun hL4=>?_;refine S BI (S Mv (G0 Mv ?_));obtain⟨x5,gx5,hE⟩:=gO hE;refine gC rfl rfl (fun hC=>ungdA (k:=15) rfl (idxSn (n:=0) (TK rfl) rfl rfl rfl (gx5 hC))) rfl ?_;refine G1 16 rfl BI ?_;refine S PA (S As (nil ?_))
 refine seqJH (TA 5 kN) (fun(z:Bs)=>[(4,.a (.d (.str z)))]) (fun z=>H) (fun z=>Z35_j6 a0 x5 z=some r) ?_ ?_
 ·intro K6 hK6;refine seqR (S Mv (nil ?_));refine cE hE (fun hc60 hE=>?_) (fun hc60 hE=>?_)
  ·refine region ?_;refine S Mv ?_;obtain⟨x61,gx61,hE⟩:=bO hE;refine s0 (cutM (l:=(some (1:Int))) (r:=none) (TK rfl) rfl rfl rfl trivial (by simp) gx61) rfl ?_;refine S As (nil ?_);exact hK6 _ x61 wA hE
  refine AWp.skip ?_;exact hK6 _ a0 wA hE
 rintro s4_7 hE;try dsimp only at hE
 unfold Z35_j6 at hE;refine seqK fun K8 hK8=>?_;refine seqR (S Mv ?_);refine sLenS (TK rfl) rfl rfl rfl rfl fun hL10=>?_;refine S BI (S Mv (G0 Mv ?_));obtain⟨x11,gx11,hE⟩:=gO hE;refine gC rfl rfl (fun hC=>ungdA (k:=26) rfl (idxSn (n:=0) (TK rfl) rfl rfl rfl (gx11 hC))) rfl ?_;refine G1 27 rfl BI ?_;refine G1 28 rfl Mv ?_;refine G0 Mv ?_;refine gC rfl rfl (fun hC=>ungdA (k:=30) rfl (lenS (TK rfl) rfl rfl rfl)) rfl ?_
 refine G1 31 rfl BI ?_;refine G1 32 rfl Mv ?_;refine G0 Mv ?_;refine gC rfl rfl (fun hC=>ungdA (k:=33) rfl (pickOrA rfl rfl rfl)) rfl ?_;refine gC rfl rfl (fun hC=>ungdA (k:=29) rfl (pickAndA rfl rfl rfl)) rfl ?_;refine S PO (nil ?_);refine cE hE (fun hc12 hE=>?_) (fun hc12 hE=>?_)
 ·refine seqR (S As (S As (nil ?_)));exact rt hE
 refine sk hK8 ?_;clear hK8 K8;refine seqJH (TA 4 (TA 5 kN)) (fun(z:Unit)=>[]) (fun z=>H) (fun z=>Z35_j14 a0 x5 s4_7 =some r) ?_ ?_
 ·intro K14 hK14;refine seqR (S As (nil ?_));refine block ?_;refine loopH (TA 4 (TA 5 kN)) (fun(z:Nat×Nat)=>[(6,.a (.d (.int .i64 ((z.2:Nat):Int))))]) (fun z=>H) (fun z=>z.1) (fun z=>Z35_l47 a0 x5 s4_7 z.1 z.2=some r) ((s4_7.length+1),0) hE wA ?_;rintro ⟨n47,s6_48⟩ hE K47 hK47;try dsimp only at hE
  cases n47 with
  | zero=>cases hE
  | succ n47 =>
    rw [Z35_l47] at hE;refine seqK fun K49 hK49=>?_;refine seqR (S Mv (S Mv ?_));refine sLenS (TK rfl) rfl rfl rfl rfl fun hL51=>?_;refine S BI (nil ?_);refine cE hE (fun hc52 hE=>?_) (fun hc52 hE=>?_)
    ·try dsimp only at hc52
     have hf52:=oD hc52;refine sk hK49 ?_;clear hK49 K49;refine seqK fun K53 hK53=>?_;refine block ?_;refine seqR (S Mv (S Mv ?_));obtain⟨x55,gx55,hE⟩:=bO hE;refine s0 (idxSn (n:=s6_48) (TK rfl) rfl rfl rfl gx55) rfl ?_;obtain⟨x56,gx56,hE⟩:=bO hE;refine Sc rfl rfl (Z38_walk gx56) ?_;refine S NB (nil ?_);refine cE hE (fun hc57 hE=>?_) (fun hc57 hE=>?_)
     ·refine seqR (S As (S As (nil ?_)));exact rt hE
     refine sk hK53 ?_;clear hK53 K53;refine region ?_;refine S Mv ?_;refine SI ?_;refine S As (nil ?_);exact hK47 _ (n47,(s6_48+1)) wA hE (nS _)
    refine AWp.exit ?_;exact hK14 _ () wA hE
 rintro _ hE;try dsimp only at hE
 unfold Z35_j14 at hE;refine seqR (S As (nil ?_));refine seqJH (TA 5 kN) (fun(z:Int)=>[(7,.a (.d (.int .i64 z)))]) (fun z=>H) (fun z=>Z35_j16 a0 x5 z=some r) ?_ ?_
 ·intro K16 hK16;refine seqR (S As (nil ?_));refine block ?_;refine loopH (TA 4 (TA 5 kN)) (fun(z:Nat×Int×Nat)=>[(7,.a (.d (.int .i64 z.2.1))),(8,.a (.d (.int .i64 ((z.2.2:Nat):Int))))]) (fun z=>H) (fun z=>z.1) (fun z=>Z35_l28 a0 x5 s4_7 z.1 z.2.1 z.2.2=some r) ((s4_7.length+1),(0:Int),0) hE wA ?_;rintro ⟨n28,s7_29,s8_30⟩ hE K28 hK28;try dsimp only at hE
  cases n28 with
  | zero=>cases hE
  | succ n28 =>
    rw [Z35_l28] at hE;refine seqK fun K31 hK31=>?_;refine seqR (S Mv (S Mv ?_));refine sLenS (TK rfl) rfl rfl rfl rfl fun hL33=>?_;refine S BI (nil ?_);refine cE hE (fun hc34 hE=>?_) (fun hc34 hE=>?_)
    ·try dsimp only at hc34
     have hf34:=oD hc34;refine sk hK31 ?_;clear hK31 K31;refine seqK fun K35 hK35=>?_;refine block ?_;refine seqR (S Mv (S Mv ?_));obtain⟨x37,gx37,hE⟩:=bO hE;refine s0 (idxSn (n:=s8_30) (TK rfl) rfl rfl rfl gx37) rfl ?_;refine s0 (convI (TK rfl) (TK rfl) rfl rfl) rfl ?_;obtain⟨x38,gx38,hE⟩:=bO hE;refine s0 (subM rfl rfl gx38) rfl ?_;refine S As (nil ?_);refine seqK fun K39 hK39=>?_;refine seqR (S Mv (S Mv ?_))
     obtain⟨x41,gx41,hE⟩:=bO hE;refine s0 (addM rfl rfl gx41) rfl ?_;refine s0 (quoI rfl rfl (by decide)) rfl ?_;refine S BI (nil ?_);refine cE hE (fun hc42 hE=>?_) (fun hc42 hE=>?_)
     ·refine seqR (S As (S As (nil ?_)));exact rt hE
     refine sk hK39 ?_;clear hK39 K39;refine region ?_;refine S Mv ?_;obtain⟨x44,gx44,hE⟩:=bO hE;refine s0 (mulM rfl rfl gx44) rfl ?_;refine S Mv ?_;obtain⟨x45,gx45,hE⟩:=bO hE;refine s0 (subM rfl rfl gx45) rfl ?_;refine S As (nil ?_);refine hK35 _ ?_;clear hK35 K35;refine region ?_;refine S Mv ?_;refine SI ?_;refine S As (nil ?_);exact hK28 _ (n28,x45,(s8_30+1)) wA hE (nS _)
    refine AWp.exit ?_;exact hK16 _ s7_29 wA hE
 rintro s7_17 hE;try dsimp only at hE
 unfold Z35_j16 at hE;refine seqK fun K18 hK18=>?_;refine seqR (S Mv (nil ?_));refine cE hE (fun hc20 hE=>?_) (fun hc20 hE=>?_)
 ·refine seqR (S Mv (S As (S As (nil ?_))));exact rt hE
 refine sk hK18 ?_;clear hK18 K18;refine seqK fun K22 hK22=>?_;refine seqR (S Mv (S BI (nil ?_)));refine cE hE (fun hc24 hE=>?_) (fun hc24 hE=>?_)
 ·refine seqR (S As (S As (nil ?_)));exact rt hE
 refine sk hK22 ?_;clear hK22 K22;refine seqR (S Mv ?_);refine s0 (negI rfl) rfl ?_;refine S As (S As (nil ?_));exact rt hE
def Z43_j4  :Option Int:=some (-1:Int)
def Z43_j18 (k_next_6:Int->Option Int) (s1_19:Int):Option Int:=(addC s1_19 (1:Int)).bind fun x20=>k_next_6 x20
def Z43_l6 (a0:Bs) :Nat->Int->Option Int
 | 0,_=>none
 | n6+1,s1_7=>bif (decide (s1_7<((a0.length:Nat):Int))) then((idxC a0 s1_7).bind fun x14=>bif (decide (((x14.toNat:Nat):Int)=(34:Int))) then((addC s1_7 (1:Int)).bind fun x17=>some x17) else((idxC a0 s1_7).bind fun x22=>bif (decide (((x22.toNat:Nat):Int)=(92:Int))) then((addC s1_7 (1:Int)).bind fun x24=>Z43_j18  ((Z43_l6 a0 n6)) x24) else(Z43_j18  ((Z43_l6 a0 n6)) s1_7))) else(Z43_j4   )
def Z43 (a0:Bs) (a1:Int):Option Int:=(addC a1 (1:Int)).bind fun x3=>Z43_l6 a0 F0 x3
theorem Z43_walk {a0:Bs}{a1 r:Int}(hE:Z43 a0 a1=some r) (H:Heap) :AC Tryz.prog 96 [.d (.str a0),.d (.int .i64 a1)] H fun v h'=>v=.a (.d (.int .i64 r))/\h'=H:=by
 unfold Z43 at hE;refine AC.oW 25 [.tmp 4] Tryz.call96 Tryz.func96 ?_;refine seqR (S As (nil ?_));refine seqR (S Mv ?_);obtain⟨x3,gx3,hE⟩:=bO hE;refine s0 (addM rfl rfl gx3) rfl ?_;refine S As (nil ?_);refine seqJH kN (fun(z:Unit)=>[]) (fun z=>H) (fun z=>Z43_j4 =some r) ?_ ?_
 ·intro K4 hK4;refine block ?_;refine loopH (TA 0 kN) (fun(z:Nat×Int)=>[(1,.a (.d (.int .i64 z.2)))]) (fun z=>H) (fun z=>z.1) (fun z=>Z43_l6 a0 z.1 z.2=some r) (F0,x3) hE wA ?_;rintro ⟨n6,s1_7⟩ hE K6 hK6;try dsimp only at hE
  cases n6 with
  | zero=>cases hE
  | succ n6 =>
    rw [Z43_l6] at hE;refine seqK fun K8 hK8=>?_;refine seqR (S Mv (S Mv ?_));refine sLenS (TK rfl) rfl rfl rfl rfl fun hL10=>?_;refine S BI (nil ?_);refine cE hE (fun hc11 hE=>?_) (fun hc11 hE=>?_)
    ·refine sk hK8 ?_;clear hK8 K8;refine block ?_;refine seqK fun K12 hK12=>?_;refine seqR (S Mv (S Mv ?_));obtain⟨x14,gx14,hE⟩:=bO hE;refine s0 (idxS (TK rfl) rfl rfl rfl gx14) rfl ?_;refine S BI (nil ?_);refine cE hE (fun hc15 hE=>?_) (fun hc15 hE=>?_)
     ·refine seqR (S Mv ?_);obtain⟨x17,gx17,hE⟩:=bO hE;refine s0 (addM rfl rfl gx17) rfl ?_;refine S As (nil ?_);exact rt hE
     refine sk hK12 ?_;clear hK12 K12;refine seqJH (TA 0 kN) (fun(z:Int)=>[(1,.a (.d (.int .i64 z)))]) (fun z=>H) (fun z=>Z43_j18  ((Z43_l6 a0 n6)) z=some r) ?_ ?_
     ·intro K18 hK18;refine seqR (S Mv (S Mv ?_));obtain⟨x22,gx22,hE⟩:=bO hE;refine s0 (idxS (TK rfl) rfl rfl rfl gx22) rfl ?_;refine S BI (nil ?_);refine cE hE (fun hc23 hE=>?_) (fun hc23 hE=>?_)
      ·refine region ?_;refine S Mv ?_;obtain⟨x24,gx24,hE⟩:=bO hE;refine s0 (addM rfl rfl gx24) rfl ?_;refine S As (nil ?_);exact hK18 _ x24 wA hE
      refine AWp.skip ?_;exact hK18 _ s1_7 wA hE
     rintro s1_19 hE;try dsimp only at hE
     unfold Z43_j18 at hE;refine region ?_;refine S Mv ?_;obtain⟨x20,gx20,hE⟩:=bO hE;refine s0 (addM rfl rfl gx20) rfl ?_;refine S As (nil ?_);exact hK6 _ (n6,x20) wA hE (nS _)
    refine AWp.exit ?_;exact hK4 _ () wA hE
 rintro _ hE;try dsimp only at hE
 unfold Z43_j4 at hE;refine seqR (S As (nil ?_));exact rt hE
def Z40_j2  :Option (Int×Bool):=some ((0:Int),false)
def Z40_j5 (a0:Int)  (s5_6:Bool):Option (Int×Bool):=bif s5_6 then(some (a0,true)) else(bif (decide (a0=(98:Int))) then(some ((8:Int),true)) else(bif (decide (a0=(102:Int))) then(some ((12:Int),true)) else(bif (decide (a0=(110:Int))) then(some ((10:Int),true)) else(bif (decide (a0=(114:Int))) then(some ((13:Int),true)) else(bif (decide (a0=(116:Int))) then(some ((9:Int),true)) else(Z40_j2   ))))))
def Z40 (a0:Int):Option (Int×Bool):=bif (decide (a0=(34:Int))) then(Z40_j5 a0  (decide (a0=(34:Int)))) else(bif (decide (a0=(92:Int))) then(Z40_j5 a0  (decide (a0=(92:Int)))) else(Z40_j5 a0  (decide (a0=(47:Int)))))
theorem Z40_walk {a0:Int}{r:Int×Bool}(hE:Z40 a0=some r) (H:Heap) :AC Tryz.prog 122 [.d (.int .u8 a0)] H fun v h'=>v=.tup [.d (.int .u8 r.1),.d (.bool r.2)]/\h'=H:=by
 unfold Z40 at hE;refine AC.oW 20 [.tmp 2,.tmp 3] Tryz.call122 Tryz.func122 ?_;refine seqR (S As (S As (nil ?_)));refine seqJH kN (fun(z:Unit)=>[]) (fun z=>H) (fun z=>Z40_j2 =some r) ?_ ?_
 ·intro K2 hK2;refine seqR (S Mv (nil ?_));refine block ?_;refine seqJH (TA 0 (TA 4 kN)) (fun(z:Bool)=>[(5,.a (.d (.bool z)))]) (fun z=>H) (fun z=>Z40_j5 a0 z=some r) ?_ ?_
  ·intro K5 hK5;refine seqR (S BI (S As (nil ?_)));refine cE hE (fun hc25 hE=>?_) (fun hc25 hE=>?_)
   ·refine AWp.skip ?_;exact hK5 _ (decide (a0=(34:Int))) wA hE
   refine seqR (S BI (S As (nil ?_)));refine cE hE (fun hc27 hE=>?_) (fun hc27 hE=>?_)
   ·refine AWp.skip ?_;exact hK5 _ (decide (a0=(92:Int))) wA hE
   refine region ?_;refine S BI (S As (nil ?_));exact hK5 _ (decide (a0=(47:Int))) wA hE
  rintro s5_6 hE;try dsimp only at hE
  unfold Z40_j5 at hE;refine cE hE (fun hc7 hE=>?_) (fun hc7 hE=>?_)
  ·refine seqR (S Mv (S As (S As (nil ?_))));exact rt hE
  refine seqR (S BI (S As (nil ?_)));refine cE hE (fun hc10 hE=>?_) (fun hc10 hE=>?_)
  ·refine seqR (S As (S As (nil ?_)));exact rt hE
  refine seqR (S BI (S As (nil ?_)));refine cE hE (fun hc13 hE=>?_) (fun hc13 hE=>?_)
  ·refine seqR (S As (S As (nil ?_)));exact rt hE
  refine seqR (S BI (S As (nil ?_)));refine cE hE (fun hc16 hE=>?_) (fun hc16 hE=>?_)
  ·refine seqR (S As (S As (nil ?_)));exact rt hE
  refine seqR (S BI (S As (nil ?_)));refine cE hE (fun hc19 hE=>?_) (fun hc19 hE=>?_)
  ·refine seqR (S As (S As (nil ?_)));exact rt hE
  refine seqR (S BI (S As (nil ?_)));refine cE hE (fun hc22 hE=>?_) (fun hc22 hE=>?_)
  ·refine seqR (S As (S As (nil ?_)));exact rt hE
  refine AWp.skip ?_;exact hK2 _ () wA hE
 rintro _ hE;try dsimp only at hE
 unfold Z40_j2 at hE;refine seqR (S As (S As (nil ?_)));exact rt hE
def Z41 (a0:Int):Option Int:=(Z38 a0).bind fun x4=>bif x4 then((subC (IntKind.wrap .i64 a0) (48:Int)).bind fun x7=>some x7) else(bif ((decide ((97:Int)<=a0))&&(decide (a0<=(102:Int)))) then((subC (IntKind.wrap .i64 a0) (87:Int)).bind fun x12=>some x12) else(bif ((decide ((65:Int)<=a0))&&(decide (a0<=(70:Int)))) then((subC (IntKind.wrap .i64 a0) (55:Int)).bind fun x17=>some x17) else(some (-1:Int))))
theorem Z41_walk {a0 r:Int}(hE:Z41 a0=some r) (H:Heap) :AC Tryz.prog 139 [.d (.int .u8 a0)] H fun v h'=>v=.a (.d (.int .i64 r))/\h'=H:=by
 unfold Z41 at hE;refine AC.oW 26 [.tmp 2] Tryz.call139 Tryz.func139 ?_;refine seqR (S As (nil ?_));refine seqK fun K2 hK2=>?_;refine seqR (S Mv ?_);obtain⟨x4,gx4,hE⟩:=bO hE;refine Sc rfl rfl (Z38_walk gx4) ?_;refine nil ?_;refine cE hE (fun hc5 hE=>?_) (fun hc5 hE=>?_)
 ·refine seqR (S Mv ?_);refine s0 (convI (TK rfl) (TK rfl) rfl rfl) rfl ?_;obtain⟨x7,gx7,hE⟩:=bO hE;refine s0 (subM rfl rfl gx7) rfl ?_;refine S As (nil ?_);exact rt hE
 refine sk hK2 ?_;clear hK2 K2;refine seqK fun K8 hK8=>?_;refine seqR (S Mv (S BI (S Mv (G0 Mv ?_))));refine G1 11 rfl BI ?_;refine S PA (nil ?_);refine cE hE (fun hc10 hE=>?_) (fun hc10 hE=>?_)
 ·refine seqR (S Mv ?_);refine s0 (convI (TK rfl) (TK rfl) rfl rfl) rfl ?_;obtain⟨x12,gx12,hE⟩:=bO hE;refine s0 (subM rfl rfl gx12) rfl ?_;refine S As (nil ?_);exact rt hE
 refine sk hK8 ?_;clear hK8 K8;refine seqK fun K13 hK13=>?_;refine seqR (S Mv (S BI (S Mv (G0 Mv ?_))));refine G1 20 rfl BI ?_;refine S PA (nil ?_);refine cE hE (fun hc15 hE=>?_) (fun hc15 hE=>?_)
 ·refine seqR (S Mv ?_);refine s0 (convI (TK rfl) (TK rfl) rfl rfl) rfl ?_;obtain⟨x17,gx17,hE⟩:=bO hE;refine s0 (subM rfl rfl gx17) rfl ?_;refine S As (nil ?_);exact rt hE
 refine sk hK13 ?_;clear hK13 K13;refine seqR (S As (nil ?_));exact rt hE
end Go.Proofs

namespace Go.Proofs
open Go Go.Ab
open AOps Cert AWp Keeps KeepsT
variable {lou:Lou}
def Z37_j8  (s3_9:Int):Option Int:=some s3_9
def Z37_l12 (a0:Bs) :Nat->Int->Int->Option Int
 | 0,_,_=>none
 | n12+1,s3_13,s4_14=>bif (decide (s4_14<(4:Int))) then((idxC a0 s4_14).bind fun x21=>(Z41 ((x21.toNat:Nat):Int)).bind fun x22=>bif (decide (x22<(0:Int))) then(some (-1:Int)) else((mulC (16:Int) s3_13).bind fun x25=>(idxC a0 s4_14).bind fun x26=>(Z41 ((x26.toNat:Nat):Int)).bind fun x27=>(addC x25 x27).bind fun x28=>(addC s4_14 (1:Int)).bind fun x29=>(Z37_l12 a0 n12) x28 x29)) else(Z37_j8   s3_13)
def Z37 (a0:Bs):Option Int:=bif (!decide (((a0.length:Nat):Int)=(4:Int))) then(some (-1:Int)) else(Z37_l12 a0 F0 (0:Int) (0:Int))
theorem Z37_walk {a0:Bs}{r:Int}(hE:Z37 a0=some r) (H:Heap) :AC Tryz.prog 123 [.d (.str a0)] H fun v h'=>v=.a (.d (.int .i64 r))/\h'=H:=by
 unfold Z37 at hE;refine AC.oW 25 [.tmp 2] Tryz.call123 Tryz.func123 ?_;refine seqR (S As (nil ?_));refine seqK fun K2 hK2=>?_;refine seqR (S Mv ?_);refine sLenS (TK rfl) rfl rfl rfl rfl fun hL4=>?_;refine S BI (nil ?_);refine cE hE (fun hc5 hE=>?_) (fun hc5 hE=>?_)
 ·refine seqR (S As (nil ?_));exact rt hE
 refine sk hK2 ?_;clear hK2 K2;refine seqR (S As (nil ?_));refine seqJH kN (fun(z:Int)=>[(3,.a (.d (.int .i64 z)))]) (fun z=>H) (fun z=>Z37_j8 z=some r) ?_ ?_
 ·intro K8 hK8;refine seqR (S As (nil ?_));refine block ?_;refine loopH (TA 0 kN) (fun(z:Nat×Int×Int)=>[(3,.a (.d (.int .i64 z.2.1))),(4,.a (.d (.int .i64 z.2.2)))]) (fun z=>H) (fun z=>z.1) (fun z=>Z37_l12 a0 z.1 z.2.1 z.2.2=some r) (F0,(0:Int),(0:Int)) hE wA ?_;rintro ⟨n12,s3_13,s4_14⟩ hE K12 hK12;try dsimp only at hE
  cases n12 with
  | zero=>cases hE
  | succ n12 =>
    rw [Z37_l12] at hE;refine seqK fun K15 hK15=>?_;refine seqR (S Mv (S BI (nil ?_)));refine cE hE (fun hc17 hE=>?_) (fun hc17 hE=>?_)
    ·refine sk hK15 ?_;clear hK15 K15;refine seqK fun K18 hK18=>?_;refine block ?_;refine seqK fun K19 hK19=>?_;refine seqR (S Mv (S Mv ?_));obtain⟨x21,gx21,hE⟩:=bO hE;refine s0 (idxS (TK rfl) rfl rfl rfl gx21) rfl ?_;obtain⟨x22,gx22,hE⟩:=bO hE;refine Sc rfl rfl (Z41_walk gx22) ?_;refine S BI (nil ?_);refine cE hE (fun hc23 hE=>?_) (fun hc23 hE=>?_)
     ·refine seqR (S As (nil ?_));exact rt hE
     refine sk hK19 ?_;clear hK19 K19;refine region ?_;refine S Mv ?_;obtain⟨x25,gx25,hE⟩:=bO hE;refine s0 (mulM rfl rfl gx25) rfl ?_;refine S Mv (S Mv ?_);obtain⟨x26,gx26,hE⟩:=bO hE;refine s0 (idxS (TK rfl) rfl rfl rfl gx26) rfl ?_;obtain⟨x27,gx27,hE⟩:=bO hE;refine Sc rfl rfl (Z41_walk gx27) ?_;obtain⟨x28,gx28,hE⟩:=bO hE;refine s0 (addM rfl rfl gx28) rfl ?_;refine S As (nil ?_);refine hK18 _ ?_;clear hK18 K18
     refine region ?_;refine S Mv ?_;obtain⟨x29,gx29,hE⟩:=bO hE;refine s0 (addM rfl rfl gx29) rfl ?_;refine S As (nil ?_);exact hK12 _ (n12,x28,x29) wA hE (nS _)
    refine AWp.exit ?_;exact hK8 _ s3_13 wA hE
 rintro s3_9 hE;try dsimp only at hE
 unfold Z37_j8 at hE;refine seqR (S Mv (S As (nil ?_)));exact rt hE
def Z36_j16  (s5_17:Bs):Option (Bs×Int):=some (s5_17,(0:Int))
def Z36_l19 (x13:Bs) :Nat->Bs->Int->Option (Bs×Int)
 | 0,_,_=>none
 | n19+1,s5_20,s6_21=>bif (decide (s6_21<((x13.length:Nat):Int))) then((idxC x13 s6_21).bind fun x27=>bif (((decide (((x27.toNat:Nat):Int)<(32:Int)))||(decide ((126:Int)<((x27.toNat:Nat):Int))))||(decide (((x27.toNat:Nat):Int)=(34:Int)))) then(some (([]:Bs),(3:Int))) else(bif (!decide (((x27.toNat:Nat):Int)=(92:Int))) then((catC s5_20 (bytesC (⟨false,[((x27.toNat:Nat):Int)]⟩:Sl Int))).bind fun x36=>(addC s6_21 (1:Int)).bind fun x38=>(Z36_l19 x13 n19) x36 x38) else((addC s6_21 (1:Int)).bind fun x41=>bif (decide (((x13.length:Nat):Int)<=x41)) then(some (([]:Bs),(3:Int))) else((addC s6_21 (1:Int)).bind fun x46=>(idxC x13 x46).bind fun x47=>(Z40 ((x47.toNat:Nat):Int)).bind fun x48=>bif x48.2 then((catC s5_20 (bytesC (⟨false,[x48.1]⟩:Sl Int))).bind fun x53=>(addC s6_21 (2:Int)).bind fun x55=>(Z36_l19 x13 n19) x53 x55) else((addC s6_21 (1:Int)).bind fun x58=>(idxC x13 x58).bind fun x59=>guardO (!(!decide (((x59.toNat:Nat):Int)=(117:Int)))) (addC s6_21 (6:Int)) (0:Int) fun x60=>bif ((!decide (((x59.toNat:Nat):Int)=(117:Int)))||(decide (((x13.length:Nat):Int)<x60))) then(some (([]:Bs),(3:Int))) else((addC s6_21 (2:Int)).bind fun x64=>(addC s6_21 (6:Int)).bind fun x65=>(cutC x13 (some x64) (some x65)).bind fun x66=>(Z37 x66).bind fun x67=>bif ((decide (x67<(0:Int)))||(decide ((255:Int)<x67))) then(some (([]:Bs),(3:Int))) else((catC s5_20 (bytesC (⟨false,[(IntKind.wrap .u8 x67)]⟩:Sl Int))).bind fun x73=>(addC s6_21 (6:Int)).bind fun x74=>(Z36_l19 x13 n19) x73 x74))))))) else(Z36_j16   s5_20)
def Z36 (a0:Bs):Option (Bs×Int):=guardO (!(decide (((a0.length:Nat):Int)<(2:Int)))) (a0[0]?) (0:UInt8) fun x5=>guardO (!((decide (((a0.length:Nat):Int)<(2:Int)))||(!decide (((x5.toNat:Nat):Int)=(34:Int))))) (subC ((a0.length:Nat):Int) (1:Int)) (0:Int) fun x6=>guardO (!((decide (((a0.length:Nat):Int)<(2:Int)))||(!decide (((x5.toNat:Nat):Int)=(34:Int))))) (idxC a0 x6) (0:UInt8) fun x7=>bif (((decide (((a0.length:Nat):Int)<(2:Int)))||(!decide (((x5.toNat:Nat):Int)=(34:Int))))||(!decide (((x7.toNat:Nat):Int)=(34:Int)))) then(some (([]:Bs),(3:Int))) else((subC ((a0.length:Nat):Int) (1:Int)).bind fun x12=>(cutC a0 (some (1:Int)) (some x12)).bind fun x13=>Z36_l19 x13 F0 ([]:Bs) (0:Int))
theorem Z36_walk {a0:Bs}{r:Bs×Int}(hE:Z36 a0=some r) (H:Heap) :AC Tryz.prog 97 [.d (.str a0)] H fun v h'=>v=.tup [.d (.str r.1),.d (.int .i64 r.2)]/\h'=H:=by
 unfold Z36 at hE;refine AC.oW 113 [.tmp 2,.tmp 3] Tryz.call97 Tryz.func97 ?_;refine seqR (S As (S As (nil ?_)));refine seqK fun K2 hK2=>?_;refine seqR (S Mv ?_);refine sLenS (TK rfl) rfl rfl rfl rfl fun hL4=>?_;refine S BI (S Mv (G0 Mv ?_));obtain⟨x5,gx5,hE⟩:=gO hE;refine gC rfl rfl (fun hC=>ungdA (k:=15) rfl (idxSn (n:=0) (TK rfl) rfl rfl rfl (gx5 hC))) rfl ?_;refine G1 16 rfl BI ?_;refine S PO (S Mv (G0 Mv (G0 Mv ?_)))
 refine gC rfl rfl (fun hC=>ungdA (k:=21) rfl (lenS (TK rfl) rfl rfl rfl)) rfl ?_;obtain⟨x6,gx6,hE⟩:=gO hE;refine gC rfl rfl (fun hC=>ungdA (k:=22) rfl (subM rfl rfl (gx6 hC))) rfl ?_;obtain⟨x7,gx7,hE⟩:=gO hE;refine gC rfl rfl (fun hC=>ungdA (k:=20) rfl (ungdA (k:=23) rfl (idxS (TK rfl) rfl rfl rfl (gx7 hC)))) rfl ?_;refine G1 24 rfl BI ?_;refine S PO (nil ?_);refine cE hE (fun hc8 hE=>?_) (fun hc8 hE=>?_)
 ·refine seqR (S As (S As (nil ?_)));exact rt hE
 refine sk hK2 ?_;clear hK2 K2;refine seqR (S Mv (S Mv ?_));refine sLenS (TK rfl) rfl rfl rfl rfl fun hL11=>?_;obtain⟨x12,gx12,hE⟩:=bO hE;refine s0 (subM rfl rfl gx12) rfl ?_;obtain⟨x13,gx13,hE⟩:=bO hE;refine s0 (cutM (l:=(some (1:Int))) (r:=(some x12)) (TK rfl) rfl rfl rfl rfl (by simp) gx13) rfl ?_;refine S As (nil ?_);refine seqR (S As (nil ?_));refine seqR (S As (nil ?_));refine seqJH kN (fun(z:Bs)=>[(5,.a (.d (.str z)))]) (fun z=>H) (fun z=>Z36_j16 z=some r) ?_ ?_
 ·intro K16 hK16;refine block ?_;refine loopH (TA 4 kN) (fun(z:Nat×Bs×Int)=>[(5,.a (.d (.str z.2.1))),(6,.a (.d (.int .i64 z.2.2)))]) (fun z=>H) (fun z=>z.1) (fun z=>Z36_l19 x13 z.1 z.2.1 z.2.2=some r) (F0,([]:Bs),(0:Int)) hE wA ?_;rintro ⟨n19,s5_20,s6_21⟩ hE K19 hK19;try dsimp only at hE
  cases n19 with
  | zero=>cases hE
  | succ n19 =>
    rw [Z36_l19] at hE;refine seqK fun K22 hK22=>?_;refine seqR (S Mv (S Mv ?_));refine sLenS (TK rfl) rfl rfl rfl rfl fun hL24=>?_;refine S BI (nil ?_);refine cE hE (fun hc25 hE=>?_) (fun hc25 hE=>?_)
    ·refine sk hK22 ?_;clear hK22 K22;refine block ?_;refine seqR (S Mv (S Mv ?_));obtain⟨x27,gx27,hE⟩:=bO hE;refine s0 (idxS (TK rfl) rfl rfl rfl gx27) rfl ?_;refine S As (nil ?_);refine seqK fun K28 hK28=>?_;refine seqR (S Mv (S BI (S Mv (G0 Mv ?_))));refine G1 42 rfl BI ?_;refine S PO (S Mv (G0 Mv ?_));refine G1 46 rfl BI ?_;refine S PO (nil ?_);refine cE hE (fun hc30 hE=>?_) (fun hc30 hE=>?_)
     ·refine seqR (S As (S As (nil ?_)));exact rt hE
     refine sk hK28 ?_;clear hK28 K28;refine seqK fun K32 hK32=>?_;refine seqR (S Mv (S BI (nil ?_)));refine cE hE (fun hc34 hE=>?_) (fun hc34 hE=>?_)
     ·refine seqR (S Mv (S Mv (S BV ?_)));refine s0 (convB (y:=(⟨false,[((x27.toNat:Nat):Int)]⟩:Sl Int)) (TK rfl) rfl (TK rfl) rfl (TK rfl) rfl rfl) rfl ?_;obtain⟨x36,gx36,hE⟩:=bO hE;refine s0 (catM rfl rfl gx36) rfl ?_;refine S As (nil ?_);refine seqR (S Mv ?_);obtain⟨x38,gx38,hE⟩:=bO hE;refine s0 (addM rfl rfl gx38) rfl ?_;refine S As (nil ?_);refine AWp.exit ?_;exact hK19 _ (n19,x36,x38) wA hE (nS _)
     refine sk hK32 ?_;clear hK32 K32;refine seqK fun K39 hK39=>?_;refine seqR (S Mv ?_);obtain⟨x41,gx41,hE⟩:=bO hE;refine s0 (addM rfl rfl gx41) rfl ?_;refine S Mv ?_;refine sLenS (TK rfl) rfl rfl rfl rfl fun hL42=>?_;refine S BI (nil ?_);refine cE hE (fun hc43 hE=>?_) (fun hc43 hE=>?_)
     ·refine seqR (S As (S As (nil ?_)));exact rt hE
     refine sk hK39 ?_;clear hK39 K39;refine seqR (S Mv (S Mv ?_));obtain⟨x46,gx46,hE⟩:=bO hE;refine s0 (addM rfl rfl gx46) rfl ?_;obtain⟨x47,gx47,hE⟩:=bO hE;refine s0 (idxS (TK rfl) rfl rfl rfl gx47) rfl ?_;obtain⟨x48,gx48,hE⟩:=bO hE;refine Sc rfl rfl (Z40_walk gx48) ?_;refine S Mv (S EX (S EX (S As (S As (nil ?_)))));refine seqK fun K49 hK49=>?_;refine seqR (S Mv (nil ?_));refine cE hE (fun hc51 hE=>?_) (fun hc51 hE=>?_)
     ·refine seqR (S Mv (S Mv (S BV ?_)));refine s0 (convB (y:=(⟨false,[x48.1]⟩:Sl Int)) (TK rfl) rfl (TK rfl) rfl (TK rfl) rfl rfl) rfl ?_;obtain⟨x53,gx53,hE⟩:=bO hE;refine s0 (catM rfl rfl gx53) rfl ?_;refine S As (nil ?_);refine seqR (S Mv ?_);obtain⟨x55,gx55,hE⟩:=bO hE;refine s0 (addM rfl rfl gx55) rfl ?_;refine S As (nil ?_);refine AWp.exit ?_;exact hK19 _ (n19,x53,x55) wA hE (nS _)
     refine sk hK49 ?_;clear hK49 K49;refine seqK fun K56 hK56=>?_;refine seqR (S Mv (S Mv ?_));obtain⟨x58,gx58,hE⟩:=bO hE;refine s0 (addM rfl rfl gx58) rfl ?_;obtain⟨x59,gx59,hE⟩:=bO hE;refine s0 (idxS (TK rfl) rfl rfl rfl gx59) rfl ?_;refine S BI (S Mv (G0 Mv ?_));obtain⟨x60,gx60,hE⟩:=gO hE;refine gC rfl rfl (fun hC=>ungdA (k:=85) rfl (addM rfl rfl (gx60 hC))) rfl ?_;refine G0 Mv ?_;refine gC rfl rfl (fun hC=>ungdA (k:=87) rfl (lenS (TK rfl) rfl rfl rfl)) rfl ?_
     refine G2 86 88 rfl rfl BI ?_;refine S PO (nil ?_);refine cE hE (fun hc61 hE=>?_) (fun hc61 hE=>?_)
     ·refine seqR (S As (S As (nil ?_)));exact rt hE
     refine sk hK56 ?_;clear hK56 K56;refine seqR (S Mv (S Mv ?_));obtain⟨x64,gx64,hE⟩:=bO hE;refine s0 (addM rfl rfl gx64) rfl ?_;refine S Mv ?_;obtain⟨x65,gx65,hE⟩:=bO hE;refine s0 (addM rfl rfl gx65) rfl ?_;obtain⟨x66,gx66,hE⟩:=bO hE;refine s0 (cutM (l:=(some x64)) (r:=(some x65)) (TK rfl) rfl rfl rfl rfl (by simp) gx66) rfl ?_;obtain⟨x67,gx67,hE⟩:=bO hE;refine Sc rfl rfl (Z37_walk gx67) ?_;refine S As (nil ?_)
     refine seqK fun K68 hK68=>?_;refine seqR (S Mv (S BI (S Mv (G0 Mv ?_))));refine G1 101 rfl BI ?_;refine S PO (nil ?_);refine cE hE (fun hc70 hE=>?_) (fun hc70 hE=>?_)
     ·refine seqR (S As (S As (nil ?_)));exact rt hE
     refine sk hK68 ?_;clear hK68 K68;refine seqR (S Mv (S Mv ?_));refine s0 (convI (TK rfl) (TK rfl) rfl rfl) rfl ?_;refine S BV ?_;refine s0 (convB (y:=(⟨false,[(IntKind.wrap .u8 x67)]⟩:Sl Int)) (TK rfl) rfl (TK rfl) rfl (TK rfl) rfl rfl) rfl ?_;obtain⟨x73,gx73,hE⟩:=bO hE;refine s0 (catM rfl rfl gx73) rfl ?_;refine S As (nil ?_);refine region ?_;refine S Mv ?_;obtain⟨x74,gx74,hE⟩:=bO hE;refine s0 (addM rfl rfl gx74) rfl ?_
     refine S As (nil ?_);exact hK19 _ (n19,x73,x74) wA hE (nS _)
    refine AWp.exit ?_;exact hK16 _ s5_20 wA hE
 rintro s5_17 hE;try dsimp only at hE
 unfold Z36_j16 at hE;refine seqR (S Mv (S As (S As (nil ?_))));exact rt hE
def Z46 (a0:Bs) (a1:Int):Option (Z2×Int×Int):=(idxC a0 a1).bind fun x3=>(Z47 ((x3.toNat:Nat):Int)).bind fun x6=>bif x6 then((addC a1 (1:Int)).bind fun x9=>(cutC a0 (some a1) (some x9)).bind fun x10=>(addC a1 (1:Int)).bind fun x11=>some ((Z2.mk (1:Int) x10 a1),x11,(0:Int))) else(guardO ((decide (((x3.toNat:Nat):Int)=(46:Int)))) (addC a1 (3:Int)) (0:Int) fun x14=>guardO (((decide (((x3.toNat:Nat):Int)=(46:Int)))&&(decide (x14<=((a0.length:Nat):Int))))) (addC a1 (3:Int)) (0:Int) fun x15=>guardO (((decide (((x3.toNat:Nat):Int)=(46:Int)))&&(decide (x14<=((a0.length:Nat):Int))))) (cutC a0 (some a1) (some x15)) ([]:Bs) fun x16=>bif (((decide (((x3.toNat:Nat):Int)=(46:Int)))&&(decide (x14<=((a0.length:Nat):Int))))&&((x16==([46,46,46]:Bs)))) then((addC a1 (3:Int)).bind fun x19=>some ((Z2.mk (1:Int) ([46,46,46]:Bs) a1),x19,(0:Int))) else((Z45 ((x3.toNat:Nat):Int)).bind fun x22=>bif x22 then((Z50 a0 a1).bind fun x25=>(subC x25 a1).bind fun x28=>bif (decide ((64:Int)<x28)) then(some ((Z2.mk (0:Int) ([]:Bs) (0:Int)),(0:Int),(3:Int))) else((cutC a0 (some a1) (some x25)).bind fun x32=>some ((Z2.mk (2:Int) x32 a1),x25,(0:Int)))) else((Z44 ((x3.toNat:Nat):Int)).bind fun x35=>bif (x35||(decide (((x3.toNat:Nat):Int)=(45:Int)))) then((addC a1 (1:Int)).bind fun x38=>(Z50 a0 x38).bind fun x39=>(cutC a0 (some a1) (some x39)).bind fun x41=>(Z35 x41).bind fun x42=>(cutC a0 (some a1) (some x39)).bind fun x44=>some ((Z2.mk (3:Int) x44 a1),x39,x42.2)) else(bif (decide (((x3.toNat:Nat):Int)=(34:Int))) then((Z43 a0 a1).bind fun x49=>bif (decide (x49<(0:Int))) then(some ((Z2.mk (0:Int) ([]:Bs) (0:Int)),(0:Int),(3:Int))) else((cutC a0 (some a1) (some x49)).bind fun x55=>(Z36 x55).bind fun x56=>some ((Z2.mk (4:Int) x56.1 a1),x49,x56.2))) else(some ((Z2.mk (0:Int) ([]:Bs) (0:Int)),(0:Int),(3:Int)))))))
theorem Z46_walk {a0:Bs}{a1:Int}{r:Z2×Int×Int}(hE:Z46 a0 a1=some r) (H:Heap) :AC Tryz.prog 54 [.d (.str a0),.d (.int .i64 a1)] H fun v h'=>v=.tup [.agg (Z2.c r.1),.d (.int .i64 r.2.1),.d (.int .i64 r.2.2)]/\h'=H:=by
 unfold Z46 at hE;refine AC.oW 115 [.cell 4 92,.tmp 5,.tmp 6] Tryz.call54 Tryz.func54 ?_;refine seqR ?_;refine Sl ?_;refine S As (S As (nil ?_));refine seqR (S Mv (S Mv ?_));obtain⟨x3,gx3,hE⟩:=bO hE;refine s0 (idxS (TK rfl) rfl rfl rfl gx3) rfl ?_;refine S As (nil ?_);refine seqK fun K4 hK4=>?_;refine seqR (S Mv ?_);obtain⟨x6,gx6,hE⟩:=bO hE;refine Sc rfl rfl (Z47_walk gx6) ?_;refine nil ?_;refine cE hE (fun hc7 hE=>?_) (fun hc7 hE=>?_)
 ·refine seqR (S Mv (S Mv (S Mv ?_)));obtain⟨x9,gx9,hE⟩:=bO hE;refine s0 (addM rfl rfl gx9) rfl ?_;obtain⟨x10,gx10,hE⟩:=bO hE;refine s0 (cutM (l:=(some a1)) (r:=(some x9)) (TK rfl) rfl rfl rfl rfl (by simp) gx10) rfl ?_;refine S Mv (S BU (S Mv ?_));obtain⟨x11,gx11,hE⟩:=bO hE;refine s0 (addM rfl rfl gx11) rfl ?_;refine Sf ?_;refine S As (S As (nil ?_));exact rt hE
 refine sk hK4 ?_;clear hK4 K4;refine seqK fun K12 hK12=>?_;refine seqR (S Mv (S BI (S Mv (G0 Mv ?_))));obtain⟨x14,gx14,hE⟩:=gO hE;refine gC rfl rfl (fun hC=>ungdA (k:=32) rfl (addM rfl rfl (gx14 hC))) rfl ?_;refine G0 Mv ?_;refine gC rfl rfl (fun hC=>ungdA (k:=34) rfl (lenS (TK rfl) rfl rfl rfl)) rfl ?_;refine G2 33 35 rfl rfl BI ?_;refine S PA (S Mv (G0 Mv (G0 Mv (G0 Mv ?_))));obtain⟨x15,gx15,hE⟩:=gO hE
 refine gC rfl rfl (fun hC=>ungdA (k:=41) rfl (addM rfl rfl (gx15 hC))) rfl ?_;obtain⟨x16,gx16,hE⟩:=gO hE;refine gC rfl rfl (fun hC=>ungdA (k:=39) rfl (ungdA (k:=40) rfl (ungdA (k:=42) rfl (cutM (l:=(some a1)) (r:=(some x15)) (TK rfl) rfl rfl rfl rfl (by simp) (gx16 hC))))) rfl ?_;refine G1 43 rfl BS ?_;refine S PA (nil ?_);refine cE hE (fun hc17 hE=>?_) (fun hc17 hE=>?_)
 ·refine seqR (S Mv (S BU (S Mv ?_)));obtain⟨x19,gx19,hE⟩:=bO hE;refine s0 (addM rfl rfl gx19) rfl ?_;refine Sf ?_;refine S As (S As (nil ?_));exact rt hE
 refine sk hK12 ?_;clear hK12 K12;refine seqK fun K20 hK20=>?_;refine seqR (S Mv ?_);obtain⟨x22,gx22,hE⟩:=bO hE;refine Sc rfl rfl (Z45_walk gx22) ?_;refine nil ?_;refine cE hE (fun hc23 hE=>?_) (fun hc23 hE=>?_)
 ·refine seqR (S Mv (S Mv ?_));obtain⟨x25,gx25,hE⟩:=bO hE;refine Sc rfl rfl (Z50_walk gx25) ?_;refine S As (nil ?_);refine seqK fun K26 hK26=>?_;refine seqR (S Mv (S Mv ?_));obtain⟨x28,gx28,hE⟩:=bO hE;refine s0 (subM rfl rfl gx28) rfl ?_;refine S BI (nil ?_);refine cE hE (fun hc29 hE=>?_) (fun hc29 hE=>?_)
  ·refine seqR (S BU ?_);refine Sf ?_;refine S As (S As (nil ?_));exact rt hE
  refine sk hK26 ?_;clear hK26 K26;refine seqR (S Mv (S Mv (S Mv ?_)));obtain⟨x32,gx32,hE⟩:=bO hE;refine s0 (cutM (l:=(some a1)) (r:=(some x25)) (TK rfl) rfl rfl rfl rfl (by simp) gx32) rfl ?_;refine S Mv (S BU (S Mv ?_));refine Sf ?_;refine S As (S As (nil ?_));exact rt hE
 refine sk hK20 ?_;clear hK20 K20;refine seqK fun K33 hK33=>?_;refine seqR (S Mv ?_);obtain⟨x35,gx35,hE⟩:=bO hE;refine Sc rfl rfl (Z44_walk gx35) ?_;refine S Mv (G0 Mv ?_);refine G1 70 rfl BI ?_;refine S PO (nil ?_);refine cE hE (fun hc36 hE=>?_) (fun hc36 hE=>?_)
 ·refine seqR (S Mv (S Mv ?_));obtain⟨x38,gx38,hE⟩:=bO hE;refine s0 (addM rfl rfl gx38) rfl ?_;obtain⟨x39,gx39,hE⟩:=bO hE;refine Sc rfl rfl (Z50_walk gx39) ?_;refine S As (nil ?_);refine seqR (S Mv (S Mv (S Mv ?_)));obtain⟨x41,gx41,hE⟩:=bO hE;refine s0 (cutM (l:=(some a1)) (r:=(some x39)) (TK rfl) rfl rfl rfl rfl (by simp) gx41) rfl ?_;obtain⟨x42,gx42,hE⟩:=bO hE;refine Sc rfl rfl (Z35_walk gx42) ?_
  refine S Mv (S EX (S EX (S As (S As (nil ?_)))));refine seqR (S Mv (S Mv (S Mv ?_)));obtain⟨x44,gx44,hE⟩:=bO hE;refine s0 (cutM (l:=(some a1)) (r:=(some x39)) (TK rfl) rfl rfl rfl rfl (by simp) gx44) rfl ?_;refine S Mv (S BU (S Mv (S Mv ?_)));refine Sf ?_;refine S As (S As (nil ?_));exact rt hE
 refine sk hK33 ?_;clear hK33 K33;refine seqK fun K45 hK45=>?_;refine seqR (S Mv (S BI (nil ?_)));refine cE hE (fun hc47 hE=>?_) (fun hc47 hE=>?_)
 ·refine seqR (S Mv (S Mv ?_));obtain⟨x49,gx49,hE⟩:=bO hE;refine Sc rfl rfl (Z43_walk gx49) ?_;refine S As (nil ?_);refine seqK fun K50 hK50=>?_;refine seqR (S Mv (S BI (nil ?_)));refine cE hE (fun hc52 hE=>?_) (fun hc52 hE=>?_)
  ·refine seqR (S BU ?_);refine Sf ?_;refine S As (S As (nil ?_));exact rt hE
  refine sk hK50 ?_;clear hK50 K50;refine seqR (S Mv (S Mv (S Mv ?_)));obtain⟨x55,gx55,hE⟩:=bO hE;refine s0 (cutM (l:=(some a1)) (r:=(some x49)) (TK rfl) rfl rfl rfl rfl (by simp) gx55) rfl ?_;obtain⟨x56,gx56,hE⟩:=bO hE;refine Sc rfl rfl (Z36_walk gx56) ?_;refine S Mv (S EX (S EX (S As (S As (nil ?_)))));refine seqR (S Mv (S Mv (S BU (S Mv (S Mv ?_)))));refine Sf ?_;refine S As (S As (nil ?_));exact rt hE
 refine sk hK45 ?_;clear hK45 K45;refine seqR (S BU ?_);refine Sf ?_;refine S As (S As (nil ?_));exact rt hE
end Go.Proofs
